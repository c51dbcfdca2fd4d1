/-
  K22 K23 K12 K13 K14 K24 K43 K44 Z5 Z6 Z7 Z8 Z9 Z10 Z11 Z12 Z13 Z14 Z15 Z16 Z17: parts of a proof, joined by program.
-/
import Derived.Test.YtmelpejjondedaaGreatU8
import Derived.Test.YtmelpejjondedaaGreatU7
import Derived.Test.YtmelpejjondedaaGreatU6
import Derived.Tactics
import Derived.Tactics2
import Derived.Defers
import Derived.Laws.Pointers
import Derived.Laws.LoneSync
import Derived.RegionTactic
import Derived.RegionCalls
import Derived.ChangeAlike
import Derived.Laws.NewBlocks
namespace Go.Sy.YtmelpejjondedaaGreat
open Go.Proofs
attribute [local irreducible] Go.Sy.G Go.Sy.DR
set_option maxRecDepth 100000
set_option maxHeartbeats 4000000
theorem Sf {n:Net} (hb:Ag n=true) {p:Int} (h0:0≤p) (hp:p<n.ports.length):(nth n.ports p).link=-1∨0≤(nth n.ports p).link:=by
 have hk:p.toNat<n.ports.length:=by omega
 rw[Ao hk]
 simp only[Ag,Bool.and_eq_true]at hb
 have:=allB_iff.1 hb.1.1.1.1.1.2 _ hk
 simp only[Eu,Bool.and_eq_true,Bool.or_eq_true,Al,decide_eq_true_eq,beq_iff_eq]at this
 rcases this.2 with h | h
 ·exact .inl h
 ·exact .inr h.1.1
theorem Z4 (n:Net) (fw:List Bool) (from_:Int) (l:List Int) {j:Nat} (h:j<l.length):Cf n fw from_ (l.take (j+1))=if (!(decide (l[j]=from_) || !(usableB n fw l[j])))=true then Cf n fw from_ (l.take j)++[l[j]] else Cf n fw from_ (l.take j):=by
 simp only[Cf]
 rw[List.take_add_one,List.getElem?_eq_getElem h,List.filter_append,Option.toList_some]
 by_cases hc:(!(decide (l[j]=from_) || !(usableB n fw l[j])))=true
 ·rw[if_pos hc,List.filter_cons,if_pos hc];rfl
 ·rw[if_neg hc,List.filter_cons,if_neg hc];simp
theorem W6 (n:Net) (fw:List Bool) (from_:Int) (l:List Int):(Cf n fw from_ l).length≤l.length:=List.length_filter_le _ _
theorem We (n:Net) (hn:n.Fin) (fw:List Bool) (dom from_:Int) :
  Sy.Spec Tryz.prog 143 [Ap n,.sl 1 Ad fw,Aa dom,Aa from_] [] (.tup [.sl 1 Aa (floodT n fw dom from_).1,.sl 1 Aa (floodT n fw dom from_).2.1,Aa (floodT n fw dom from_).2.2]) []:=Ab Γ hm 100 F143 Tryz.ntmps143 rfl fun F hF=>by
 have hres:=floodT.eq_1 n fw dom from_
 generalize floodT n fw dom from_=res at *
 have qf:=Ahn n hn fw dom from_
 cases hroom:roomB n fw dom from_
 ·rw[hroom]at qf
  rw[if_pos hroom]at hres
  subst hres
  conv=>whnf
  refine Ah qf F209 E E E E E ?_
  (refine rg ?_;(conv=>whnf);refine aT ?_;refine rg ?_;conv=>whnf)
  refine An 8 1 Aa E ?_
  refine An 9 1 Aa E ?_
  exact Ac E (.cons .tmp (.cons .tmp (.cons .tmp .nil))) E E
 rw[hroom]at qf
 rw[if_neg (by rw[hroom];decide)]at hres
 have hb2:Km n fw dom=true:=by rw[I6,Bool.and_eq_true]at hroom;exact hroom.1
 simp only[Km,Bool.and_eq_true,decide_eq_true_eq]at hb2
 obtain ⟨⟨hd,hfw⟩,hbn⟩:=hb2
 have hdi:=Bd hd
 have hd0:0≤dom:=hdi.1
 have hkd:dom.toNat<n.domains.length:=by omega
 have e2:nth n.domains dom=n.domains[dom.toNat]:=Ao hkd
 have qm:=Ku n hn hbn dom
 have hmt:Ch n dom=A0 n dom:=by rw[Ch,if_pos ⟨⟨hdi.1,hdi.2⟩,hbn⟩]
 rw[hmt]at qm
 have hml:=I2 hn dom
 have qu:∀ p∈A0 n dom,_:=fun p hp=>Ub n fw p (B3 p hp).1 (B3 p hp).2 (by rw[hfw];exact Mk hbn (B3 p hp).1 (B3 p hp).2) (Sf hbn (B3 p hp).1 (B3 p hp).2)
 have hpo:=peersOut.eq_1 n dom from_
 rw[e2]at hpo
 obtain ⟨d,hdd⟩:∃ d,n.domains[dom.toNat]'hkd=d:=⟨_,rfl⟩
 rw[hdd]at hpo
 generalize A0 n dom=ml at *
 generalize peersOut n dom from_=po at *
 unfold Ar at hml
 conv=>whnf
 refine Ah qf F209 E E E E E ?_
 (refine rg ?_;(conv=>whnf);refine aF ?_;refine rg ?_;conv=>whnf)
 refine Ah qm F210 E E E E E ?_
 refine rg ?_;conv=>whnf
 refine Bm 11 1000 1 Aa E E ?_
 refine Bg 4 8 (Ap n) E E E ?_
 refine At ml.length (fun j=>[(1,.sl 1 Ad fw),(2,Aa dom),(3,Aa from_),(4,.ref 8 (Ap n) 0),(11,.osl 1000),(12,.sl 1 Aa ml),(13,Aa j)]) (fun j=>[(1000,.row 1 Aa (Cf n fw from_ (ml.take j)))]) [] ⟨⟨E,E,E,E,E,E,E,E,E,E,E,E,E,E,Y⟩,⟨.inl E,E,Y⟩,E,E⟩ ?_
 intro j hj
 have hsucc:=fun h:j<ml.length=>Z4 n fw from_ ml h
 have hlen:=W6 n fw from_ (ml.take j)
 rw[List.length_take]at hlen
 obtain ⟨u,hu⟩:∃ u,Cf n fw from_ (ml.take j)=u:=⟨_,rfl⟩
 rw[hu]at hsucc hlen ⊢
 refine rg ?_;conv=>whnf
 refine⟨fun h=>?_,fun h=>?_⟩
 ·have hlt:j<ml.length:=by have:=of_decide_eq_true h;omega
  have hs:=hsucc hlt
  have qx:=qu ml[j] (List.getElem_mem hlt)
  have hej:ml[((j:Nat):Int).toNat]'qn=ml[j]:=rfl
  obtain ⟨x,hx⟩:∃ x,ml[j]=x:=⟨_,rfl⟩
  rw[hx]at hs qx hej
  refine rg ?_;conv=>whnf
  refine⟨E,by omega,by omega,?_⟩
  rw[hej]
  conv=>whnf
  refine⟨fun h2=>?_,fun h2=>?_⟩
  ·have h3:¬ x=from_:=by simpa using h2
   refine rd qy ?_;conv=>whnf
   refine⟨E,by omega,by omega,?_⟩
   rw[hej]
   conv=>whnf
   refine Au qx F211 E E E qy E ?_
   cases hub:usableB n fw x
   ·rw[if_neg (by simp[hub])]at hs
    refine rd qy ?_;conv=>whnf
    refine⟨qy,?_⟩
    ((conv=>whnf);refine aF ?_;refine rg ?_;conv=>whnf)
    refine⟨by unfold I64;omega,?_⟩
    conv=>whnf
    exact Aq [] hlt ⟨⟨E,E,E,E,E,E,E,E,E,E,E,E,E,E,Y⟩,⟨.inl (congrArg (Ob.row 1 Aa) hs),E,Y⟩,E,E⟩
   ·rw[if_pos (by simp[hub,h3])]at hs
    refine rd qy ?_;conv=>whnf
    refine⟨qy,?_⟩
    ((conv=>whnf);refine aT ?_;refine rg ?_;conv=>whnf)
    refine⟨E,by omega,by omega,?_⟩
    rw[hej]
    conv=>whnf
    refine Ai (Ae Γ.toTy 60 rfl rfl rfl rfl rfl (.row rfl) (.lit (e:=Aa) (l:=[x]) rfl rfl) (fun j hj=>by cases hj;decide) (by simp;omega) (by simp;omega)) rfl rfl ?_
    refine rg ?_;conv=>whnf
    refine⟨by unfold I64;omega,?_⟩
    conv=>whnf
    exact Aq [(1000,60)] hlt ⟨⟨E,E,E,E,E,E,E,E,E,E,E,E,E,E,Y⟩,⟨.inl (congrArg (Ob.row 1 Aa) hs),E,Y⟩,E,E⟩
  ·have h3:x=from_:=by simpa using h2
   rw[if_neg (by simp[h3])]at hs
   refine rd qy ?_;conv=>whnf
   refine⟨qy,?_⟩
   ((conv=>whnf);refine aF ?_;refine rg ?_;conv=>whnf)
   refine⟨by unfold I64;omega,?_⟩
   conv=>whnf
   exact Aq [] hlt ⟨⟨E,E,E,E,E,E,E,E,E,E,E,E,E,E,Y⟩,⟨.inl (congrArg (Ob.row 1 Aa) hs),E,Y⟩,E,E⟩
 ·have:j=ml.length:=by have:=of_decide_eq_false h;omega
  subst this
  rw[List.take_length]at hu
  rw[hu]at hres
  refine As 1000 E ?_
  refine rg ?_;conv=>whnf
  refine⟨fun h2=>?_,fun h2=>?_⟩
  ·rw[if_pos (by simpa using h2)]at hpo
   rw[hpo]at hres
   subst hres
   refine rg ?_;conv=>whnf
   refine An 9 1 Aa E ?_
   exact Ac E (.cons .tmp (.cons .tmp (.cons .tmp .nil))) E E
  ·rw[if_neg (by simpa using h2)]at hpo
   rw[hpo]at hres
   subst hres
   refine rg ?_;conv=>whnf
   refine⟨E,hd0,hkd,?_⟩
   rw[hdd]
   conv=>whnf
   refine⟨qy,?_⟩
   conv=>whnf
   exact Ac E (.cons .tmp (.cons .tmp (.cons .tmp .nil))) E E
theorem Afg {b:Bool} (h:(!b)=true):b=false:=by simpa using h
theorem Acl (n:Net) (hn:n.Fin) (dom:Int) (m:Nat):Sy.Spec Tryz.prog 218 [Ap n,Aa dom,Az m] [] (Aa (staticP n dom m)) []:=Ab Γ hm 100 F218 Tryz.ntmps218 rfl fun F hF=>by
 have hst:=hn.statics
 unfold Ar at hst
 conv=>whnf
 refine Bg 3 8 (Ap n) E E E ?_
 refine A2 n.statics.length (fun j=>Dd (fun _ s=>!(decide (Static.domain s=dom) && decide (Static.mac s=(m:Int)))) n.statics j) (fun j=>[(1,Aa dom),(2,Az m),(3,.ref 8 (Ap n) 0),(7,Aa j)]) (fun _=>[]) [] (A5 _ _) ⟨⟨E,E,E,E,E,E,E,E,Y⟩,Y,E,E⟩ ?_
 intro j hj hI
 refine rg ?_;conv=>whnf
 refine⟨fun h=>?_,fun h=>?_⟩
 ·have hlt:j<n.statics.length:=by have:=of_decide_eq_true h;omega
  have hej:n.statics[((j:Nat):Int).toNat]'qn=n.statics[j]:=rfl
  have hfound:(decide (n.statics[j].domain=dom) && decide (n.statics[j].mac=(m:Int)))=true→staticP n dom m=n.statics[j].port:=fun h=>by
   have:Dj n dom m=j:=C1 hlt (fun i hi hij=>Afg (hI i hi hij)) h
   rw[staticP,this,if_pos qn,Ao (by simpa using hlt)];rfl
  have hnext:(decide (n.statics[j].domain=dom) && decide (n.statics[j].mac=(m:Int)))=false→Dd (fun _ s=>!(decide (Static.domain s=dom) && decide (Static.mac s=(m:Int)))) n.statics (j+1):=fun h=>A3 hI hlt (by simp only[h];rfl)
  obtain ⟨x,hx⟩:∃ x,n.statics[j]=x:=⟨_,rfl⟩
  rw[hx]at hej hfound hnext
  refine rg ?_;conv=>whnf
  refine⟨E,by omega,by omega,?_⟩
  rw[hej]
  conv=>whnf
  refine⟨fun h2=>?_,fun h2=>?_⟩
  ·have h3:x.domain=dom:=by simpa using h2
   refine rg ?_;conv=>whnf
   refine⟨E,by omega,by omega,?_⟩
   rw[hej]
   conv=>whnf
   refine⟨fun h4=>?_,fun h4=>?_⟩
   ·rw[hfound (by rw[decide_eq_true h3,decide_eq_true (by simpa using h4)];rfl)]
    refine rg ?_;conv=>whnf
    refine⟨E,by omega,by omega,?_⟩
    rw[hej]
    conv=>whnf
    exact Ac E (.cons .tmp .nil) E E
   ·have hI2:=hnext (by rw[decide_eq_false (p:=x.mac=(m:Int)) (by simpa using h4),Bool.and_false])
    refine rg ?_;conv=>whnf
    refine⟨by unfold I64;omega,?_⟩
    conv=>whnf
    exact Aw [] hI qn hI2 ⟨⟨E,E,E,E,E,E,E,E,Y⟩,Y,E,E⟩
  ·have hI2:=hnext (by rw[decide_eq_false (p:=x.domain=dom) (by simpa using h2),Bool.false_and])
   (refine rg ?_;(conv=>whnf);refine aF ?_;refine rg ?_;conv=>whnf)
   refine⟨by unfold I64;omega,?_⟩
   conv=>whnf
   exact Aw [] hI qn hI2 ⟨⟨E,E,E,E,E,E,E,E,Y⟩,Y,E,E⟩
 ·have hend:j=n.statics.length:=by have:=of_decide_eq_false h;omega
  subst hend
  have hno:Dj n dom m=-1:=Dc fun i hi=>Afg (hI i hi hi)
  have hp:staticP n dom m=-1:=by rw[staticP,hno,if_neg qz]
  rw[hp]
  refine rg ?_;conv=>whnf
  exact Ac E (.cons .tmp .nil) E E
theorem Alq (n:Net) (fw:List Bool) (p from_:Int) (hb:Ag n=true) (hfw:fw.length=n.links.length) (h0:0≤p) (hp:p<n.ports.length) :
  Sy.Spec Tryz.prog 219 [Ap n,.sl 1 Ad fw,Aa p,Aa from_] [] (.sl 1 Aa (Cf n fw from_ [p])) []:=Ab Γ hm 100 F219 Tryz.ntmps219 rfl fun F hF=>by
 have q:=Ub n fw p h0 hp (by rw[hfw];exact Mk hb h0 hp) (Sf hb h0 hp)
 have hres:Cf n fw from_ [p]=if (!(decide (p=from_) || !(usableB n fw p)))=true then [p] else []:=by
  simp only[Cf,List.filter_cons,List.filter_nil]
 rw[hres]
 conv=>whnf
 refine⟨fun h=>?_,fun h=>?_⟩
 ·have h1:p=from_:=by simpa using h
  rw[if_neg (by simp[h1])]
  (refine rg ?_;(conv=>whnf);refine aT ?_;refine rg ?_;conv=>whnf)
  refine An 8 1 Aa E ?_
  exact Ac E (.cons .tmp .nil) E E
 have h1:¬ p=from_:=by simpa using h
 refine rg ?_;conv=>whnf
 refine Ah q F211 E E E E E ?_
 cases hub:usableB n fw p
 ·rw[if_neg za]
  (refine rg ?_;(conv=>whnf);refine aT ?_;refine rg ?_;conv=>whnf)
  refine An 8 1 Aa E ?_
  exact Ac E (.cons .tmp .nil) E E
 ·rw[if_pos (by simp[h1])]
  (refine rg ?_;(conv=>whnf);refine aF ?_;refine rg ?_;conv=>whnf)
  refine Dm 20 Aa [p] E E ?_
  refine As 20 E ?_
  exact Ac E (.cons .tmp .nil) E E
theorem Z1 (x:Int) (g:Bool) (q:Sy.Spec Tryz.prog 77 [Az x] [] (Ad g) []):Sy.Spec Tryz.prog 49 [Az x] [] (Ad (decide (x<281474976710656) && !g)) []:=Ab Γ hm 100 F49 Tryz.ntmps49 rfl fun F hF=>by
 conv=>whnf
 refine⟨fun h1=>?_,fun h1=>?_⟩
 ·refine rg ?_;conv=>whnf
  refine Ah q F77 E E E E E ?_
  refine rg ?_;conv=>whnf
  exact Ac E (.cons .tmp .nil) (congrArg Ad (by rw[h1,Bool.true_and])) E
 ·refine rg ?_;conv=>whnf
  exact Ac E (.cons .tmp .nil) (congrArg Ad (by rw[h1,Bool.false_and])) E
theorem Sd (m:Nat) (h:m<18446744073709551616):Sy.Spec Tryz.prog 49 [Az m] [] (Ad (Ek m)) []:=by
 have q:=Z1 m _ (I7 m h)
 have e:decide ((m:Int)<281474976710656)=decide (m≤281474976710655):=by
  by_cases h:m≤281474976710655
  ·rw[decide_eq_true h,decide_eq_true qn]
  ·rw[decide_eq_false h,decide_eq_false qn]
 rw[e]at q
 exact q
theorem Mg (i:Int):Sy.Spec Tryz.prog 50 [Aa i] [] (Ad (Cp i)) []:=Ab Γ hm 100 F50 Tryz.ntmps50 rfl fun F hF=>by
 conv=>whnf
 (repeat' (first | (refine⟨fun h=>?_,fun h=>?_⟩<;>(repeat (first | simp only[decide_eq_true_eq]at h | simp only[decide_eq_false_iff_not]at h))<;>((refine rg ?_);(conv=>whnf))) | (refine Ac rfl (.cons .tmp .nil) ?_ rfl)))
 all_goals (refine congrArg Ad ?_)
 all_goals grind [Cp]
theorem O3 {t:List EntryM} {m:Nat} {j:Nat} (hj:j<t.length) (h1:∀ k (hk:k<t.length),k<j→t[k].mac≠m) (h2:t[j].mac=m):Ct t m=j :=
 C1 hj (fun k hk hkj=>decide_eq_false (h1 k hk hkj)) (decide_eq_true h2)
theorem Ye (t:List EntryM) (m:Nat) (hl:Ar t):Sy.Spec Tryz.prog 212 [.sl 3 Am t,Az m] [] (.tup [Aa (findE t m).1,Ad (findE t m).2]) []:=Ab Γ hm 100 F212 Tryz.ntmps212 rfl fun F hF=>by
 unfold Ar at hl
 conv=>whnf
 refine A2 t.length (fun j=>∀ k (hk:k<t.length),k<j→t[k].mac≠m) (fun j=>[(0,.sl 3 Am t),(1,Az m),(6,Aa j)]) (fun _=>[]) [] (fun k _ h=>absurd h qn) ⟨⟨E,E,E,E,E,E,Y⟩,Y,E,E⟩ ?_
 intro j hj hI
 refine rg ?_;conv=>whnf
 refine⟨fun h=>?_,fun h=>?_⟩
 ·have hlt:j<t.length:=by have:=of_decide_eq_true h;omega
  refine rg ?_;conv=>whnf
  refine⟨E,by omega,by omega,?_⟩
  rw[show t[((j:Nat):Int).toNat]'qn=t[j] from rfl]
  conv=>whnf
  refine⟨fun h2=>?_,fun h2=>?_⟩
  ·have h3:t[j].mac=m:=by simp at h2;omega
   have hix:=O3 hlt hI h3
   have hfe:findE t m=(t[j].where_,true):=by
    rw[findE,hix,if_neg qn,Int.toNat_natCast,List.getElem?_eq_getElem hlt];rfl
   rw[hfe]
   refine rg ?_;conv=>whnf
   refine⟨E,by omega,by omega,?_⟩
   rw[show t[((j:Nat):Int).toNat]'qn=t[j] from rfl]
   conv=>whnf
   exact Ac E (.cons .tmp (.cons .tmp .nil)) E E
  ·have h3:t[j].mac≠m:=by simp at h2;omega
   refine rg ?_;conv=>whnf
   refine⟨by unfold I64;omega,?_⟩
   conv=>whnf
   exact Aw [] hI qn (fun k hk hkj=>by
    by_cases hkj2:k<j
    ·exact hI k hk hkj2
    ·have:k=j:=by omega
     subst this
     exact h3) ⟨⟨E,E,E,E,E,E,Y⟩,Y,E,E⟩
 ·have hend:j=t.length:=by have:=of_decide_eq_false h;omega
  subst hend
  have hix:Ct t m=-1:=Dc fun i hi=>decide_eq_false (hI i hi hi)
  have hfe:findE t m=(0,false):=by rw[findE,hix,if_pos qz]
  rw[hfe]
  refine rg ?_;conv=>whnf
  exact Ac E (.cons .tmp (.cons .tmp .nil)) E E
theorem Agb {t:List EntryM} {j:Nat} (hj:j<t.length):Ct t t[j].mac=j↔∀ k (hk:k<t.length),k<j→t[k].mac≠t[j].mac:=by
 refine⟨fun h k hk hkj he=>?_,fun h=>O3 hj h E⟩
 rcases Is (fun e=>decide (EntryM.mac e=t[j].mac)) t with ⟨h1,_⟩ | ⟨i,hi,h1,h2,h3⟩
 ·rw[Ct,h1]at h;omega
 ·have:i=j:=by rw[Ct,h1]at h;omega
  subst this
  have:=h3 k hk hkj
  rw[decide_eq_false_iff_not]at this
  exact this he
theorem Kv (t:List EntryM) (hl:Ar t) (hmac:∀ e∈t,e.mac<18446744073709551616):Sy.Spec Tryz.prog 20 [.sl 3 Am t] [] (Ad (tableB t)) []:=Ab Γ hm 100 F20 Tryz.ntmps20 rfl fun F hF=>by
 unfold Ar at hl
 have hres:=tableB.eq_1 t
 generalize tableB t=res at *
 conv=>whnf
 refine⟨fun h=>?_,fun h=>?_⟩
 ·have h8:¬ t.length≤8:=by simp at h;omega
  rw[decide_eq_false h8,Bool.false_and]at hres
  subst hres
  refine rg ?_;conv=>whnf
  exact Ac E (.cons .tmp .nil) E E
 have h8:t.length≤8:=by simp at h;omega
 rw[decide_eq_true h8,Bool.true_and]at hres
 refine rg ?_;conv=>whnf
 refine A2 t.length (fun j=>Dd (Iv t) t j) (fun j=>[(0,.sl 3 Am t),(3,Aa j)]) (fun _=>[]) [] (A5 _ _) ⟨⟨E,E,E,E,Y⟩,Y,E,E⟩ ?_
 intro j hj hI
 refine rg ?_;conv=>whnf
 refine⟨fun h=>?_,fun h=>?_⟩
 ·have hlt:j<t.length:=by have:=of_decide_eq_true h;omega
  have q1:=Sd t[j].mac (hmac _ (List.getElem_mem hlt))
  have q2:=Mg t[j].seen
  have hfirst:=Agb hlt
  have hent:Iv t j t[j]=(Ek t[j].mac && Cp t[j].seen && decide (Ct t t[j].mac=j)):=rfl
  have hbad:Iv t j t[j]=false→res=false:=fun hf=>by rw[hres];exact Be hlt hf
  have hgood:Iv t j t[j]=true→Dd (Iv t) t (j+1):=fun ht=>A3 hI hlt ht
  have hej:t[((j:Nat):Int).toNat]'qn=t[j]:=rfl
  obtain ⟨x,hx⟩:∃ x,t[j]=x:=⟨_,rfl⟩
  rw[hx]at q1 q2 hfirst hent hbad hgood hej
  refine rg ?_;conv=>whnf
  refine⟨E,by omega,by omega,?_⟩
  rw[hej]
  conv=>whnf
  refine Ah q1 F49 E E E E E ?_
  cases h1:Ek x.mac
  ·rw[hbad (by rw[hent,h1];rfl)]
   (refine rg ?_;(conv=>whnf);refine aT ?_;refine rg ?_;(conv=>whnf);refine aT ?_;refine rg ?_;conv=>whnf)
   exact Ac E (.cons .tmp .nil) E E
  (refine rg ?_;(conv=>whnf);refine aF ?_;refine rg ?_;conv=>whnf)
  refine⟨E,by omega,by omega,?_⟩
  rw[hej]
  conv=>whnf
  refine Ah q2 F50 E E E E E ?_
  cases h2:Cp x.seen
  ·rw[hbad (by rw[hent,h1,h2];rfl)]
   (refine rg ?_;(conv=>whnf);refine aT ?_;refine rg ?_;conv=>whnf)
   exact Ac E (.cons .tmp .nil) E E
  (refine rg ?_;(conv=>whnf);refine aF ?_;refine rg ?_;conv=>whnf)
  refine A2 j (fun i=>∀ k (hk:k<t.length),k<i→t[k].mac≠x.mac) (fun i=>[(0,.sl 3 Am t),(3,Aa j),(4,Aa i)]) (fun _=>[]) [] (fun k _ h=>absurd h qn) ⟨⟨E,E,E,E,E,E,Y⟩,Y,E,E⟩ ?_
  intro i hi hJ
  refine rg ?_;conv=>whnf
  refine⟨fun h=>?_,fun h=>?_⟩
  ·have hlt2:i<j:=by have:=of_decide_eq_true h;omega
   refine rg ?_;conv=>whnf
   refine⟨E,by omega,by omega,?_⟩
   rw[show t[((i:Nat):Int).toNat]'qn=t[i] from rfl]
   conv=>whnf
   refine⟨E,by omega,by omega,?_⟩
   rw[hej]
   conv=>whnf
   refine⟨qy,?_⟩
   conv=>whnf
   refine⟨fun h3=>?_,fun h3=>?_⟩
   ·have h4:t[i].mac=x.mac:=by simp at h3;omega
    have h5:¬ Ct t x.mac=j:=fun h=>hfirst.1 h i qn hlt2 h4
    rw[hbad (by rw[hent,h1,h2,decide_eq_false h5];rfl)]
    refine rg ?_;conv=>whnf
    exact Ac E (.cons .tmp .nil) E E
   ·have h4:t[i].mac≠x.mac:=by simp at h3;omega
    refine rg ?_;conv=>whnf
    refine⟨by unfold I64;omega,?_⟩
    conv=>whnf
    exact Aw [] hJ qn (fun k hk hki=>by
     by_cases hki2:k<i
     ·exact hJ k hk hki2
     ·have:k=i:=by omega
      subst this
      exact h4) ⟨⟨E,E,E,E,E,E,Y⟩,Y,E,E⟩
  ·have:i=j:=by have:=of_decide_eq_false h;omega
   subst this
   have h4:=hgood (by rw[hent,h1,h2,decide_eq_true (hfirst.2 hJ)];rfl)
   refine rg ?_;conv=>whnf
   refine⟨by unfold I64;omega,?_⟩
   conv=>whnf
   exact Aw [] hI qn h4 ⟨⟨E,E,E,E,Y⟩,Y,E,E⟩
 ·have hend:j=t.length:=by have:=of_decide_eq_false h;omega
  subst hend
  rw[hres.trans (Cc hI (Nat.le_refl _))]
  refine rg ?_;conv=>whnf
  exact Ac E (.cons .tmp .nil) E E
theorem Ase (t:List EntryM) (now:Int):ageT t now=t.filter fun e=>!(tableB t) || !(Cp now) || decide (now-e.seen≤4):=by
 unfold ageT
 split
 ·rename_i h
  refine(List.filter_eq_self.2 fun e _=>?_).symm
  rcases h with h | h<;>simp[h]
 ·rename_i h
  rw[not_or]at h
  refine List.filter_congr fun e _=>?_
  have h1:tableB t=true:=by simpa using h.1
  have h2:Cp now=true:=by simpa using h.2
  rw[h1,h2,Bool.eq_iff_iff]
  simp
  omega
theorem table_seen {t:List EntryM} (h:tableB t=true) {i:Nat} (hi:i<t.length):0≤t[i].seen∧t[i].seen≤1099511627776:=by
 simp only[tableB,Bool.and_eq_true]at h
 have h2:=allB_iff.1 h.2 i hi
 simp only[Iv,Bool.and_eq_true,Cp,decide_eq_true_eq]at h2
 exact h2.1.2
theorem Aa1 (t:List EntryM) (now:Int) (hl:Ar t) (hmac:∀ e∈t,e.mac<18446744073709551616):Sy.Spec Tryz.prog 40 [.sl 3 Am t,Aa now] [] (.sl 3 Am (ageT t now)) []:=Ab Γ hm 100 F40 Tryz.ntmps40 rfl fun F hF=>by
 have q1:=Kv t hl hmac
 have q2:=Mg now
 unfold Ar at hl
 have hseen:=@table_seen t
 rw[Ase]
 obtain ⟨c,hc⟩:∃ c:EntryM→Bool,(fun e=>!(tableB t) || !(Cp now) || decide (now-e.seen≤4))=c:=⟨_,rfl⟩
 rw[hc]
 conv=>whnf
 refine Bm 5 1000 3 Am E E ?_
 refine At t.length (fun j=>[(0,.sl 3 Am t),(1,Aa now),(5,.osl 1000),(6,Aa j)]) (fun j=>[(1000,.row 3 Am ((t.take j).filter c))]) [] ⟨⟨E,E,E,E,E,E,E,E,Y⟩,⟨.inl E,E,Y⟩,E,E⟩ ?_
 intro j hj
 have hfl:((t.take j).filter c).length≤j:=Nat.le_trans (List.length_filter_le _ _) (by rw[List.length_take];omega)
 have hsucc:∀ h:j<t.length,(t.take (j+1)).filter c=if c t[j]=true then (t.take j).filter c++[t[j]] else (t.take j).filter c:=fun h=>by
  rw[List.take_add_one,List.getElem?_eq_getElem h,List.filter_append]
  by_cases hct:c t[j]=true
  ·rw[if_pos hct];simp[hct]
  ·rw[if_neg hct];simp[hct]
 refine rg ?_;conv=>whnf
 refine⟨fun h=>?_,fun h=>?_⟩
 ·have hlt:j<t.length:=by have:=of_decide_eq_true h;omega
  have hs:=hsucc hlt
  have hct:c t[j]=(!(tableB t) || !(Cp now) || decide (now-t[j].seen≤4)):=by rw[← hc]
  have hsj:=fun h=>hseen h hlt
  have hej:t[((j:Nat):Int).toNat]'qn=t[j]:=rfl
  obtain ⟨u,hu⟩:∃ u,(t.take j).filter c=u:=⟨_,rfl⟩
  obtain ⟨x,hx⟩:∃ x,t[j]=x:=⟨_,rfl⟩
  rw[hu]at hs hfl ⊢
  rw[hx]at hs hct hsj hej
  have fin:∀ b:Bool,c x=b→True:=fun _ _=>trivial
  refine rg ?_;conv=>whnf
  refine Ah q1 F20 E E E E E ?_
  cases h1:tableB t
  ·rw[h1]at hct
   have hcx:c x=true:=by rw[hct];rfl
   rw[if_pos hcx]at hs
   (refine rg ?_;(conv=>whnf);refine aT ?_;refine rg ?_;(conv=>whnf);refine aT ?_;refine rg ?_;(conv=>whnf);refine aT ?_;refine rg ?_;conv=>whnf)
   refine⟨E,by omega,by omega,?_⟩
   rw[hej]
   conv=>whnf
   refine Ai (Ae Γ.toTy 60 rfl rfl rfl rfl rfl (.row rfl) (.lit (e:=Am) (l:=[x]) rfl rfl) (fun j hj=>by cases hj;decide) (by simp;omega) (by simp;omega)) rfl rfl ?_
   refine rg ?_;conv=>whnf
   refine⟨by unfold I64;omega,?_⟩
   conv=>whnf
   exact Aq [(1000,60)] hlt ⟨⟨E,E,E,E,E,E,E,E,Y⟩,⟨.inl (congrArg (Ob.row 3 Am) hs),E,Y⟩,E,E⟩
  (refine rg ?_;(conv=>whnf);refine aF ?_;refine rg ?_;conv=>whnf)
  refine Ah q2 F50 E E E E E ?_
  cases h2:Cp now
  ·rw[h1,h2]at hct
   have hcx:c x=true:=by rw[hct];rfl
   rw[if_pos hcx]at hs
   (refine rg ?_;(conv=>whnf);refine aT ?_;refine rg ?_;(conv=>whnf);refine aT ?_;refine rg ?_;conv=>whnf)
   refine⟨E,by omega,by omega,?_⟩
   rw[hej]
   conv=>whnf
   refine Ai (Ae Γ.toTy 60 rfl rfl rfl rfl rfl (.row rfl) (.lit (e:=Am) (l:=[x]) rfl rfl) (fun j hj=>by cases hj;decide) (by simp;omega) (by simp;omega)) rfl rfl ?_
   refine rg ?_;conv=>whnf
   refine⟨by unfold I64;omega,?_⟩
   conv=>whnf
   exact Aq [(1000,60)] hlt ⟨⟨E,E,E,E,E,E,E,E,Y⟩,⟨.inl (congrArg (Ob.row 3 Am) hs),E,Y⟩,E,E⟩
  have hsj:=hsj h1
  have hnow:0≤now∧now≤1099511627776:=by simpa [Cp] using h2
  rw[h1,h2]at hct
  (refine rg ?_;(conv=>whnf);refine aF ?_;refine rg ?_;conv=>whnf)
  refine⟨E,by omega,by omega,?_⟩
  rw[hej]
  conv=>whnf
  refine⟨by unfold I64;omega,?_⟩
  conv=>whnf
  refine⟨fun h3=>?_,fun h3=>?_⟩
  ·have hcx:c x=true:=by rw[hct,h3];rfl
   rw[if_pos hcx]at hs
   refine rg ?_;conv=>whnf
   refine⟨E,by omega,by omega,?_⟩
   rw[hej]
   conv=>whnf
   refine Ai (Ae Γ.toTy 60 rfl rfl rfl rfl rfl (.row rfl) (.lit (e:=Am) (l:=[x]) rfl rfl) (fun j hj=>by cases hj;decide) (by simp;omega) (by simp;omega)) rfl rfl ?_
   refine rg ?_;conv=>whnf
   refine⟨by unfold I64;omega,?_⟩
   conv=>whnf
   exact Aq [(1000,60)] hlt ⟨⟨E,E,E,E,E,E,E,E,Y⟩,⟨.inl (congrArg (Ob.row 3 Am) hs),E,Y⟩,E,E⟩
  ·have hcx:¬ c x=true:=by rw[hct,h3];decide
   rw[if_neg hcx]at hs
   refine rg ?_;conv=>whnf
   refine⟨by unfold I64;omega,?_⟩
   conv=>whnf
   exact Aq [] hlt ⟨⟨E,E,E,E,E,E,E,E,Y⟩,⟨.inl (congrArg (Ob.row 3 Am) hs),E,Y⟩,E,E⟩
 ·have:j=t.length:=by have:=of_decide_eq_false h;omega
  subst this
  rw[List.take_length]
  refine As 1000 E ?_
  refine rg ?_;conv=>whnf
  exact Ac E (.cons .tmp .nil) E E
def H4 (t:List EntryM) (m:Nat) (new:EntryM) (old:Int):Nat→List EntryM
 | 0=>[]
 | j+1=>match t[j]? with
  | some x=>if x.mac=m then H4 t m new old j++[new] else if (j:Int)≠old then H4 t m new old j++[x] else H4 t m new old j
  | none=>H4 t m new old j
def Aff (t:List EntryM):Nat→Int
 | 0=>-1
 | j+1=>(oldestU t (j+1):Nat)
theorem Ah4 {t:List EntryM} {m:Nat} {new:EntryM} {i:Nat} (hi:i<t.length) (h:∀ j (hj:j<t.length),t[j].mac=m↔j=i) (j:Nat) (hj:j≤t.length):H4 t m new (-1) j=(t.set i new).take j:=by
 induction j with
 | zero=>rfl
 | succ j ih =>
  have hjl:j<t.length:=by omega
  rw[H4,List.getElem?_eq_getElem hjl,ih qn]
  have hsl:j<(t.set i new).length:=by rw[List.length_set];omega
  rw[List.take_add_one,List.getElem?_eq_getElem hsl]
  dsimp only
  by_cases hm1:t[j].mac=m
  ·have:=(h j hjl).1 hm1
   subst this
   rw[if_pos hm1,List.getElem_set_self];rfl
  ·have hne:i≠j:=fun e=>hm1 ((h j hjl).2 e.symm)
   rw[if_neg hm1,if_pos qn,List.getElem_set_ne hne];rfl
theorem Al0 {t:List EntryM} {m:Nat} {new:EntryM} (h:∀ j (hj:j<t.length),t[j].mac≠m) (j:Nat) (hj:j≤t.length):H4 t m new (-1) j=t.take j:=by
 induction j with
 | zero=>rfl
 | succ j ih =>
  have hjl:j<t.length:=by omega
  rw[H4,List.getElem?_eq_getElem hjl,ih qn,List.take_add_one,List.getElem?_eq_getElem hjl]
  dsimp only
  rw[if_neg (h j hjl),if_pos qn];rfl
theorem Aom {t:List EntryM} {m:Nat} {new:EntryM} (o:Nat) (h:∀ j (hj:j<t.length),t[j].mac≠m) (j:Nat) (hj:j≤t.length):H4 t m new o j=(t.take j).eraseIdx o:=by
 induction j with
 | zero=>rw[H4,List.take_zero,List.eraseIdx_nil]
 | succ j ih =>
  have hjl:j<t.length:=by omega
  have hlen:(t.take j).length=j:=by rw[List.length_take];omega
  rw[H4,List.getElem?_eq_getElem hjl,ih qn,List.take_add_one,List.getElem?_eq_getElem hjl]
  dsimp only
  rw[if_neg (h j hjl),Option.toList_some]
  by_cases ho:o<j
  ·rw[if_pos qn,List.eraseIdx_append_of_lt_length qn]
  ·rw[List.eraseIdx_append_of_length_le qn,hlen,List.eraseIdx_of_length_le (l:=t.take j) qn]
   by_cases hoj:o=j
   ·subst hoj
    rw[if_neg qn,Nat.sub_self];simp
   ·rw[if_pos qn,List.eraseIdx_of_length_le (by simp;omega)]
theorem find_none {t:List EntryM} {m:Nat} (h:(findE t m).2=false):Ct t m=-1∧∀ j (hj:j<t.length),t[j].mac≠m:=by
 rcases Is (fun e=>decide (EntryM.mac e=m)) t with ⟨h1,h2⟩ | ⟨i,hi,h1,h2,h3⟩
 ·exact⟨h1,fun j hj=>of_decide_eq_false (h2 t[j] (List.getElem_mem hj))⟩
 ·have h4:Ct t m=i:=h1
  rw[findE,h4,if_neg qn]at h
  cases h
theorem find_some {t:List EntryM} {m:Nat} (hr:tableB t=true) (h:(findE t m).2=true):∃ (i:Nat) (hi:i<t.length),Ct t m=i∧∀ j (hj:j<t.length),t[j].mac=m↔j=i:=by
 rcases Is (fun e=>decide (EntryM.mac e=m)) t with ⟨h1,h2⟩ | ⟨i,hi,h1,h2,h3⟩
 ·have h4:Ct t m=-1:=h1
  rw[findE,h4,if_pos qz]at h
  cases h
 ·have him:t[i].mac=m:=of_decide_eq_true h2
  refine⟨i,hi,h1,fun j hj=>⟨fun hj2=>?_,fun e=>by subst e;exact him⟩⟩
  simp only[tableB,Bool.and_eq_true]at hr
  have he:=allB_iff.1 hr.2 j hj
  simp only[Iv,Bool.and_eq_true,decide_eq_true_eq]at he
  have:=he.2
  rw[hj2]at this
  have h4:Ct t m=i:=h1
  omega
theorem Qs (t:List EntryM) (m:Nat) (new:EntryM) (old:Int) {j:Nat} (h:j<t.length):H4 t m new old (j+1)=if t[j].mac=m then H4 t m new old j++[new] else if (j:Int)≠old then H4 t m new old j++[t[j]] else H4 t m new old j:=by
 rw[H4,List.getElem?_eq_getElem h]
theorem Kw (t:List EntryM) (m:Nat) (new:EntryM) (old:Int) (j:Nat):(H4 t m new old j).length≤j:=by
 induction j with
 | zero=>exact Nat.le_refl _
 | succ j ih =>
  rw[H4]
  split
  ·split
   ·rw[List.length_append];simp;omega
   ·split
    ·rw[List.length_append];simp;omega
    ·omega
  ·omega
theorem Wf (t:List EntryM) (m:Nat) (wh now:Int) (hl:Ar t) (hmac:∀ e∈t,e.mac<18446744073709551616) (hm64:m<18446744073709551616) :
  Sy.Spec Tryz.prog 144 [.sl 3 Am t,Az m,Aa wh,Aa now] [] (.sl 3 Am (learnT t m wh now)) []:=Ab Γ hm 100 F144 Tryz.ntmps144 rfl fun F hF=>by
 have q1:=Kv t hl hmac
 have q2:=Sd m hm64
 have q3:=Mg now
 have q4:=Ye t m hl
 unfold Ar at hl
 have hres:=learnT.eq_1 t m wh now
 generalize learnT t m wh now=res at *
 conv=>whnf
 refine Ah q1 F20 E E E E E ?_
 cases h1:tableB t
 ·rw[if_pos (.inl h1)]at hres
  subst hres
  (refine rg ?_;(conv=>whnf);refine aT ?_;refine rg ?_;(conv=>whnf);refine aT ?_;refine rg ?_;(conv=>whnf);refine aT ?_;refine rg ?_;conv=>whnf)
  refine Ai (Ae Γ.toTy 30 E E E E E (.lit (e:=Am) (l:=[]) E E) .sl za (by simp;omega) (by simp;omega)) E E ?_
  refine As 30 E ?_
  refine rg ?_;conv=>whnf
  exact Ac E (.cons .tmp .nil) E E
 (refine rg ?_;(conv=>whnf);refine aF ?_;refine rg ?_;conv=>whnf)
 refine Ah q2 F49 E E E E E ?_
 cases h2:Ek m
 ·rw[if_pos (.inr (.inl h2))]at hres
  subst hres
  (refine rg ?_;(conv=>whnf);refine aT ?_;refine rg ?_;(conv=>whnf);refine aT ?_;refine rg ?_;conv=>whnf)
  refine Ai (Ae Γ.toTy 30 E E E E E (.lit (e:=Am) (l:=[]) E E) .sl za (by simp;omega) (by simp;omega)) E E ?_
  refine As 30 E ?_
  refine rg ?_;conv=>whnf
  exact Ac E (.cons .tmp .nil) E E
 (refine rg ?_;(conv=>whnf);refine aF ?_;refine rg ?_;conv=>whnf)
 refine Ah q3 F50 E E E E E ?_
 cases h3:Cp now
 ·rw[if_pos (.inr (.inr h3))]at hres
  subst hres
  (refine rg ?_;(conv=>whnf);refine aT ?_;refine rg ?_;conv=>whnf)
  refine Ai (Ae Γ.toTy 30 E E E E E (.lit (e:=Am) (l:=[]) E E) .sl za (by simp;omega) (by simp;omega)) E E ?_
  refine As 30 E ?_
  refine rg ?_;conv=>whnf
  exact Ac E (.cons .tmp .nil) E E
 rw[if_neg (by simp[h1,h2,h3])]at hres
 have ht8:t.length≤8:=by simp only[tableB,Bool.and_eq_true,decide_eq_true_eq]at h1;exact h1.1
 have hno:=@find_none t m
 have hso:=@find_some t m h1
 generalize findE t m=fe at *
 obtain ⟨fw,th⟩:=fe
 dsimp only at hno hso
 (refine rg ?_;(conv=>whnf);refine aF ?_;refine rg ?_;conv=>whnf)
 refine Ah q4 F212 E E E E E ?_
 by_cases hcase:t.length=8∧th=false
 ·obtain ⟨hc8,rfl⟩:=hcase
  obtain ⟨hi1,hi2⟩:=hno rfl
  obtain ⟨old,hold⟩:∃ old:Int,Aff t t.length=old:=⟨_,rfl⟩
  have hold2:old=(oldestU t t.length:Nat):=by rw[← hold,hc8];rfl
  have hout:res=if (false:Bool)=true then H4 t m ⟨m,wh,now⟩ old t.length else H4 t m ⟨m,wh,now⟩ old t.length++[⟨m,wh,now⟩]:=by
   rw[if_neg qz,hres,hi1,if_neg qz,if_pos hc8,hold2,Aom _ hi2 _ (Nat.le_refl _),List.take_length]
  refine rg ?_;conv=>whnf
  refine At t.length (fun j=>[(0,.sl 3 Am t),(1,Az m),(2,Aa wh),(3,Aa now),(10,Ad false),(11,Aa (Aff t j)),(12,Aa j)]) (fun _=>[]) [] ⟨⟨E,E,E,E,E,E,E,E,E,E,E,E,E,E,Y⟩,Y,E,E⟩ ?_
  intro j hj
  refine rg ?_;conv=>whnf
  refine⟨fun h=>?_,fun h=>?_⟩
  ·have hlt:j<t.length:=by have:=of_decide_eq_true h;omega
   refine rg ?_;conv=>whnf
   refine⟨fun _=>?_,fun h=>absurd h (by simp;omega)⟩
   cases j with
   | zero =>
    have h10:Aff t 1=0:=by rw[Aff,oldestU];split<;>rfl
    rw[show Aff t 0=-1 from rfl]
    (refine rg ?_;(conv=>whnf);refine aT ?_;refine rg ?_;(conv=>whnf);refine aT ?_;refine rd qy ?_;conv=>whnf)
    refine⟨qy,?_⟩
    ((conv=>whnf);refine aT ?_;refine rg ?_;conv=>whnf)
    refine⟨by unfold I64;omega,?_⟩
    conv=>whnf
    exact Aq (i:=0) [] hlt ⟨⟨E,E,E,E,E,E,E,E,E,E,congrArg Aa h10,E,E,E,Y⟩,Y,E,E⟩
   | succ j =>
    have hol:=S7 t (j+1) qn qn
    have hs:Aff t (j+1+1)=((oldestU t (j+1+1):Nat):Int):=rfl
    rw[oldestU,List.getElem?_eq_getElem hlt,List.getElem?_eq_getElem hol]at hs
    have hs2:Aff t (j+1+1)=if t[j+1].seen<t[oldestU t (j+1)].seen then ((j+1:Nat):Int) else ((oldestU t (j+1):Nat):Int):=by
     rw[hs]
     show ((if t[j+1].seen<t[oldestU t (j+1)].seen then j+1 else oldestU t (j+1):Nat):Int)=_
     split<;>rfl
    rw[show Aff t (j+1)=((oldestU t (j+1):Nat):Int) from rfl]
    obtain ⟨o,ho⟩:∃ o,oldestU t (j+1)=o:=⟨_,rfl⟩
    simp only[ho]at hs2 hol ⊢
    (refine rg ?_;(conv=>whnf);refine aT ?_;refine rg ?_;(conv=>whnf);refine aF ?_;refine rd qy ?_;conv=>whnf)
    refine⟨E,by omega,by omega,?_⟩
    rw[show t[((j+1:Nat):Int).toNat]'qn=t[j+1] from rfl]
    conv=>whnf
    refine⟨E,by omega,by omega,?_⟩
    rw[show t[((o:Nat):Int).toNat]'qn=t[o] from rfl]
    conv=>whnf
    refine⟨qy,?_⟩
    conv=>whnf
    refine⟨fun h3=>?_,fun h3=>?_⟩
    ·rw[if_pos (of_decide_eq_true h3)]at hs2
     refine rg ?_;conv=>whnf
     refine⟨by unfold I64;omega,?_⟩
     conv=>whnf
     exact Aq [] hlt ⟨⟨E,E,E,E,E,E,E,E,E,E,congrArg Aa hs2,E,E,E,Y⟩,Y,E,E⟩
    ·rw[if_neg (of_decide_eq_false h3)]at hs2
     refine rg ?_;conv=>whnf
     refine⟨by unfold I64;omega,?_⟩
     conv=>whnf
     exact Aq [] hlt ⟨⟨E,E,E,E,E,E,E,E,E,E,congrArg Aa hs2,E,E,E,Y⟩,Y,E,E⟩
  ·have:j=t.length:=by have:=of_decide_eq_false h;omega
   subst this
   rw[hold]
   (refine rg ?_;(conv=>whnf);refine aF ?_;refine rg ?_;(conv=>whnf);refine aF ?_;refine rg ?_;conv=>whnf)
   refine Bm 13 1000 3 Am E E ?_
   refine At t.length (fun j=>[(0,.sl 3 Am t),(1,Az m),(2,Aa wh),(3,Aa now),(10,Ad false),(11,Aa old),(13,.osl 1000),(14,Aa j)]) (fun j=>[(1000,.row 3 Am (H4 t m ⟨m,wh,now⟩ old j))]) [] ⟨⟨E,E,E,E,E,E,E,E,E,E,E,E,E,E,E,E,Y⟩,⟨.inl E,E,Y⟩,E,E⟩ ?_
   intro j hj
   have hol:=Kw t m ⟨m,wh,now⟩ old j
   have hsucc:=fun h:j<t.length=>Qs t m ⟨m,wh,now⟩ old h
   obtain ⟨u,hu⟩:∃ u,H4 t m ⟨m,wh,now⟩ old j=u:=⟨_,rfl⟩
   rw[hu]at hol hsucc ⊢
   refine rg ?_;conv=>whnf
   refine⟨fun h=>?_,fun h=>?_⟩
   ·have hlt:j<t.length:=by have:=of_decide_eq_true h;omega
    have hs:=hsucc hlt
    have hej:t[((j:Nat):Int).toNat]'qn=t[j]:=rfl
    obtain ⟨x,hx⟩:∃ x,t[j]=x:=⟨_,rfl⟩
    rw[hx]at hs hej
    refine rg ?_;conv=>whnf
    refine⟨E,by omega,by omega,?_⟩
    rw[hej]
    conv=>whnf
    refine⟨fun h3=>?_,fun h3=>?_⟩
    ·rw[if_pos (show x.mac=m by simp at h3;omega)]at hs
     refine rg ?_;conv=>whnf
     refine Ai (Ae Γ.toTy 60 rfl rfl rfl rfl rfl (.row rfl) (.lit (e:=Am) (l:=[⟨m,wh,now⟩]) rfl rfl) (fun j hj=>by cases hj;decide) (by simp;omega) (by simp;omega)) rfl rfl ?_
     refine rg ?_;conv=>whnf
     refine⟨by unfold I64;omega,?_⟩
     conv=>whnf
     exact Aq [(1000,60)] hlt ⟨⟨E,E,E,E,E,E,E,E,E,E,E,E,E,E,E,E,Y⟩,⟨.inl (congrArg (Ob.row 3 Am) hs),E,Y⟩,E,E⟩
    ·rw[if_neg (show ¬ x.mac=m by simp at h3;omega)]at hs
     refine rg ?_;conv=>whnf
     refine⟨fun h4=>?_,fun h4=>?_⟩
     ·rw[if_pos (show (j:Int)≠old by simpa using h4)]at hs
      refine rg ?_;conv=>whnf
      refine⟨E,by omega,by omega,?_⟩
      rw[hej]
      conv=>whnf
      refine Ai (Ae Γ.toTy 60 rfl rfl rfl rfl rfl (.row rfl) (.lit (e:=Am) (l:=[x]) rfl rfl) (fun j hj=>by cases hj;decide) (by simp;omega) (by simp;omega)) rfl rfl ?_
      refine rg ?_;conv=>whnf
      refine⟨by unfold I64;omega,?_⟩
      conv=>whnf
      exact Aq [(1000,60)] hlt ⟨⟨E,E,E,E,E,E,E,E,E,E,E,E,E,E,E,E,Y⟩,⟨.inl (congrArg (Ob.row 3 Am) hs),E,Y⟩,E,E⟩
     ·rw[if_neg (show ¬ (j:Int)≠old by simpa using h4)]at hs
      refine rg ?_;conv=>whnf
      refine⟨by unfold I64;omega,?_⟩
      conv=>whnf
      exact Aq [] hlt ⟨⟨E,E,E,E,E,E,E,E,E,E,E,E,E,E,E,E,Y⟩,⟨.inl (congrArg (Ob.row 3 Am) hs),E,Y⟩,E,E⟩
   ·have:j=t.length:=by have:=of_decide_eq_false h;omega
    subst this
    rw[hu]at hout
    rw[if_neg qz]at hout
    (refine rg ?_;(conv=>whnf);refine aT ?_;refine rg ?_;conv=>whnf)
    refine Ai (Ae Γ.toTy 61 rfl rfl rfl rfl rfl (.row rfl) (.lit (e:=Am) (l:=[⟨m,wh,now⟩]) rfl rfl) (fun j hj=>by cases hj;decide) (by simp;omega) (by simp;omega)) rfl rfl ?_
    refine As 61 E ?_
    refine rg ?_;conv=>whnf
    exact Ac E (.cons .tmp .nil) (congrArg (SV.sl 3 Am) hout) E
 ·have hout:res=if th=true then H4 t m ⟨m,wh,now⟩ (-1) t.length else H4 t m ⟨m,wh,now⟩ (-1) t.length++[⟨m,wh,now⟩]:=by
   cases th
   ·obtain ⟨hi1,hi2⟩:=hno rfl
    rw[if_neg qz,hres,hi1,if_neg qz,if_neg (fun h=>hcase ⟨h,rfl⟩),Al0 hi2 _ (Nat.le_refl _),List.take_length]
   ·obtain ⟨i,hi,hi1,hi2⟩:=hso rfl
    rw[if_pos rfl,hres,hi1,if_pos qn,Ah4 hi hi2 _ (Nat.le_refl _),Int.toNat_natCast,List.take_of_length_le za]
  obtain ⟨old,hold⟩:∃ old:Int,-1=old:=⟨_,rfl⟩
  rw[hold]at hout
  refine rg ?_;conv=>whnf
  refine At 0 (fun j=>[(0,.sl 3 Am t),(1,Az m),(2,Aa wh),(3,Aa now),(10,Ad th),(11,Aa old),(12,Aa j)]) (fun _=>[]) [] ⟨⟨E,E,E,E,E,E,E,E,E,E,congrArg Aa hold.symm,E,E,E,Y⟩,Y,E,E⟩ ?_
  intro j hj
  have hj0:j=0:=by omega
  subst hj0
  refine rg ?_;conv=>whnf
  refine⟨fun h=>?_,fun h=>?_⟩
  ·refine rg ?_;conv=>whnf
   refine⟨fun h8=>?_,fun h8=>?_⟩
   ·have hth:th=true:=by
     cases th with
     | true=>rfl
     | false=>exact absurd ⟨by simp at h8;omega,rfl⟩ hcase
    refine rg ?_;conv=>whnf
    refine⟨fun h=>absurd h (by simp[hth]),fun _=>?_⟩
    refine rg ?_;conv=>whnf
    refine Bm 13 1000 3 Am E E ?_
    refine At t.length (fun j=>[(0,.sl 3 Am t),(1,Az m),(2,Aa wh),(3,Aa now),(10,Ad th),(11,Aa old),(13,.osl 1000),(14,Aa j)]) (fun j=>[(1000,.row 3 Am (H4 t m ⟨m,wh,now⟩ old j))]) [] ⟨⟨E,E,E,E,E,E,E,E,E,E,E,E,E,E,E,E,Y⟩,⟨.inl E,E,Y⟩,E,E⟩ ?_
    intro j hj
    have hol:=Kw t m ⟨m,wh,now⟩ old j
    have hsucc:=fun h:j<t.length=>Qs t m ⟨m,wh,now⟩ old h
    obtain ⟨u,hu⟩:∃ u,H4 t m ⟨m,wh,now⟩ old j=u:=⟨_,rfl⟩
    rw[hu]at hol hsucc ⊢
    refine rg ?_;conv=>whnf
    refine⟨fun h=>?_,fun h=>?_⟩
    ·have hlt:j<t.length:=by have:=of_decide_eq_true h;omega
     have hs:=hsucc hlt
     have hej:t[((j:Nat):Int).toNat]'qn=t[j]:=rfl
     obtain ⟨x,hx⟩:∃ x,t[j]=x:=⟨_,rfl⟩
     rw[hx]at hs hej
     refine rg ?_;conv=>whnf
     refine⟨E,by omega,by omega,?_⟩
     rw[hej]
     conv=>whnf
     refine⟨fun h3=>?_,fun h3=>?_⟩
     ·rw[if_pos (show x.mac=m by simp at h3;omega)]at hs
      refine rg ?_;conv=>whnf
      refine Ai (Ae Γ.toTy 60 rfl rfl rfl rfl rfl (.row rfl) (.lit (e:=Am) (l:=[⟨m,wh,now⟩]) rfl rfl) (fun j hj=>by cases hj;decide) (by simp;omega) (by simp;omega)) rfl rfl ?_
      refine rg ?_;conv=>whnf
      refine⟨by unfold I64;omega,?_⟩
      conv=>whnf
      exact Aq [(1000,60)] hlt ⟨⟨E,E,E,E,E,E,E,E,E,E,E,E,E,E,E,E,Y⟩,⟨.inl (congrArg (Ob.row 3 Am) hs),E,Y⟩,E,E⟩
     ·rw[if_neg (show ¬ x.mac=m by simp at h3;omega)]at hs
      refine rg ?_;conv=>whnf
      refine⟨fun h4=>?_,fun h4=>?_⟩
      ·rw[if_pos (show (j:Int)≠old by simpa using h4)]at hs
       refine rg ?_;conv=>whnf
       refine⟨E,by omega,by omega,?_⟩
       rw[hej]
       conv=>whnf
       refine Ai (Ae Γ.toTy 60 rfl rfl rfl rfl rfl (.row rfl) (.lit (e:=Am) (l:=[x]) rfl rfl) (fun j hj=>by cases hj;decide) (by simp;omega) (by simp;omega)) rfl rfl ?_
       refine rg ?_;conv=>whnf
       refine⟨by unfold I64;omega,?_⟩
       conv=>whnf
       exact Aq [(1000,60)] hlt ⟨⟨E,E,E,E,E,E,E,E,E,E,E,E,E,E,E,E,Y⟩,⟨.inl (congrArg (Ob.row 3 Am) hs),E,Y⟩,E,E⟩
      ·rw[if_neg (show ¬ (j:Int)≠old by simpa using h4)]at hs
       refine rg ?_;conv=>whnf
       refine⟨by unfold I64;omega,?_⟩
       conv=>whnf
       exact Aq [] hlt ⟨⟨E,E,E,E,E,E,E,E,E,E,E,E,E,E,E,E,Y⟩,⟨.inl (congrArg (Ob.row 3 Am) hs),E,Y⟩,E,E⟩
    ·have:j=t.length:=by have:=of_decide_eq_false h;omega
     subst this
     rw[hu]at hout
     cases th
     ·rw[if_neg qz]at hout
      (refine rg ?_;(conv=>whnf);refine aT ?_;refine rg ?_;conv=>whnf)
      refine Ai (Ae Γ.toTy 61 rfl rfl rfl rfl rfl (.row rfl) (.lit (e:=Am) (l:=[⟨m,wh,now⟩]) rfl rfl) (fun j hj=>by cases hj;decide) (by simp;omega) (by simp;omega)) rfl rfl ?_
      refine As 61 E ?_
      refine rg ?_;conv=>whnf
      exact Ac E (.cons .tmp .nil) (congrArg (SV.sl 3 Am) hout) E
     ·rw[if_pos rfl]at hout
      (refine rg ?_;(conv=>whnf);refine aF ?_;refine rg ?_;conv=>whnf)
      refine As 1000 E ?_
      exact Ac E (.cons .tmp .nil) (congrArg (SV.sl 3 Am) hout) E
   ·(refine rg ?_;(conv=>whnf);refine aF ?_;refine rg ?_;conv=>whnf)
    refine Bm 13 1000 3 Am E E ?_
    refine At t.length (fun j=>[(0,.sl 3 Am t),(1,Az m),(2,Aa wh),(3,Aa now),(10,Ad th),(11,Aa old),(13,.osl 1000),(14,Aa j)]) (fun j=>[(1000,.row 3 Am (H4 t m ⟨m,wh,now⟩ old j))]) [] ⟨⟨E,E,E,E,E,E,E,E,E,E,E,E,E,E,E,E,Y⟩,⟨.inl E,E,Y⟩,E,E⟩ ?_
    intro j hj
    have hol:=Kw t m ⟨m,wh,now⟩ old j
    have hsucc:=fun h:j<t.length=>Qs t m ⟨m,wh,now⟩ old h
    obtain ⟨u,hu⟩:∃ u,H4 t m ⟨m,wh,now⟩ old j=u:=⟨_,rfl⟩
    rw[hu]at hol hsucc ⊢
    refine rg ?_;conv=>whnf
    refine⟨fun h=>?_,fun h=>?_⟩
    ·have hlt:j<t.length:=by have:=of_decide_eq_true h;omega
     have hs:=hsucc hlt
     have hej:t[((j:Nat):Int).toNat]'qn=t[j]:=rfl
     obtain ⟨x,hx⟩:∃ x,t[j]=x:=⟨_,rfl⟩
     rw[hx]at hs hej
     refine rg ?_;conv=>whnf
     refine⟨E,by omega,by omega,?_⟩
     rw[hej]
     conv=>whnf
     refine⟨fun h3=>?_,fun h3=>?_⟩
     ·rw[if_pos (show x.mac=m by simp at h3;omega)]at hs
      refine rg ?_;conv=>whnf
      refine Ai (Ae Γ.toTy 60 rfl rfl rfl rfl rfl (.row rfl) (.lit (e:=Am) (l:=[⟨m,wh,now⟩]) rfl rfl) (fun j hj=>by cases hj;decide) (by simp;omega) (by simp;omega)) rfl rfl ?_
      refine rg ?_;conv=>whnf
      refine⟨by unfold I64;omega,?_⟩
      conv=>whnf
      exact Aq [(1000,60)] hlt ⟨⟨E,E,E,E,E,E,E,E,E,E,E,E,E,E,E,E,Y⟩,⟨.inl (congrArg (Ob.row 3 Am) hs),E,Y⟩,E,E⟩
     ·rw[if_neg (show ¬ x.mac=m by simp at h3;omega)]at hs
      refine rg ?_;conv=>whnf
      refine⟨fun h4=>?_,fun h4=>?_⟩
      ·rw[if_pos (show (j:Int)≠old by simpa using h4)]at hs
       refine rg ?_;conv=>whnf
       refine⟨E,by omega,by omega,?_⟩
       rw[hej]
       conv=>whnf
       refine Ai (Ae Γ.toTy 60 rfl rfl rfl rfl rfl (.row rfl) (.lit (e:=Am) (l:=[x]) rfl rfl) (fun j hj=>by cases hj;decide) (by simp;omega) (by simp;omega)) rfl rfl ?_
       refine rg ?_;conv=>whnf
       refine⟨by unfold I64;omega,?_⟩
       conv=>whnf
       exact Aq [(1000,60)] hlt ⟨⟨E,E,E,E,E,E,E,E,E,E,E,E,E,E,E,E,Y⟩,⟨.inl (congrArg (Ob.row 3 Am) hs),E,Y⟩,E,E⟩
      ·rw[if_neg (show ¬ (j:Int)≠old by simpa using h4)]at hs
       refine rg ?_;conv=>whnf
       refine⟨by unfold I64;omega,?_⟩
       conv=>whnf
       exact Aq [] hlt ⟨⟨E,E,E,E,E,E,E,E,E,E,E,E,E,E,E,E,Y⟩,⟨.inl (congrArg (Ob.row 3 Am) hs),E,Y⟩,E,E⟩
    ·have:j=t.length:=by have:=of_decide_eq_false h;omega
     subst this
     rw[hu]at hout
     cases th
     ·rw[if_neg qz]at hout
      (refine rg ?_;(conv=>whnf);refine aT ?_;refine rg ?_;conv=>whnf)
      refine Ai (Ae Γ.toTy 61 rfl rfl rfl rfl rfl (.row rfl) (.lit (e:=Am) (l:=[⟨m,wh,now⟩]) rfl rfl) (fun j hj=>by cases hj;decide) (by simp;omega) (by simp;omega)) rfl rfl ?_
      refine As 61 E ?_
      refine rg ?_;conv=>whnf
      exact Ac E (.cons .tmp .nil) (congrArg (SV.sl 3 Am) hout) E
     ·rw[if_pos rfl]at hout
      (refine rg ?_;(conv=>whnf);refine aF ?_;refine rg ?_;conv=>whnf)
      refine As 1000 E ?_
      exact Ac E (.cons .tmp .nil) (congrArg (SV.sl 3 Am) hout) E
  ·(refine rg ?_;(conv=>whnf);refine aF ?_;refine rg ?_;(conv=>whnf);refine aF ?_;refine rg ?_;conv=>whnf)
   refine Bm 13 1000 3 Am E E ?_
   refine At t.length (fun j=>[(0,.sl 3 Am t),(1,Az m),(2,Aa wh),(3,Aa now),(10,Ad th),(11,Aa old),(13,.osl 1000),(14,Aa j)]) (fun j=>[(1000,.row 3 Am (H4 t m ⟨m,wh,now⟩ old j))]) [] ⟨⟨E,E,E,E,E,E,E,E,E,E,E,E,E,E,E,E,Y⟩,⟨.inl E,E,Y⟩,E,E⟩ ?_
   intro j hj
   have hol:=Kw t m ⟨m,wh,now⟩ old j
   have hsucc:=fun h:j<t.length=>Qs t m ⟨m,wh,now⟩ old h
   obtain ⟨u,hu⟩:∃ u,H4 t m ⟨m,wh,now⟩ old j=u:=⟨_,rfl⟩
   rw[hu]at hol hsucc ⊢
   refine rg ?_;conv=>whnf
   refine⟨fun h=>?_,fun h=>?_⟩
   ·have hlt:j<t.length:=by have:=of_decide_eq_true h;omega
    have hs:=hsucc hlt
    have hej:t[((j:Nat):Int).toNat]'qn=t[j]:=rfl
    obtain ⟨x,hx⟩:∃ x,t[j]=x:=⟨_,rfl⟩
    rw[hx]at hs hej
    refine rg ?_;conv=>whnf
    refine⟨E,by omega,by omega,?_⟩
    rw[hej]
    conv=>whnf
    refine⟨fun h3=>?_,fun h3=>?_⟩
    ·rw[if_pos (show x.mac=m by simp at h3;omega)]at hs
     refine rg ?_;conv=>whnf
     refine Ai (Ae Γ.toTy 60 rfl rfl rfl rfl rfl (.row rfl) (.lit (e:=Am) (l:=[⟨m,wh,now⟩]) rfl rfl) (fun j hj=>by cases hj;decide) (by simp;omega) (by simp;omega)) rfl rfl ?_
     refine rg ?_;conv=>whnf
     refine⟨by unfold I64;omega,?_⟩
     conv=>whnf
     exact Aq [(1000,60)] hlt ⟨⟨E,E,E,E,E,E,E,E,E,E,E,E,E,E,E,E,Y⟩,⟨.inl (congrArg (Ob.row 3 Am) hs),E,Y⟩,E,E⟩
    ·rw[if_neg (show ¬ x.mac=m by simp at h3;omega)]at hs
     refine rg ?_;conv=>whnf
     refine⟨fun h4=>?_,fun h4=>?_⟩
     ·rw[if_pos (show (j:Int)≠old by simpa using h4)]at hs
      refine rg ?_;conv=>whnf
      refine⟨E,by omega,by omega,?_⟩
      rw[hej]
      conv=>whnf
      refine Ai (Ae Γ.toTy 60 rfl rfl rfl rfl rfl (.row rfl) (.lit (e:=Am) (l:=[x]) rfl rfl) (fun j hj=>by cases hj;decide) (by simp;omega) (by simp;omega)) rfl rfl ?_
      refine rg ?_;conv=>whnf
      refine⟨by unfold I64;omega,?_⟩
      conv=>whnf
      exact Aq [(1000,60)] hlt ⟨⟨E,E,E,E,E,E,E,E,E,E,E,E,E,E,E,E,Y⟩,⟨.inl (congrArg (Ob.row 3 Am) hs),E,Y⟩,E,E⟩
     ·rw[if_neg (show ¬ (j:Int)≠old by simpa using h4)]at hs
      refine rg ?_;conv=>whnf
      refine⟨by unfold I64;omega,?_⟩
      conv=>whnf
      exact Aq [] hlt ⟨⟨E,E,E,E,E,E,E,E,E,E,E,E,E,E,E,E,Y⟩,⟨.inl (congrArg (Ob.row 3 Am) hs),E,Y⟩,E,E⟩
   ·have:j=t.length:=by have:=of_decide_eq_false h;omega
    subst this
    rw[hu]at hout
    cases th
    ·rw[if_neg qz]at hout
     (refine rg ?_;(conv=>whnf);refine aT ?_;refine rg ?_;conv=>whnf)
     refine Ai (Ae Γ.toTy 61 rfl rfl rfl rfl rfl (.row rfl) (.lit (e:=Am) (l:=[⟨m,wh,now⟩]) rfl rfl) (fun j hj=>by cases hj;decide) (by simp;omega) (by simp;omega)) rfl rfl ?_
     refine As 61 E ?_
     refine rg ?_;conv=>whnf
     exact Ac E (.cons .tmp .nil) (congrArg (SV.sl 3 Am) hout) E
    ·rw[if_pos rfl]at hout
     (refine rg ?_;(conv=>whnf);refine aF ?_;refine rg ?_;conv=>whnf)
     refine As 1000 E ?_
     exact Ac E (.cons .tmp .nil) (congrArg (SV.sl 3 Am) hout) E
theorem Acj (n:Net) (hn:n.Fin) (fw:List Bool) (t:List EntryM) (dom from_:Int) (m:Nat) (hl:Ar t) (hw:I64 (findE t m).1) (hm64:m<18446744073709551616) :
  Sy.Spec Tryz.prog 147 [Ap n,.sl 1 Ad fw,.sl 3 Am t,Aa dom,Aa from_,Az m] [] (.tup [.sl 1 Aa (decideT n fw t dom from_ m).1,.sl 1 Aa (decideT n fw t dom from_ m).2.1,Aa (decideT n fw t dom from_ m).2.2]) []:=Ab Γ hm 100 F147 Tryz.ntmps147 rfl fun F hF=>by
 have qf:=We n hn fw dom from_
 have qg:=I7 m hm64
 cases hroom:roomB n fw dom from_
 ·have hres:decideT n fw t dom from_ m=([],[],2):=by rw[decideT,if_pos hroom]
  have hfl:floodT n fw dom from_=([],[],2):=by rw[floodT,if_pos hroom]
  rw[hres]
  rw[hfl]at qf
  conv=>whnf
  refine Ah qf F143 E E E E E ?_
  (refine rg ?_;(conv=>whnf);refine aT ?_;refine rg ?_;(conv=>whnf);refine aT ?_;refine rg ?_;conv=>whnf)
  exact Ac E (.cons .tmp (.cons .tmp (.cons .tmp .nil))) E E
 have hb2:Km n fw dom=true:=by rw[I6,Bool.and_eq_true]at hroom;exact hroom.1
 simp only[Km,Bool.and_eq_true,decide_eq_true_eq]at hb2
 obtain ⟨⟨hd,hfw⟩,hbn⟩:=hb2
 have hfl:floodT n fw dom from_=(Cf n fw from_ (A0 n dom),peersOut n dom from_,0):=by rw[floodT,if_neg (by rw[hroom];decide)]
 rw[hfl]at qf
 have hres:=decideT.eq_1 n fw t dom from_ m
 rw[if_neg (by rw[hroom];decide)]at hres
 cases hg:D1 m
 rotate_left
 ·rw[if_pos hg]at hres
  rw[hres]
  rw[hg]at qg
  conv=>whnf
  refine Ah qf F143 E E E E E ?_
  (refine rg ?_;(conv=>whnf);refine aF ?_;refine rg ?_;conv=>whnf)
  refine Ah qg F77 E E E E E ?_
  (refine rg ?_;(conv=>whnf);refine aT ?_;refine rg ?_;conv=>whnf)
  exact Ac E (.cons .tmp (.cons .tmp (.cons .tmp .nil))) E E
 rw[if_neg (by rw[hg];decide)]at hres
 rw[hg]at qg
 have hdi:=Bd hd
 have hd0:0≤dom:=hdi.1
 have hkd:dom.toNat<n.domains.length:=by omega
 have e2:nth n.domains dom=n.domains[dom.toNat]:=Ao hkd
 have hpe:=hn.peers _ (List.getElem_mem hkd)
 have qs:=Acl n hn dom m
 obtain ⟨hs1,hs2⟩:=Mb hbn dom m
 have hsp:=Oc hbn dom m
 have qfd:=Ye t m hl
 have q1:∀ p:Int,0≤p→p<n.ports.length→_:=fun p h0 h1=>Alq n fw p from_ hbn hfw h0 h1
 have hmem:∀ p,inB (A0 n dom) p=true→0≤p∧p<n.ports.length:=fun p hp=>B3 p (inB_mem.1 hp)
 have qm:=Ku n hn hbn dom
 have qi:=fun x=>Et (Ch n dom) x (Id n hn dom)
 have hmt:Ch n dom=A0 n dom:=by rw[Ch,if_pos ⟨⟨hdi.1,hdi.2⟩,hbn⟩]
 rw[hmt]at qm qi
 rw[e2]at hres
 obtain ⟨d,hdd⟩:∃ d,n.domains[dom.toNat]'hkd=d:=⟨_,rfl⟩
 rw[hdd]at hres hpe
 have qp:=fun x=>Et d.peers x hpe
 generalize decideT n fw t dom from_ m=res at *
 generalize findE t m=fe at *
 obtain ⟨w,ok⟩:=fe
 dsimp only at hres hw qfd
 have hw2:I64 (-1-w)∨0≤w:=by unfold I64 at *;omega
 conv=>whnf
 refine Ah qf F143 E E E E E ?_
 (refine rg ?_;(conv=>whnf);refine aF ?_;refine rg ?_;conv=>whnf)
 refine Ah qg F77 E E E E E ?_
 (refine rg ?_;(conv=>whnf);refine aF ?_;refine rg ?_;conv=>whnf)
 refine Ah qs F218 E E E E E ?_
 refine rg ?_;conv=>whnf
 refine⟨fun h1=>?_,fun h1=>?_⟩
 ·have h2:0≤staticP n dom m:=by simpa using h1
  rw[if_pos (hs1.1 h2),← hs2 (hs1.1 h2)]at hres
  subst hres
  refine rg ?_;conv=>whnf
  refine Ah (q1 _ h2 (hsp h2)) F219 E E E E E ?_
  refine rg ?_;conv=>whnf
  refine An 13 1 Aa E ?_
  exact Ac E (.cons .tmp (.cons .tmp (.cons .tmp .nil))) E E
 have h2:¬ 0≤staticP n dom m:=by simp at h1;omega
 rw[if_neg (fun h=>h2 (hs1.2 h))]at hres
 refine rg ?_;conv=>whnf
 refine Ah qfd F212 E E E E E ?_
 cases ok
 ·simp only[Bool.false_eq_true,false_and,if_false]at hres
  subst hres
  (refine rg ?_;(conv=>whnf);refine aF ?_;refine rg ?_;(conv=>whnf);refine aF ?_;refine rg ?_;(conv=>whnf);refine aF ?_;refine rg ?_;(conv=>whnf);refine aF ?_;refine rg ?_;(conv=>whnf);refine aF ?_;refine rg ?_;conv=>whnf)
  exact Ac E (.cons .tmp (.cons .tmp (.cons .tmp .nil))) E E
 simp only[true_and]at hres
 (refine rg ?_;(conv=>whnf);refine aT ?_;refine rg ?_;conv=>whnf)
 refine Ah qm F210 E E E E E ?_
 refine rg ?_;conv=>whnf
 refine Ah (qi w) F142 E E E E E ?_
 cases hin:inB (A0 n dom) w
 rotate_left
 ·have hwp:=hmem w hin
  rw[if_pos ⟨hwp.1,hin⟩]at hres
  subst hres
  (refine rg ?_;(conv=>whnf);refine aT ?_;refine rg ?_;conv=>whnf)
  refine Ah (q1 w hwp.1 hwp.2) F219 E E E E E ?_
  refine rg ?_;conv=>whnf
  refine An 13 1 Aa E ?_
  exact Ac E (.cons .tmp (.cons .tmp (.cons .tmp .nil))) E E
 rw[if_neg (by rw[hin];simp)]at hres
 (refine rg ?_;(conv=>whnf);refine aF ?_;refine rg ?_;(conv=>whnf);refine aT ?_;refine rg ?_;conv=>whnf)
 refine⟨fun h3=>?_,fun h3=>?_⟩
 rotate_left
 ·have h4:¬ w<0:=by simpa using h3
  rw[if_neg (fun h=>h4 h.1)]at hres
  subst hres
  (refine rg ?_;(conv=>whnf);refine aF ?_;refine rg ?_;conv=>whnf)
  exact Ac E (.cons .tmp (.cons .tmp (.cons .tmp .nil))) E E
 have h4:w<0:=by simpa using h3
 have hneg:-(w+1)=-1-w:=by omega
 refine rg ?_;conv=>whnf
 refine⟨E,hd0,hkd,?_⟩
 rw[hdd]
 conv=>whnf
 refine⟨by unfold I64 at *;omega,?_⟩
 conv=>whnf
 have hwr:IntKind.i64.wrap (0-(w+1))=-1-w:=by rw[IntKind.wrap_i64];unfold I64 at *;omega
 rw[← hwr]at hres
 refine Ah (qp (IntKind.i64.wrap (0-(w+1)))) F142 E E E E E ?_
 cases hip:inB d.peers (IntKind.i64.wrap (0-(w+1)))
 ·rw[if_neg (by rw[hip];simp)]at hres
  subst hres
  (refine rg ?_;(conv=>whnf);refine aF ?_;refine rg ?_;conv=>whnf)
  exact Ac E (.cons .tmp (.cons .tmp (.cons .tmp .nil))) E E
 rw[if_pos ⟨h4,hip⟩]at hres
 (refine rg ?_;(conv=>whnf);refine aT ?_;refine rg ?_;conv=>whnf)
 refine⟨fun h5=>?_,fun h5=>?_⟩
 ·rw[if_pos (by simpa using h5)]at hres
  subst hres
  refine rg ?_;conv=>whnf
  refine An 12 1 Aa E ?_
  refine An 13 1 Aa E ?_
  exact Ac E (.cons .tmp (.cons .tmp (.cons .tmp .nil))) E E
 ·rw[if_neg (by simpa using h5)]at hres
  subst hres
  refine rg ?_;conv=>whnf
  refine⟨by unfold I64 at *;omega,?_⟩
  conv=>whnf
  refine An 12 1 Aa E ?_
  refine Dm 91 Aa [IntKind.i64.wrap (0-(w+1))] E E ?_
  refine As 91 E ?_
  exact Ac E (.cons .tmp (.cons .tmp (.cons .tmp .nil))) E E
theorem Adu (t:List EntryM) (q:QueuedM) (now:Int) (ht:TabOK t) (hq:QueuedOK q):Sy.Spec Tryz.prog 172 [.sl 3 Am t,Ay q,Aa now] [] (.sl 3 Am (learnQ t q now)) []:=Ab Γ hm 100 F172 Tryz.ntmps172 rfl fun F hF=>by
 have hres:=learnQ.eq_1 t q now
 generalize learnQ t q now=res at *
 have hl:=ht.short
 have hl2:=hl
 unfold Ar at hl2
 have hs:=hq.frame.src
 have h1:=hq.peer
 conv=>whnf
 refine⟨fun h=>?_,fun h=>?_⟩
 ·rw[if_pos (by simpa using h)]at hres
  subst hres
  refine rg ?_;conv=>whnf
  refine Ai (Ak [(0,55)] E F48 (Qb res hl2) E Y E ⟨.inr E,Y⟩) E E ?_
  refine As 55 E ?_
  refine rg ?_;conv=>whnf
  exact Ac E (.cons .tmp .nil) E E
 rw[if_neg (by simpa using h)]at hres
 clear h
 refine rg ?_;conv=>whnf
 refine⟨fun h=>?_,fun h=>?_⟩
 ·rw[if_pos (by simpa using h)]at hres
  subst hres
  refine rg ?_;conv=>whnf
  refine⟨by unfold I64;omega,?_⟩
  conv=>whnf
  refine Ah (Aat t q.frame.src (-1-q.peer) now hl ht.mac qn) F243 E E E E E ?_
  refine rg ?_;conv=>whnf
  exact Ac E (.cons .tmp .nil) E E
 rw[if_neg (by simpa using h)]at hres
 subst hres
 refine rg ?_;conv=>whnf
 refine Ah (Aat t q.frame.src q.from_ now hl ht.mac qn) F243 E E E E E ?_
 refine rg ?_;conv=>whnf
 exact Ac E (.cons .tmp .nil) E E
def Jv (k p d:Int):OutM:=⟨k,p,d,[],noF,0⟩
theorem Aj6 (k p d:Int) (b:List UInt8) (e:Int):D4 (Jv k p d) (b,e)=if e≠0 then ⟨5,p,d,[],noF,e⟩ else ⟨k,p,d,b,noF,0⟩:=rfl
theorem Tq (l:List OutM) (k p d:Int) (b:List UInt8) (e:Int) (hl:l.length<100000000000) :
  Sy.Spec Tryz.prog 175 [Bi (Jv k p d),.sl 1 Aj b,Aa e,.ptr 0 0] [(0,.box [.osl 1]),(1,.row 9 Bi l)] (.tup []) [(0,.box [.osl 2]),(1,.non),(2,.row 9 Bi (l++[D4 (Jv k p d) (b,e)]))]:=Ab Γ hm 100 F175 Tryz.ntmps175 rfl fun F hF=>by
 have hres:=Aj6 k p d b e
 generalize D4 (Jv k p d) (b,e)=res at *
 conv=>whnf
 refine⟨fun h=>?_,fun h=>?_⟩
 ·rw[if_pos (by simpa using h)]at hres
  refine rg ?_;conv=>whnf
  refine Mw 17 [Bi ⟨5,p,d,[],noF,e⟩] E (.cons (.agg (.cons (.refl _) (.cons (.refl _) (.cons (.refl _) (.cons .nil (.cons (.refl _) (.cons (.refl _) (.cons (.refl _) (.cons (.refl _) (.cons (.refl _) .nil)))))))))) .nil) E ?_
  refine Ai (Ae Γ.toTy 18 E E E E E (.row E) (.lit (e:=Bi) (l:=[res]) E (by rw[hres];rfl)) qz (by simp;omega) (by simp;omega)) E E ?_
  refine rg ?_;conv=>whnf
  exact Bw E .nil [(2,18)] [(0,.box [.osl 2]),(1,.non),(2,.row 9 Bi (l++[res]))] (fun _ h=>h) E E ⟨Y,⟨.inl E,E,.inl E,E,.inl E,E,Y⟩,E,E⟩
 ·rw[if_neg (by simpa using h)]at hres
  refine rg ?_;conv=>whnf
  refine Ai (Ae Γ.toTy 18 E E E E E (.row E) (.lit (e:=Bi) (l:=[res]) E (by rw[hres];rfl)) qz (by simp;omega) (by simp;omega)) E E ?_
  refine rg ?_;conv=>whnf
  exact Bw E .nil [(2,18)] [(0,.box [.osl 2]),(1,.non),(2,.row 9 Bi (l++[res]))] (fun _ h=>h) E E ⟨Y,⟨.inl E,E,.inl E,E,.inl E,E,Y⟩,E,E⟩
theorem Ea (k p d:Int) (b:List UInt8) (e:Int):Sy.Spec Tryz.prog 149 [Bi (Jv k p d),.sl 1 Aj b,Aa e] [] (Bi (D4 (Jv k p d) (b,e))) []:=Ab Γ hm 100 F149 Tryz.ntmps149 rfl fun F hF=>by
 have hres:=Aj6 k p d b e
 generalize D4 (Jv k p d) (b,e)=res at *
 conv=>whnf
 refine⟨fun h=>?_,fun h=>?_⟩
 ·rw[if_pos (by simpa using h)]at hres
  subst hres
  refine rg ?_;conv=>whnf
  refine Av 6 [Aa 5,Aa p,Aa d,.sl 1 Aj [],Az 0,Az 0,Aa 0,.sl 1 Aj [],Aa e] E (.cons (.refl _) (.cons (.refl _) (.cons (.refl _) (.cons .nil (.cons (.refl _) (.cons (.refl _) (.cons (.refl _) (.cons .nil (.cons (.refl _) .nil))))))))) ?_
  exact Ac E (.cons (.cell E E E E) .nil) E E
 ·rw[if_neg (by simpa using h)]at hres
  subst hres
  refine rg ?_;conv=>whnf
  exact Ac E (.cons (.cell E E E E) .nil) E E
theorem Aki {t:List EntryM} (ht:TabOK t) (m:Nat):I64 (findE t m).1:=by
 unfold findE
 split
 ·unfold I64;dsimp only;omega
 ·rename_i h
  have hlt:Ct t m<t.length:=I3 _ _
  have hk:(Ct t m).toNat<t.length:=by omega
  dsimp only
  rw[List.getElem?_eq_getElem hk]
  exact ht.wh _ (List.getElem_mem hk)
theorem Jt {n:Net} {fw:List Bool} {fr:Int} {l:List Int} {p:Int} (h:p∈Cf n fw fr l):p∈l:=(List.mem_filter.1 h).1
theorem U7 {n:Net} (hb:Ag n=true) (fw:List Bool) (t:List EntryM) (dom fr:Int) (m:Nat):∀ p∈(decideT n fw t dom fr m).1,0≤p∧p<n.ports.length:=by
 intro p hp
 unfold decideT at hp
 split at hp
 ·cases hp
 split at hp
 ·exact B3 p (Jt hp)
 split at hp
 ·rename_i h1
  obtain ⟨hs1,hs2⟩:=Mb hb dom m
  have h2:=hs1.2 h1
  have h3:=Oc hb dom m h2
  have h4:=List.mem_singleton.1 (Jt hp)
  rw[h4,← hs2 h1]
  exact⟨h2,h3⟩
 split at hp
 ·rename_i h1
  rw[List.mem_singleton.1 (Jt hp)]
  exact B3 _ (inB_mem.1 h1.2.2)
 split at hp
 ·cases hp
 ·exact B3 p (Jt hp)
theorem Acu (n:Net) (fw:List Bool) (fr:Int) (l:List Int):(Cf n fw fr l).length≤l.length:=List.length_filter_le _ _
theorem Acv {n:Net} (hn:n.Fin) (dom fr:Int) (hd:Al dom n.domains.length=true):(peersOut n dom fr).length<2147483648:=by
 unfold peersOut
 split
 ·decide
 ·have h:=Ev hd
  rw[Ao h.2]
  exact hn.peers _ (List.getElem_mem h.2)
theorem Tm {n:Net} (hn:n.Fin) (fw:List Bool) (t:List EntryM) (dom fr:Int) (m:Nat):(decideT n fw t dom fr m).1.length<2147483648∧(decideT n fw t dom fr m).2.1.length<2147483648:=by
 have h1:=Afh n dom
 have h2:=hn.ports
 unfold Ar at h2
 have h3:=fun l=>Acu n fw fr l
 unfold decideT
 split
 ·decide
 rename_i h
 have hd:Al dom n.domains.length=true:=by
  cases hx:Al dom n.domains.length
  ·exact absurd (by rw[roomB,hx];rfl) h
  ·rfl
 have h4:=Acv hn dom fr hd
 split
 ·have:=h3 (A0 n dom);exact⟨by dsimp only;omega,h4⟩
 split
 ·have:=h3 [(nth n.statics (Dj n dom m)).port];simp only[List.length_cons,List.length_nil]at this;exact⟨by dsimp only;omega,by show (0:Nat)<2147483648;decide⟩
 split
 ·have:=h3 [(findE t m).1];simp only[List.length_cons,List.length_nil]at this;exact⟨by dsimp only;omega,by show (0:Nat)<2147483648;decide⟩
 split
 ·refine⟨by show (0:Nat)<2147483648;decide,?_⟩
  dsimp only
  split<;>simp
 ·have:=h3 (A0 n dom);exact⟨by dsimp only;omega,h4⟩
theorem Ago (n:Net) (hn:n.Fin) (hm0:n.Num) (fw:List Bool) (t:List EntryM) (dom:Int) (q:QueuedM) (now:Int) (ht:TabOK t) (hq:QueuedOK q) :
  Sy.Spec Tryz.prog 102 [Ap n,.sl 1 Ad fw,.sl 3 Am t,Aa dom,Ay q,Aa now] [] (.tup [.sl 3 Am (bridgeT n fw t dom q now).1,.sl 9 Bi (bridgeT n fw t dom q now).2.1,Aa (bridgeT n fw t dom q now).2.2]) []:=Ab Γ hm 100 F102 Tryz.ntmps102 rfl fun F hF=>by
 have hres:=bridgeT.eq_1 n fw t dom q now
 generalize bridgeT n fw t dom q now=res at *
 have qf:=floodS n hn fw dom q.from_
 have qr:=Qm t ht.short ht.mac
 conv=>whnf
 refine Bg 6 8 (Ap n) E E E ?_
 refine Bg 10 7 (Ay q) E E E ?_
 refine rg ?_;conv=>whnf
 cases hroom:roomB n fw dom q.from_
 ·rw[if_pos (.inl hroom)]at hres
  subst hres
  rw[floodT,if_pos hroom]at qf
  refine Ah qf F171 E E E E E ?_
  (refine rg ?_;(conv=>whnf);refine aT ?_;refine rg ?_;(conv=>whnf);refine aT ?_;refine rg ?_;conv=>whnf)
  refine Av 13 [.sl 9 Bi []] E (.cons .nil .nil) ?_
  refine An 12 3 Am E ?_
  exact Ac E (.cons .tmp (.cons (.cell E E E E) (.cons .tmp .nil))) E E
 rw[floodT,if_neg (by rw[hroom];decide)]at qf
 refine Ah qf F171 E E E E E ?_
 (refine rg ?_;(conv=>whnf);refine aF ?_;refine rg ?_;conv=>whnf)
 refine Ah qr F47 E E E E E ?_
 cases htb:tableB t
 ·rw[if_pos (.inr htb)]at hres
  subst hres
  (refine rg ?_;(conv=>whnf);refine aT ?_;refine rg ?_;conv=>whnf)
  refine Av 13 [.sl 9 Bi []] E (.cons .nil .nil) ?_
  refine An 12 3 Am E ?_
  exact Ac E (.cons .tmp (.cons (.cell E E E E) (.cons .tmp .nil))) E E
 rw[if_neg (by simp[hroom,htb])]at hres
 have ql:=Adu t q now ht hq
 have hu:=Lw ht hq now
 generalize learnQ t q now=u at *
 have qro:=Adz n hn hm0 dom q.frame.dst
 generalize routerT n dom q.frame.dst=ro at *
 obtain ⟨irb,ok⟩:=ro
 dsimp only at hres qro
 have hbn:Ag n=true:=by
  simp only[roomB,Bool.and_eq_true]at hroom
  exact hroom.1.2
 (refine rg ?_;(conv=>whnf);refine aF ?_;refine rg ?_;conv=>whnf)
 refine Ah ql F172 E E E E E ?_
 refine rg ?_;conv=>whnf
 refine Ah qro F173 E E E E E ?_
 cases ok
 rotate_left
 ·rw[if_pos rfl]at hres
  have qh:=Alc n hn hm0 irb q.frame hq.frame
  generalize hopT n irb q.frame=hp at *
  obtain ⟨to,g,e⟩:=hp
  dsimp only at hres qh
  (refine rg ?_;(conv=>whnf);refine aT ?_;refine rg ?_;conv=>whnf)
  refine Ah qh F174 E E E E E ?_
  refine rg ?_;conv=>whnf
  refine⟨fun h=>?_,fun h=>?_⟩
  ·rw[if_pos (by simpa using h)]at hres
   subst hres
   refine rg ?_;conv=>whnf
   refine Av 13 [.sl 9 Bi []] E (.cons .nil .nil) ?_
   exact Ac E (.cons .tmp (.cons (.cell E E E E) (.cons .tmp .nil))) E E
  ·rw[if_neg (by simpa using h)]at hres
   subst hres
   refine rg ?_;conv=>whnf
   refine⟨qy,?_⟩
   conv=>whnf
   refine Mw 84 [Bi ⟨4,0,to,[],g,0⟩] E (.cons (.agg (.cons (.refl _) (.cons (.refl _) (.cons (.refl _) (.cons .nil (.cons (.refl _) (.cons (.refl _) (.cons (.refl _) (.cons (.refl _) (.cons (.refl _) .nil)))))))))) .nil) E ?_
   refine Dm 84 Bi [⟨4,0,to,[],g,0⟩] E E ?_
   refine As 84 E ?_
   exact Ac E (.cons .tmp (.cons (.cell E E E E) (.cons .tmp .nil))) E E
 rw[if_neg qz]at hres
 have hs:=hq.frame.src
 have hd2:=hq.frame.dst
 have hfw:=Aki hu q.frame.dst
 have qd:=Ar8 n hn fw u dom q.from_ q.frame.dst hu.short (by unfold I64 at *;omega) qn
 have hports:=U7 hbn fw u dom q.from_ q.frame.dst
 have hfew:=Tm hn fw u dom q.from_ q.frame.dst
 generalize decideT n fw u dom q.from_ q.frame.dst=dc at *
 obtain ⟨ports,peers,e0⟩:=dc
 dsimp only at hres qd hports hfew
 obtain ⟨hf1,hf2⟩:=hfew
 (refine rg ?_;(conv=>whnf);refine aF ?_;refine rg ?_;conv=>whnf)
 refine Ah qd F176 E E E E E ?_
 refine rg ?_;conv=>whnf
 refine Qj 13 0 1000 9 Bi E E E E ?_
 refine At ports.length (fun j=>[(3,Aa dom),(6,.ref 8 (Ap n) 0),(10,.ref 7 (Ay q) 0),(12,.sl 3 Am u),(13,.ptr 13 0),(23,.clo (.func 175) [] [.ptr 13 0]),(25,.sl 1 Aa peers),(100,.sl 1 Aa ports),(101,Aa ports.length),(102,Aa j)])
  (fun j=>[(13,.box [.osl 1000]),(1000,.row 9 Bi ((ports.take j).map (E2 n dom q.frame)))]) [(13,13),(1000,1000)] ⟨⟨rfl,rfl,rfl,rfl,rfl,rfl,rfl,rfl,rfl,rfl,rfl,rfl,rfl,rfl,rfl,rfl,rfl,rfl,rfl,rfl,trivial⟩,⟨.inl rfl,rfl,.inl rfl,rfl,trivial⟩,rfl,rfl⟩ ?_
 intro j hj
 refine rg ?_;conv=>whnf
 refine⟨fun h=>?_,fun h=>?_⟩
 ·have hlt:j<ports.length:=by have:=of_decide_eq_true h;omega
  have hj0:((j:Nat):Int).toNat<ports.length:=by simpa using hlt
  obtain ⟨p,hp⟩:∃ p,ports[j]=p:=⟨_,rfl⟩
  have e1:ports[((j:Nat):Int).toNat]'hj0=p:=hp
  have hs:(ports.take (j+1)).map (E2 n dom q.frame)=(ports.take j).map (E2 n dom q.frame)++[E2 n dom q.frame p]:=by
   rw[List.take_succ_eq_append_getElem hlt,List.map_append,hp];rfl
  have hal:((ports.take j).map (E2 n dom q.frame)).length=j:=by rw[List.length_map,List.length_take];omega
  have hpi:=hports p (by rw[← hp];exact List.getElem_mem hlt)
  have hpk:p.toNat<n.ports.length:=by omega
  have ql:=Apc n hn p dom q.frame hq.frame
  have hop:E2 n dom q.frame p=D4 (Jv (if (nth n.ports p).link<0 then 1 else 2) p 0) ((leaveT n p dom q.frame).1,(leaveT n p dom q.frame).2):=rfl
  rw[hop,Ao hpk]at hs
  clear hop
  obtain ⟨acc,hacc⟩:∃ acc,(ports.take j).map (E2 n dom q.frame)=acc:=⟨_,rfl⟩
  rw[hacc]at hs hal ⊢
  obtain ⟨x,hx⟩:∃ x,n.ports[p.toNat]'hpk=x:=⟨_,rfl⟩
  rw[hx]at hs
  clear h
  refine rg ?_;conv=>whnf
  refine⟨E,by omega,hj0,?_⟩
  rw[e1]
  conv=>whnf
  refine⟨E,hpi.1,hpk,?_⟩
  rw[hx]
  conv=>whnf
  refine⟨fun h=>?_,fun h=>?_⟩
  ·rw[if_neg (by have:=of_decide_eq_true h;omega)]at hs
   refine rg ?_;conv=>whnf
   refine Ah ql F177 E E E E E ?_
   refine rg ?_;conv=>whnf
   refine Ai (K3 [(0,13),(1,1000),(2,1001)] [] (Hv E E F175) (Tq acc 2 p 0 (leaveT n p dom q.frame).1 (leaveT n p dom q.frame).2 qn) (.cons (.agg (.cons (.refl _) (.cons (.refl _) (.cons (.refl _) (.cons .nil (.cons (.refl _) (.cons (.refl _) (.cons (.refl _) (.cons .nil (.cons (.refl _) .nil)))))))))) (.cons (.refl _) (.cons (.refl _) (.cons (.refl _) .nil)))) ⟨E,E,Y⟩ E ⟨.inl E,.inl E,.inr E,Y⟩ E) E E ?_
   refine rg ?_;conv=>whnf
   refine⟨by unfold I64;omega,?_⟩
   conv=>whnf
   exact Aq [(13,13),(1000,1001)] hlt ⟨⟨E,E,E,E,E,E,E,E,E,E,E,E,E,E,E,E,E,E,E,E,Y⟩,⟨.inl E,E,.inl (congrArg (Ob.row 9 Bi) hs),E,Y⟩,E,E⟩
  ·rw[if_pos (by have:=of_decide_eq_false h;omega)]at hs
   refine rg ?_;conv=>whnf
   refine Ah ql F177 E E E E E ?_
   refine rg ?_;conv=>whnf
   refine Ai (K3 [(0,13),(1,1000),(2,1001)] [] (Hv E E F175) (Tq acc 1 p 0 (leaveT n p dom q.frame).1 (leaveT n p dom q.frame).2 qn) (.cons (.agg (.cons (.refl _) (.cons (.refl _) (.cons (.refl _) (.cons .nil (.cons (.refl _) (.cons (.refl _) (.cons (.refl _) (.cons .nil (.cons (.refl _) .nil)))))))))) (.cons (.refl _) (.cons (.refl _) (.cons (.refl _) .nil)))) ⟨E,E,Y⟩ E ⟨.inl E,.inl E,.inr E,Y⟩ E) E E ?_
   refine rg ?_;conv=>whnf
   refine⟨by unfold I64;omega,?_⟩
   conv=>whnf
   exact Aq [(13,13),(1000,1001)] hlt ⟨⟨E,E,E,E,E,E,E,E,E,E,E,E,E,E,E,E,E,E,E,E,Y⟩,⟨.inl E,E,.inl (congrArg (Ob.row 9 Bi) hs),E,Y⟩,E,E⟩
 have hjj:j=ports.length:=by have:=of_decide_eq_false h;omega
 subst hjj
 clear h
 rw[List.take_length]
 obtain ⟨acc0,hacc0⟩:∃ acc0,ports.map (E2 n dom q.frame)=acc0:=⟨_,rfl⟩
 have hal0:acc0.length=ports.length:=by rw[← hacc0,List.length_map]
 rw[hacc0]at hres ⊢
 refine rg ?_;conv=>whnf
 refine At peers.length (fun j=>[(3,Aa dom),(6,.ref 8 (Ap n) 0),(10,.ref 7 (Ay q) 0),(12,.sl 3 Am u),(13,.ptr 13 0),(23,.clo (.func 175) [] [.ptr 13 0]),(130,.sl 1 Aa peers),(131,Aa peers.length),(132,Aa j)])
  (fun j=>[(13,.box [.osl 1000]),(1000,.row 9 Bi (acc0++(peers.take j).map (H3 n dom q.frame)))]) [(13,13),(1000,1000)] ⟨⟨rfl,rfl,rfl,rfl,rfl,rfl,rfl,rfl,rfl,rfl,rfl,rfl,rfl,rfl,rfl,rfl,rfl,rfl,trivial⟩,⟨.inl rfl,rfl,.inl (congrArg (Ob.row 9 Bi) za),rfl,trivial⟩,rfl,rfl⟩ ?_
 intro j hj
 refine rg ?_;conv=>whnf
 refine⟨fun h=>?_,fun h=>?_⟩
 ·have hlt:j<peers.length:=by have:=of_decide_eq_true h;omega
  have hj0:((j:Nat):Int).toNat<peers.length:=by simpa using hlt
  obtain ⟨p,hp⟩:∃ p,peers[j]=p:=⟨_,rfl⟩
  have e1:peers[((j:Nat):Int).toNat]'hj0=p:=hp
  have hs:acc0++(peers.take (j+1)).map (H3 n dom q.frame)=(acc0++(peers.take j).map (H3 n dom q.frame))++[H3 n dom q.frame p]:=by
   rw[List.take_succ_eq_append_getElem hlt,List.map_append,hp,List.append_assoc];rfl
  have hal:(acc0++(peers.take j).map (H3 n dom q.frame)).length≤ports.length+j:=by rw[List.length_append,List.length_map,List.length_take];omega
  have ql:=Ain n hn hm0 dom p q.frame hq.frame
  have hop:H3 n dom q.frame p=D4 (Jv 3 0 p) ((meshT n dom p q.frame).1,(meshT n dom p q.frame).2):=rfl
  rw[hop]at hs
  clear hop
  obtain ⟨acc,hacc⟩:∃ acc,acc0++(peers.take j).map (H3 n dom q.frame)=acc:=⟨_,rfl⟩
  rw[hacc]at hs hal ⊢
  clear h
  refine rg ?_;conv=>whnf
  refine⟨E,by omega,hj0,?_⟩
  rw[e1]
  conv=>whnf
  refine Ah ql F178 E E E E E ?_
  refine rg ?_;conv=>whnf
  refine Ai (K3 [(0,13),(1,1000),(2,1001)] [] (Hv E E F175) (Tq acc 3 0 p (meshT n dom p q.frame).1 (meshT n dom p q.frame).2 qn) (.cons (.agg (.cons (.refl _) (.cons (.refl _) (.cons (.refl _) (.cons .nil (.cons (.refl _) (.cons (.refl _) (.cons (.refl _) (.cons .nil (.cons (.refl _) .nil)))))))))) (.cons (.refl _) (.cons (.refl _) (.cons (.refl _) .nil)))) ⟨E,E,Y⟩ E ⟨.inl E,.inl E,.inr E,Y⟩ E) E E ?_
  refine rg ?_;conv=>whnf
  refine⟨by unfold I64;omega,?_⟩
  conv=>whnf
  exact Aq [(13,13),(1000,1001)] hlt ⟨⟨E,E,E,E,E,E,E,E,E,E,E,E,E,E,E,E,E,E,Y⟩,⟨.inl E,E,.inl (congrArg (Ob.row 9 Bi) hs),E,Y⟩,E,E⟩
 have hjj:j=peers.length:=by have:=of_decide_eq_false h;omega
 subst hjj
 clear h
 rw[List.take_length]
 subst hres
 refine rg ?_;conv=>whnf
 refine⟨qy,?_⟩
 conv=>whnf
 refine As 1000 E ?_
 exact Ac E (.cons .tmp (.cons (.cell E E E E) (.cons .tmp .nil))) E E
theorem Ia {l:List QueuedM} (h:Ei l):l.length<1000000∧Qk l:=⟨by have:=h.1;omega,fun q hq=>by have:=(h.2 q hq).frame.body;omega⟩
theorem Jx {α:Type} {l:List α} {i:Nat} (h:i<l.length) (d:α):(l[i]?).getD d=l[i]:=by
 rw[List.getElem?_eq_getElem h];rfl
theorem placeB_iff {d:Int} {k:Nat}:Al d k=true↔0≤d∧d.toNat<k:=by
 simp only[Al,Bool.and_eq_true,decide_eq_true_eq];omega
theorem Adp (l:List EntryM) (hl:l.length<2147483648):Sy.Spec Tryz.prog 48 [.sl 3 Am l] [] (.sl 3 Am l) []:=Ab Γ hm 100 F48 Tryz.ntmps48 rfl fun F hF=>by
 conv=>whnf
 refine D7 E (.inl E) E E E .sl E E ?_
 intro b hb
 cases b
 ·(refine rg ?_;(conv=>whnf);refine aF ?_;refine rg ?_;conv=>whnf)
  refine Ai (Ae Γ.toTy 7 E E E E E (.lit (e:=Am) (l:=[]) E E) .sl za (by simp;omega) (by simp;omega)) E E ?_
  refine As 7 E ?_
  refine rg ?_;conv=>whnf
  exact Ac E (.cons .tmp .nil) E E
 ·have h0:l=[]:=List.eq_nil_of_length_eq_zero (hb rfl)
  subst h0
  (refine rg ?_;(conv=>whnf);refine aT ?_;refine rg ?_;conv=>whnf)
  refine An 2 3 Am E ?_
  exact Ac E (.cons .tmp .nil) E E
def loadT (m:MacM) (dom:Int) (t:List EntryM):MacM × Int:=if Al dom m.queues.length=true∧tableB t=true then (Bv m dom t,0) else (m,2)
theorem Any (n:Net) (m:MacM) (d:Bool) (dom:Int) (t:List EntryM) (hq:m.tables.length=m.queues.length) (hl:Ar t) (hmac:∀ e∈t,e.mac<18446744073709551616) :
  Sy.Spec Tryz.prog 19 [.ptr 0 0,Aa dom,.sl 3 Am t] (Cw n m d) (Aa (loadT m dom t).2) (Cw n (loadT m dom t).1 d):=Ab Γ hm 100 F19 Tryz.ntmps19 rfl fun F hF=>by
 have hl2:=hl
 unfold Ar at hl2
 have hres:=loadT.eq_1 m dom t
 generalize loadT m dom t=res at *
 have h1:=Acc n m d dom
 have hpl:=placeB_iff (d:=dom) (k:=m.queues.length)
 generalize Al dom m.queues.length=b at *
 ((conv=>whnf);refine aF ?_;refine rg ?_;conv=>whnf)
 refine Ai (Ak [] E F46 h1 E ⟨E,E,E,E,Y⟩ E ⟨.inl E,.inl E,.inl E,.inl E,Y⟩) E E ?_
 refine rg ?_;conv=>whnf
 cases b
 ·rw[if_neg za]at hres
  subst hres
  (refine⟨fun _=>?_,fun h=>False.elim (absurd h qz)⟩;refine rg ?_;(conv=>whnf);refine aT ?_;refine rg ?_;conv=>whnf)
  exact done E (.cons .tmp .nil) [] (Cw n m d) (fun _ h=>h) E E ⟨Y,⟨.inl E,E,.inl E,E,.inl E,E,.inl E,E,Y⟩,E,E⟩
 have hd:=hpl.1 rfl
 (refine⟨fun h=>False.elim (absurd h qz),fun _=>?_⟩;refine rg ?_;conv=>whnf)
 refine Ah (Qm t hl hmac) F47 E E E E E ?_
 generalize tableB t=c at *
 refine rg ?_;conv=>whnf
 cases c
 ·rw[if_neg za]at hres
  subst hres
  (refine⟨fun _=>?_,fun h=>False.elim (absurd h qz)⟩;refine rg ?_;conv=>whnf)
  exact done E (.cons .tmp .nil) [] (Cw n m d) (fun _ h=>h) E E ⟨Y,⟨.inl E,E,.inl E,E,.inl E,E,.inl E,E,Y⟩,E,E⟩
 rw[if_pos ⟨rfl,rfl⟩]at hres
 subst hres
 (refine⟨fun h=>False.elim (absurd h qz),fun _=>?_⟩;refine rg ?_;conv=>whnf)
 refine Au (Adp t hl2) F48 E E E qy E ?_
 refine rd qy ?_;conv=>whnf
 refine⟨hd.1,by omega,?_⟩
 conv=>whnf
 refine⟨E,by omega,t,E,E,?_⟩
 conv=>whnf
 refine⟨qy,?_⟩
 conv=>whnf
 exact done E (.cons .tmp .nil) [] (Cw n (Bv m dom t) d) (fun _ h=>h) E E ⟨Y,⟨.inl E,E,.inl E,E,.inl E,E,.inl E,E,Y⟩,E,E⟩
theorem Ak7 (n:Net) (m:MacM) (d:Bool) (dom:Int) (hl:Ei (queueL m dom)) :
  Sy.Spec Tryz.prog 57 [.ptr 0 0,Aa dom] (Cw n m d) (.sl 7 Ay (if Al dom m.queues.length then queueL m dom else [])) (Cw n m d):=Ab Γ hm 100 F57 Tryz.ntmps57 rfl fun F hF=>by
 have h1:=Acc n m d dom
 have hpl:=placeB_iff (d:=dom) (k:=m.queues.length)
 generalize Al dom m.queues.length=b at *
 have hb:=Ia hl
 have h2:=Yn _ (-1) hb.1 hb.2
 have h3:takeT (queueL m dom) (-1)=(noQ,queueL m dom,false):=by rw[takeT];exact if_pos (.inl qz)
 rw[h3]at h2
 clear h3 hb hl
 have hres:=queueL.eq_1 m dom
 generalize queueL m dom=res at *
 conv=>whnf
 refine Ai (Ak [] E F46 h1 E ⟨E,E,E,E,Y⟩ E ⟨.inl E,.inl E,.inl E,.inl E,Y⟩) E E ?_
 refine rg ?_;conv=>whnf
 cases b
 ·(refine⟨fun _=>?_,fun h=>False.elim (absurd h qz)⟩;refine rg ?_;conv=>whnf)
  refine An 4 7 Ay E ?_
  exact done E (.cons .tmp .nil) [] (Cw n m d) (fun _ h=>h) E E ⟨Y,⟨.inl E,E,.inl E,E,.inl E,E,.inl E,E,Y⟩,E,E⟩
 have hd:=hpl.1 rfl
 have hlt:dom.toNat<m.queues.length:=hd.2
 rw[Jx hlt]at hres
 subst hres
 (refine⟨fun h=>False.elim (absurd h qz),fun _=>?_⟩;refine rg ?_;conv=>whnf)
 refine⟨hd.1,by omega,?_⟩
 conv=>whnf
 refine⟨E,hlt,?_⟩
 conv=>whnf
 refine Ah h2 F106 E E E E E ?_
 refine rg ?_;conv=>whnf
 exact done E (.cons .tmp .nil) [] (Cw n m d) (fun _ h=>h) E E ⟨Y,⟨.inl E,E,.inl E,E,.inl E,E,.inl E,E,Y⟩,E,E⟩
def Hn (m:MacM):Prop:=∀ i,0≤m.drops i∧m.drops i≤1000000000000
theorem T1 (n:Net) (m:MacM) (d:Bool) (dom:Int) (q:QueuedM) (e:Int) (he:0≤e∧e<64) (hd:e=0→0≤dom∧dom.toNat<m.queues.length) (hb:Hn m) (hl:Ei (queueL m dom)) (hq:QueuedOK q) :
  Sy.Spec Tryz.prog 101 [.ptr 0 0,Aa dom,Ay q,Aa e] (Cw n m d) (.tup []) (Cw n (comeM m dom q e) d):=Ab Γ hm 100 F101 Tryz.ntmps101 rfl fun F hF=>by
 have hqb:=Ia hl
 have hp:=Ae5 _ q hqb.1 hqb.2 (by have:=hq.frame.body;omega)
 have h1:=Agg n m d e he.1 he.2 (hb _)
 have h3:=Agg n m d 3 qz qz (hb _)
 have hres:=comeM.eq_1 m dom q e
 generalize comeM m dom q e=res at *
 conv=>whnf
 refine⟨fun h=>?_,fun h=>?_⟩
 ·rw[if_pos (by simpa using h)]at hres
  subst hres
  refine rg ?_;conv=>whnf
  refine Ai (Ak [] E F104 h1 E ⟨E,E,E,E,Y⟩ E ⟨.inl E,.inl E,.inl E,.inl E,Y⟩) E E ?_
  refine rg ?_;conv=>whnf
  exact done E .nil [] (Cw n (Bf m e) d) (fun _ h=>h) E E ⟨Y,⟨.inl E,E,.inl E,E,.inl E,E,.inl E,E,Y⟩,E,E⟩
 have h0:e=0:=by simpa using h
 have hd:=hd h0
 rw[if_neg (by rw[h0];decide)]at hres
 clear h hqb h1 hl he
 have hq0:=queueL.eq_1 m dom
 rw[Jx hd.2]at hq0
 generalize queueL m dom=l at *
 generalize pushT l q=r at *
 obtain ⟨l2,ok⟩:=r
 subst hq0
 refine rg ?_;conv=>whnf
 refine⟨hd.1,hd.2,?_⟩
 conv=>whnf
 refine⟨E,hd.2,?_⟩
 conv=>whnf
 refine Au hp F170 E E E qy E ?_
 refine rd qy ?_;conv=>whnf
 refine⟨qy,?_⟩
 conv=>whnf
 cases ok
 ·rw[if_neg za]at hres
  subst hres
  (refine⟨fun _=>?_,fun h=>False.elim (by simp at h)⟩;refine rg ?_;conv=>whnf)
  refine Ai (Ak [] E F104 h3 E ⟨E,E,E,E,Y⟩ E ⟨.inl E,.inl E,.inl E,.inl E,Y⟩) E E ?_
  refine rg ?_;conv=>whnf
  exact done E .nil [] (Cw n (Bf m 3) d) (fun _ h=>h) E E ⟨Y,⟨.inl E,E,.inl E,E,.inl E,E,.inl E,E,Y⟩,E,E⟩
 ·rw[if_pos rfl]at hres
  subst hres
  (refine⟨fun h=>False.elim (by simp at h),fun _=>?_⟩;refine rg ?_;conv=>whnf)
  refine⟨hd.1,hd.2,?_⟩
  conv=>whnf
  refine⟨E,hd.2,l2,E,E,?_⟩
  conv=>whnf
  exact Bw E .nil [] (Cw n (Acg m dom l2) d) (fun _ h=>h) E E ⟨Y,⟨.inl E,E,.inl E,E,.inl E,E,.inl E,E,Y⟩,E,E⟩
theorem Aeg (n:Net) (m:MacM) (d:Bool) (dom at_:Int) (hl:Ei (queueL m dom)) :
  Sy.Spec Tryz.prog 53 [.ptr 0 0,Aa dom,Aa at_] (Cw n m d) (.tup [Ay (takeM m dom at_).2.1,Ad (takeM m dom at_).2.2]) (Cw n (takeM m dom at_).1 d):=Ab Γ hm 100 F53 Tryz.ntmps53 rfl fun F hF=>by
 have hqb:=Ia hl
 have hp:=Yn _ at_ hqb.1 hqb.2
 have h1:=Acc n m d dom
 have hpl:=placeB_iff (d:=dom) (k:=m.queues.length)
 have hres:=takeM.eq_1 m dom at_
 generalize takeM m dom at_=res at *
 generalize Al dom m.queues.length=b at *
 have hq0:=queueL.eq_1 m dom
 clear hl hqb
 generalize queueL m dom=l at *
 generalize takeT l at_=r at *
 obtain ⟨q,l2,ok⟩:=r
 conv=>whnf
 refine Ai (Ak [] E F46 h1 E ⟨E,E,E,E,Y⟩ E ⟨.inl E,.inl E,.inl E,.inl E,Y⟩) E E ?_
 refine rg ?_;conv=>whnf
 cases b
 ·rw[if_pos rfl]at hres
  subst hres
  (refine⟨fun _=>?_,fun h=>False.elim (absurd h qz)⟩;refine rg ?_;conv=>whnf)
  refine Av 6 [Aa 0,Aa 0,Aa 0,Az 0,Az 0,Aa 0,.sl 1 Aj []] E (.cons (.refl _) (.cons (.refl _) (.cons (.refl _) (.cons (.refl _) (.cons (.refl _) (.cons (.refl _) (.cons .nil .nil))))))) ?_
  exact done E (.cons (.cell E E E E) (.cons .tmp .nil)) [] (Cw n m d) (fun _ h=>h) E E ⟨Y,⟨.inl E,E,.inl E,E,.inl E,E,.inl E,E,Y⟩,E,E⟩
 have hd:=hpl.1 rfl
 rw[Jx hd.2]at hq0
 subst hq0
 rw[if_neg za]at hres
 subst hres
 (refine⟨fun h=>False.elim (absurd h qz),fun _=>?_⟩;refine rg ?_;conv=>whnf)
 refine⟨hd.1,hd.2,?_⟩
 conv=>whnf
 refine⟨E,hd.2,?_⟩
 conv=>whnf
 refine Ah hp F106 E E E E E ?_
 refine rg ?_;conv=>whnf
 refine⟨hd.1,hd.2,?_⟩
 conv=>whnf
 refine⟨E,hd.2,l2,E,E,?_⟩
 conv=>whnf
 exact done E (.cons (.cell E E E E) (.cons .tmp .nil)) [] (Cw n (Acg m dom l2) d) (fun _ h=>h) E E ⟨Y,⟨.inl E,E,.inl E,E,.inl E,E,.inl E,E,Y⟩,E,E⟩
theorem Ag7 (n:Net) (hn:n.Fin) (m:MacM) (d:Bool) (J D:Int) (hm0:MacOK n m J D) (hJ:J<1000000000000) (hD:D≤1000000000000) (port:Int) (b:List UInt8) (hb:b.length<100000) :
  Sy.Spec Tryz.prog 51 [.ptr 0 0,Aa port,.sl 1 Aj b] (Cw n m d) (.tup []) (Cw n (injectT n m port b) d):=Ab Γ hm 100 F51 Tryz.ntmps51 rfl fun F hF=>by
 have hres:=injectT.eq_1 n m port b
 generalize injectT n m port b=res at *
 have hpl:=placeB_iff (d:=port) (k:=n.ports.length)
 have hinj:=hm0.inj
 have hok:MacOK n ⟨m.up,m.tables,m.queues,m.now,m.injected+1,m.drops⟩ (J+1) D:=⟨hm0.up,hm0.tabs,hm0.ques,hm0.tab,hm0.que,hm0.now,⟨by dsimp only;omega,by dsimp only;omega⟩,hm0.drp⟩
 have hdr:Hn ⟨m.up,m.tables,m.queues,m.now,m.injected+1,m.drops⟩:=fun i=>⟨(hm0.drp i).1,by have:=(hm0.drp i).2;dsimp only at *;omega⟩
 have he:=Th n port b
 have hdom:=Ti (n:=n) (port:=port) (b:=b)
 have q1:=Agc n hn port b hb
 have hfr:=Q0 n port b
 generalize enterT n port b=r at *
 have q2:=fun (hp:0≤port∧port.toNat<n.ports.length)=>T1 n ⟨m.up,m.tables,m.queues,m.now,m.injected+1,m.drops⟩ d r.1 ⟨port,0,m.injected+1,r.2.1⟩ r.2.2 ⟨he.1,by have:=he.2;omega⟩ (fun h=>by
  have:=hdom h
  exact⟨this.1,by show r.1.toNat<m.queues.length;rw[hm0.ques];exact this.2⟩) hdr (Cz hok _) (Dn hfr _ ⟨by omega,by have:=hn.ports;unfold Ar at this;omega⟩ qz)
 conv=>whnf
 refine⟨fun h=>?_,fun h=>?_⟩
 ·have h:=of_decide_eq_true h
  rw[if_pos (.inl (by cases hx:Al port n.ports.length;rfl;exact absurd (hpl.1 hx) qn))]at hres
  subst hres
  (refine rg ?_;(conv=>whnf);refine aT ?_;refine rg ?_;(conv=>whnf);refine aT ?_;refine rg ?_;conv=>whnf)
  (skip)
  exact done E .nil [] (Cw n res d) (fun _ h=>h) E E ⟨Y,⟨.inl E,E,.inl E,E,.inl E,E,.inl E,E,Y⟩,E,E⟩
 have h0:=of_decide_eq_false h
 clear h
 refine rg ?_;conv=>whnf
 refine⟨fun h=>?_,fun h=>?_⟩
 ·have h:=of_decide_eq_true h
  rw[if_pos (.inl (by cases hx:Al port n.ports.length;rfl;exact absurd (hpl.1 hx) qn))]at hres
  subst hres
  (refine rg ?_;(conv=>whnf);refine aT ?_;refine rg ?_;conv=>whnf)
  (skip)
  exact done E .nil [] (Cw n res d) (fun _ h=>h) E E ⟨Y,⟨.inl E,E,.inl E,E,.inl E,E,.inl E,E,Y⟩,E,E⟩
 have h1:=of_decide_eq_false h
 clear h
 have hp:0≤port∧port.toNat<n.ports.length:=by omega
 rw[hpl.2 hp,Ao hp.2]at hres
 obtain ⟨p,hpp⟩:∃ p,n.ports[port.toNat]'hp.2=p:=⟨_,rfl⟩
 rw[hpp]at hres
 refine rg ?_;conv=>whnf
 refine⟨E,hp.1,hp.2,?_⟩
 rw[hpp]
 conv=>whnf
 refine⟨fun h=>?_,fun h=>?_⟩
 ·have h:=of_decide_eq_true h
  rw[if_pos (.inr h)]at hres
  subst hres
  refine rg ?_;conv=>whnf
  exact done E .nil [] (Cw n res d) (fun _ h=>h) E E ⟨Y,⟨.inl E,E,.inl E,E,.inl E,E,.inl E,E,Y⟩,E,E⟩
 have h2:=of_decide_eq_false h
 clear h
 rw[if_neg (by simp;omega)]at hres
 subst hres
 refine rg ?_;conv=>whnf
 refine⟨by unfold I64;omega,?_⟩
 conv=>whnf
 refine Ah q1 F100 E E E E E ?_
 refine rg ?_;conv=>whnf
 refine Bn (Ak [] E F101 (q2 hp) E ⟨E,E,E,E,Y⟩ E ⟨.inl E,.inl E,.inl E,.inl E,Y⟩) qy E ?_
 refine rd qy ?_;conv=>whnf
 refine⟨qy,?_⟩
 conv=>whnf
 refine Bw E .nil [] (Cw n (comeM _ _ _ _) d) (fun _ h=>h) E E ⟨Y,⟨.inl E,E,.inl E,E,.inl E,E,.inl E,E,Y⟩,E,E⟩
theorem X1 (n:Net) (hn:n.Fin) (m:MacM) (d:Bool) (J D:Int) (hm0:MacOK n m J D) (hD:D≤1000000000000) (o:OutM) (ho:OutOK n o) (origin:Int) :
  Sy.Spec Tryz.prog 105 [.ptr 0 0,Bi o,Aa origin] (Cw n m d) (.sl 3 A9 (goesM n m o origin).2) (Cw n (goesM n m o origin).1 d):=Ab Γ hm 100 F105 Tryz.ntmps105 rfl fun F hF=>by
 have hres:=goesM.eq_1 n m o origin
 generalize goesM n m o origin=res at *
 have hdr:Hn m:=fun i=>⟨(hm0.drp i).1,by have:=(hm0.drp i).2;omega⟩
 have hbl:o.bytes.length<100000:=by have:=ho.bytes;omega
 have hin:∀ {x:Int},DomIn n x→0≤x∧x.toNat<m.queues.length:=fun h=>by rw[hm0.ques];exact h
 conv=>whnf
 refine⟨fun h=>?_,fun h=>?_⟩
 ·have h1:o.kind=1:=by simpa using h
  rw[if_pos h1]at hres
  subst hres
  refine rg ?_;conv=>whnf
  refine Dm 34 A9 [⟨o.port,origin,o.bytes⟩] E E ?_
  refine As 34 E ?_
  exact done E (.cons .tmp .nil) [] (Cw n m d) (fun _ h=>h) E E ⟨Y,⟨.inl E,E,.inl E,E,.inl E,E,.inl E,E,Y⟩,E,E⟩
 have h1:¬ o.kind=1:=by simpa using h
 rw[if_neg h1]at hres
 clear h
 refine rg ?_;conv=>whnf
 refine⟨fun h=>?_,fun h=>?_⟩
 ·have h2:o.kind=2:=by simpa using h
  rw[if_pos h2]at hres
  have q1:=Aio n hn o.port o.bytes hbl
  have he:=Abd n o.port o.bytes
  have hd:=fun h=>hin (Abe (n:=n) (port:=o.port) (b:=o.bytes) h)
  have hf:=Yx n o.port o.bytes
  have ht:=Yw hn o.port o.bytes
  generalize linkT n o.port o.bytes=r at *
  have q2:=T1 n m d r.2.1 ⟨r.1,0,origin,r.2.2.1⟩ r.2.2.2 he hd hdr (Cz hm0 _) (Dn hf _ qn qz)
  subst hres
  refine rg ?_;conv=>whnf
  refine Au q1 F182 E E E qy E ?_
  refine rd qy ?_;conv=>whnf
  refine⟨qy,?_⟩
  conv=>whnf
  refine⟨qy,?_⟩
  conv=>whnf
  refine Ai (Ak [] E F101 q2 E ⟨E,E,E,E,Y⟩ E ⟨.inl E,.inl E,.inl E,.inl E,Y⟩) E E ?_
  refine rg ?_;conv=>whnf
  refine An 6 3 A9 E ?_
  exact done E (.cons .tmp .nil) [] (Cw n (comeM _ _ _ _) d) (fun _ h=>h) E E ⟨Y,⟨.inl E,E,.inl E,E,.inl E,E,.inl E,E,Y⟩,E,E⟩
 have h2:¬ o.kind=2:=by simpa using h
 rw[if_neg h2]at hres
 clear h
 refine rg ?_;conv=>whnf
 refine⟨fun h=>?_,fun h=>?_⟩
 ·have h2:o.kind=3:=by simpa using h
  rw[if_pos h2]at hres
  have q1:=Aip n hn o.bytes hbl
  have he:=Ab0 n o.bytes
  have hd:=fun h=>hin (V5 (n:=n) (b:=o.bytes) h).2
  have hf:=Zs n o.bytes
  have ht:=Tp hn o.bytes
  generalize comeT n o.bytes=r at *
  have q2:=T1 n m d r.2.1 ⟨-1,r.1,origin,r.2.2.1⟩ r.2.2.2 he hd hdr (Cz hm0 _) (Dn hf _ qz ht)
  subst hres
  refine rg ?_;conv=>whnf
  refine Au q1 F183 E E E qy E ?_
  refine rd qy ?_;conv=>whnf
  refine⟨qy,?_⟩
  conv=>whnf
  refine⟨qy,?_⟩
  conv=>whnf
  refine Ai (Ak [] E F101 q2 E ⟨E,E,E,E,Y⟩ E ⟨.inl E,.inl E,.inl E,.inl E,Y⟩) E E ?_
  refine rg ?_;conv=>whnf
  refine An 6 3 A9 E ?_
  exact done E (.cons .tmp .nil) [] (Cw n (comeM _ _ _ _) d) (fun _ h=>h) E E ⟨Y,⟨.inl E,E,.inl E,E,.inl E,E,.inl E,E,Y⟩,E,E⟩
 have h3:¬ o.kind=3:=by simpa using h
 rw[if_neg h3]at hres
 clear h
 refine rg ?_;conv=>whnf
 refine⟨fun h=>?_,fun h=>?_⟩
 ·have h4:o.kind=4:=by simpa using h
  rw[if_pos h4]at hres
  have hf:=ho.frame h4
  have q2:=T1 n m d o.domain ⟨-2,0,origin,o.frame⟩ 0 qz (fun _=>hin hf.2) hdr (Cz hm0 _) (Dn hf.1 _ qz qz)
  subst hres
  refine rg ?_;conv=>whnf
  refine Ai (Ak [] E F101 q2 E ⟨E,E,E,E,Y⟩ E ⟨.inl E,.inl E,.inl E,.inl E,Y⟩) E E ?_
  refine rg ?_;conv=>whnf
  refine An 6 3 A9 E ?_
  exact done E (.cons .tmp .nil) [] (Cw n (comeM _ _ _ _) d) (fun _ h=>h) E E ⟨Y,⟨.inl E,E,.inl E,E,.inl E,E,.inl E,E,Y⟩,E,E⟩
 have h4:¬ o.kind=4:=by simpa using h
 rw[if_neg h4]at hres
 have h5:o.kind=5:=by have:=ho.kind;omega
 have he:=ho.err h5
 have q2:=Agg n m d o.error he.1 he.2 (hdr _)
 subst hres
 clear h
 refine rg ?_;conv=>whnf
 refine Ai (Ak [] E F104 q2 E ⟨E,E,E,E,Y⟩ E ⟨.inl E,.inl E,.inl E,.inl E,Y⟩) E E ?_
 refine rg ?_;conv=>whnf
 refine An 6 3 A9 E ?_
 exact done E (.cons .tmp .nil) [] (Cw n (Bf m o.error) d) (fun _ h=>h) E E ⟨Y,⟨.inl E,E,.inl E,E,.inl E,E,.inl E,E,Y⟩,E,E⟩
def Afe (up:List Bool) (dn lk:Int) (fw:List Bool):List SV:=[.sl 1 Ad up,.val (.int .u32 dn),.val (.int .i32 lk),.val (.int .u32 0),.sl 1 Ad fw]
def Q7 (n:Net) (up:List Bool) (dn lk:Int) (fw:List Bool):Obs:=[(1,.box (Afe up dn lk fw)),(2,.box [.ptr 1 0]),(3,.box (Z8 n))]
theorem Al8 (n:Net) (hn:n.Fin) (up fw:List Bool) (dn lk:Int) :
  Sy.Spec Tryz.prog 180 [.ptr 3 0,.ptr 2 0] (Q7 n up dn lk fw) (.tup []) (Q7 n up dn lk (H5 n up)):=Ab Γ hm 100 F180 Tryz.ntmps180 rfl fun F hF=>by
 have hf:∃ e,Sy.Spec Tryz.prog 44 [Ap n,.sl 1 Ad up] [] (.tup [.sl 1 Ad (H5 n up),Aa e]) []:=by
  unfold H5
  split
  ·rename_i h;exact⟨0,Abt n up hn h⟩
  ·rename_i h;exact⟨2,Zh n up hn (by simpa using h)⟩
 obtain ⟨e,hf⟩:=hf
 generalize H5 n up=r at *
 conv=>whnf
 refine Au hf F44 E E E qy E ?_
 refine rd qy ?_;conv=>whnf
 refine⟨qy,?_⟩
 conv=>whnf
 exact Bw E .nil [] (Q7 n up dn lk r) (fun _ h=>h) E E ⟨Y,⟨.inl E,E,.inl E,E,.inl E,E,Y⟩,E,E⟩
theorem Ao7 (a:Addr) (x:Int) (w:World) (hc:w.cell? a=some (.int .u32 x)):(callFunc 312 #[.pointer (some a)]).run Tryz.prog w=.ok (.value (.int .u32 x)) w :=
 run_call_load Tryz.func312 qy qy qy .u32 qy hc
theorem Aa9 (n:Net) (up fw:List Bool) (dn lk:Int):Sy.Spec Tryz.prog 255 [.ptr 1 1] (Q7 n up dn lk fw) (Ad (dn != 0)) (Q7 n up dn lk fw):=Ab Γ hm 100 F255 Tryz.ntmps255 rfl fun F hF=>by
 conv=>whnf
 refine Ai (Aam Ao7 E E E E) E E ?_
 refine rg ?_;conv=>whnf
 exact done E (.cons .tmp .nil) [] (Q7 n up dn lk fw) (fun _ h=>h) E E ⟨Y,⟨.inl E,E,.inl E,E,.inl E,E,Y⟩,E,E⟩
theorem Uf (w:World):(callFunc 348 #[]).run Tryz.prog w=.ok (.value (.tuple #[])) w:=run_call_mark0 Tryz.func348 qy qy qy .disable qy w
theorem Wk (w:World):(callFunc 350 #[]).run Tryz.prog w=.ok (.value (.tuple #[])) w:=run_call_mark0 Tryz.func350 qy qy qy .enable qy w
theorem Acs (a:Addr) (w:World):(callFunc 351 #[.pointer (some a)]).run Tryz.prog w=.ok (.value (.tuple #[])) w:=run_call_marked Tryz.func351 qy qy qy .acquire qy a w
theorem Acr (a:Addr) (w:World):(callFunc 353 #[.pointer (some a)]).run Tryz.prog w=.ok (.value (.tuple #[])) w:=run_call_marked Tryz.func353 qy qy qy .releaseMerge qy a w
theorem Xy (a:Addr) (x:Value) (u:FrameMode) (w:World) (hc:w.cell? a=some x) (hz:w.frozen? a=false) :
  CallsD Tryz.prog 315 #[.pointer (some a),.bool true] u w fun e u' w'=>u'=u∧(e=.returned (.tuple #[])∧w'=w.drew.setCell a (.int .u32 1)):=by
 have hc':w.drew.cell? a=some x:=by go_simp
 have hz':w.drew.frozen? a=false:=by go_simp
 have hst:=run_call_store (P:=Tryz.prog) Tryz.func336 qy qy qy qy (k:=.u32) (y:=1) hc' hz'
 go_enter_d Tryz.func315,Tryz.ntmps315
 go_wp2
 go_region_calls
 all_goals (go_end0;exact⟨rfl,rfl⟩)
theorem W4 (a:Addr) (u:FrameMode) (w:World) (hc:w.cell? a=some (.int .i32 1)) (hz:w.frozen? a=false) :
  CallsD Tryz.prog 314 #[.pointer (some a)] u w fun e u' w'=>u'=u∧(e=.returned (.tuple #[])∧w'=w.setCell a (.int .i32 0)):=by
 have hd:=Uf
 have he:=Wk
 have hr:=Acr
 have hadd:=run_call_add (P:=Tryz.prog) Tryz.func354 qy qy qy .i32 qy (y:=-1) (s:=0) hc hz (by simp[go_sem];rfl)
 have hcv:=run_convert_to_unsafe (P:=Tryz.prog) (src:=440) (dst:=444) Tryz.underlying440 Tryz.underlying444 qy hc
 go_enter_d Tryz.func314,Tryz.ntmps314
 go_wp2
 go_end0
 go_wp2
 go_end0
 exact⟨E,E⟩
theorem Amc (a:Addr) (w:World) (hc:w.cell? a=some (.int .i32 0)) (hz:w.frozen? a=false) :
  Calls Tryz.prog 313 #[.pointer (some a)] w fun e w'=>e=.returned (.tuple #[])∧w'=w.setCell a (.int .i32 1):=by
 have hd:=Uf
 have he:=Wk
 have ha:=Acs
 have hcas:=run_call_cas_hit (P:=Tryz.prog) Tryz.func349 qy qy qy .i32 qy (y:=1) hc hz
 have hc':(w.setCell a (.int .i32 1)).cell? a=some (.int .i32 1):=World.cell?_setCell_same w a _ hc
 have hcv:=run_convert_to_unsafe (P:=Tryz.prog) (src:=440) (dst:=444) Tryz.underlying440 Tryz.underlying444 qy hc'
 go_enter Tryz.func313,Tryz.ntmps313
 go_wp2
 first | go_end0 | (simp only[Exit.inBlock,Exit.then];refine bodyPost_ret (results_none rfl _ _ _) rfl ?_) | refine bodyPost_ret (results_none rfl _ _ _) rfl ?_
 go_wp2
 go_end0
 exact⟨E,E⟩
end Go.Sy.YtmelpejjondedaaGreat
namespace Go.Sy.YtmelpejjondedaaGreat
open Go.Proofs
set_option maxRecDepth 100000
set_option maxHeartbeats 4000000
theorem Ctx.behind {K:Nat→Prop} {κ κ2:Ka} {w w1 w2:World} (s:Step K κ w κ w1) (c:Ctx ⟨w1,κ⟩ κ2 w2):Ctx ⟨w,κ⟩ κ2 w2 where
 size:=Nat.le_trans s.size c.size
 os:=c.os.trans s.os
 tape:=c.tape.trans s.tape
 output:=c.output.trans s.output
 M:=c.M
 old:=fun b hb h=>by
  refine(c.old b (Nat.lt_of_lt_of_le hb s.size) h).trans ?_
  by_cases hm:κ.M b
  ·exact s.mkeep b hm
  ·exact s.blk b hb (fun ho=>by
    rcases ho with ⟨k,hk⟩ | ho
    ·exact h k hk
    ·exact hm ho)
 own:=fun k b hk=>by
  rcases c.own k b hk with h | h
  ·exact .inl (Nat.le_trans s.size h)
  ·exact .inr h
 nam:=c.nam
theorem Amt {κ:Ka} {w:World} (hi:Inv κ w):Step (fun _=>False) κ w κ w.drew∧Inv κ w.drew:=by
 have g:=Grew.drew w
 exact⟨⟨g.size,g.os,g.tape,g.output,E,fun b _=>rfl,fun b _ _=>rfl,fun _ _ _ _=>rfl,fun _ _=>rfl,fun _ h=>h.elim,fun _ h=>.inl h⟩,⟨hi.inj,hi.bnd,hi.apart,hi.mbnd⟩⟩
theorem Al7 (n:Net) (hn:n.Fin) (up fw:List Bool) :
  Sy.Spec Tryz.prog 256 [.ptr 1 1,.clo (.func 180) [] [.ptr 3 0,.ptr 2 0]] (Q7 n up 0 0 fw) (.tup []) (Q7 n up 1 0 (H5 n up)):=by
 intro κ w vs hi hnew hvs hok
 have o1:=hok (1,.box (Afe up 0 0 fw)) (by simp[Q7])
 have o2:=hok (2,.box [.ptr 1 0]) (by simp[Q7])
 have o3:=hok (3,.box (Z8 n)) (by simp[Q7])
 obtain ⟨b,e1,c1,c2,st1,inv1,ob1⟩:=Jh (off:=2) (x:=.val (.int .i32 1)) (v:=.int .i32 1) hi o1 rfl (fun _ _=>by simp only[Rd]) rfl
 obtain ⟨b2,_,_,_,e2,_⟩:=id o2
 obtain ⟨b3,_,_,_,e3,_⟩:=id o3
 simp only[RdL,Rd,e1,e2,e3]at hvs
 obtain ⟨v0,r0,rfl,rfl,v1,r1,rfl,⟨fs,cs,rfl,hfs,hcs⟩,rfl⟩:=hvs
 subst hfs
 obtain ⟨p3,q3,rfl,rfl,p2,q2,rfl,rfl,rfl⟩:=hcs
 have hcl:=Al8 n hn up fw 0 1 κ (w.setCell ⟨b,2,none⟩ (.int .i32 1)) [.pointer (some ⟨b3,0,none⟩),.pointer (some ⟨b2,0,none⟩)] inv1 hnew (by simp only[RdL,Rd,e2,e3];exact⟨_,_,rfl,rfl,_,_,rfl,rfl,rfl⟩) (fun p hp=>by
  simp only[Q7,List.mem_cons,List.not_mem_nil,or_false]at hp
  rcases hp with rfl | rfl | rfl
  ·exact ob1
  ·exact ObOK.step st1 (show ¬ (2:Nat)=1 by decide) _ o2
  ·exact ObOK.step st1 (show ¬ (3:Nat)=1 by decide) _ o3)
 obtain ⟨u1,hu1,hr1⟩:=c1 1 (.val (.int .u32 0)) rfl
 obtain ⟨u2,hu2,hr2⟩:=c1 2 (.val (.int .i32 0)) rfl
 rw[hr1.val]at hu1
 rw[hr2.val]at hu2
 have f1:=c2 1 (show 1<5 by decide)
 have f2:=c2 2 (show 2<5 by decide)
 have hl:=Ao7 ⟨b,1,none⟩ 0 (w.setCell ⟨b,2,none⟩ (.int .i32 1)) ((World.cell?_setCell_other _ ⟨b,2,none⟩ ⟨b,1,none⟩ _ za).trans hu1)
 have hnot:∀ (x:Bool) (w:World),(Op.unary .not (.bool x)).run Tryz.prog w=.ok (.bool (!x)) w:=fun _ _=>rfl
 go_enter_defers Tryz.func256,Tryz.ntmps256
 go_wp2_with (first | (go_at_call 313;refine(Amc ⟨b,2,none⟩ _ (by assumption) (by assumption)).mono ?_;rintro e w' ⟨rfl,rfl⟩) | (go_at_call 180;refine hcl.mono ?_;rintro e w' ⟨v,κ2,rfl,hc2,hi2,hv2,ok2⟩) | (go_at_call 255;go_in))
 have p1:=ok2 (1,.box (Afe up 0 1 (H5 n up))) (by simp[Q7])
 have k1:κ2 1=.blk b:=by
  obtain ⟨bb,_,_,_,q1,_⟩:=id p1
  rcases hc2.nam 1 (by rw[e1];intro h;cases h) with h | h
  ·rw[h];exact e1
  ·rw[h]at q1;cases q1
 obtain ⟨ba,a1,a2,a3,_,_,_⟩:=Jh (off:=1) (x:=.val (.int .u32 1)) (v:=.int .u32 1) hi2 p1 rfl (fun _ _=>by simp only[Rd]) rfl
 rw[k1]at a1
 cases a1
 obtain ⟨std,invd⟩:=Amt hi2
 have p2:=ObOK.step std (k:=1) (fun h=>h) _ p1
 obtain ⟨ba,a1,_,_,st3,inv3,ob3⟩:=Jh (off:=1) (x:=.val (.int .u32 1)) (v:=.int .u32 1) invd p2 rfl (fun _ _=>by simp only[Rd]) rfl
 rw[k1]at a1
 cases a1
 have ob3:ObOK κ2 (w'.drew.setCell ⟨b,1,none⟩ (.int .u32 1)) 1 (.box (Afe up 1 1 (H5 n up))):=ob3
 obtain ⟨ba,a1,a4,a5,st4,inv4,ob4⟩:=Jh (off:=2) (x:=.val (.int .i32 0)) (v:=.int .i32 0) inv3 ob3 rfl (fun _ _=>by simp only[Rd]) rfl
 rw[k1]at a1
 cases a1
 have ob4:ObOK κ2 ((w'.drew.setCell ⟨b,1,none⟩ (.int .u32 1)).setCell ⟨b,2,none⟩ (.int .i32 0)) 1 (.box (Afe up 1 0 (H5 n up))):=ob4
 obtain ⟨v1,hv1,hr1⟩:=a2 1 (.val (.int .u32 0)) rfl
 rw[hr1.val]at hv1
 obtain ⟨v2,hv2,hr2⟩:=a4 2 (.val (.int .i32 1)) rfl
 rw[hr2.val]at hv2
 refine leaves_cons (f:=315) (args:=#[.pointer (some ⟨b,1,none⟩),.bool true]) za (by simp[go_sem]) ?_
 refine(Xy ⟨b,1,none⟩ (.int .u32 0) .returning _ hv1 (a3 1 (show 1<5 by decide))).mono ?_
 rintro e u' w'' ⟨rfl,rfl,rfl⟩
 refine leaves_cons (f:=314) (args:=#[.pointer (some ⟨b,2,none⟩)]) (by simp[settle]) (by simp[go_sem]) ?_
 refine(W4 ⟨b,2,none⟩ _ _ hv2 (a5 2 (show 2<5 by decide))).mono ?_
 rintro e u' w'' ⟨rfl,rfl,rfl⟩
 have hst:Step (·=1) κ2 w' κ2 ((w'.drew.setCell ⟨b,1,none⟩ (.int .u32 1)).setCell ⟨b,2,none⟩ (.int .i32 0)):=(std.weaken (fun _ h=>h.elim)).trans (st3.trans st4)
 refine⟨.tuple #[],by simp[results,Tryz.results256],.tuple #[],κ2,E,Ctx.behind st1 (hc2.step inv4 hst),inv4,⟨[],E,E⟩,fun p hp=>?_⟩
 simp only[Q7,List.mem_cons,List.not_mem_nil,or_false]at hp
 rcases hp with rfl | rfl | rfl
 ·exact ob4
 ·exact ObOK.step hst (show ¬ (2:Nat)=1 by decide) _ (ok2 (2,.box [.ptr 1 0]) (by simp[Q7]))
 ·exact ObOK.step hst (show ¬ (3:Nat)=1 by decide) _ (ok2 (3,.box (Z8 n)) (by simp[Q7]))
end Go.Sy.YtmelpejjondedaaGreat
namespace Go.Sy.YtmelpejjondedaaGreat
open Go.Proofs
attribute [local irreducible] Go.Sy.G Go.Sy.DR
set_option maxRecDepth 100000
set_option maxHeartbeats 4000000
def Va (n:Net) (up:List Bool) (d:Bool):Obs:=[(1,.box (Kx n up d)),(2,.box [.ptr 1 0]),(3,.box (Z8 n))]
theorem Arp (n:Net) (hn:n.Fin) (up:List Bool) :
  Sy.Spec Tryz.prog 179 [.ptr 1 1,.clo (.func 180) [] [.ptr 3 0,.ptr 2 0]] (Va n up false) (.tup []) (Va n up true):=Ab Γ hm 100 F179 Tryz.ntmps179 rfl fun F hF=>by
 have q1:Sy.Spec Tryz.prog 255 [.ptr 1 1] (Va n up false) (Ad false) (Va n up false):=Aa9 n up [] 0 0
 have q2:Sy.Spec Tryz.prog 256 [.ptr 1 1,.clo (.func 180) [] [.ptr 3 0,.ptr 2 0]] (Va n up false) (.tup []) (Va n up true):=Al7 n hn up []
 conv=>whnf
 refine Ai (Ak [] E F255 q1 E ⟨E,E,E,Y⟩ E ⟨.inl E,.inl E,.inl E,Y⟩) E E ?_
 (refine rg ?_;(conv=>whnf);refine aT ?_;refine rg ?_;conv=>whnf)
 refine Ai (Ak [] E F256 q2 E ⟨E,E,E,Y⟩ E ⟨.inl E,.inl E,.inl E,Y⟩) E E ?_
 refine rg ?_;conv=>whnf
 exact Bw E .nil [] (Va n up true) (fun _ h=>h) E E ⟨Y,⟨.inl E,E,.inl E,E,.inl E,E,Y⟩,E,E⟩
theorem Aro (n:Net) (up:List Bool) :
  Sy.Spec Tryz.prog 179 [.ptr 1 1,.clo (.func 180) [] [.ptr 3 0,.ptr 2 0]] (Va n up true) (.tup []) (Va n up true):=Ab Γ hm 100 F179 Tryz.ntmps179 rfl fun F hF=>by
 have q1:Sy.Spec Tryz.prog 255 [.ptr 1 1] (Va n up true) (Ad true) (Va n up true):=Aa9 n up (H5 n up) 1 0
 conv=>whnf
 refine Ai (Ak [] E F255 q1 E ⟨E,E,E,Y⟩ E ⟨.inl E,.inl E,.inl E,Y⟩) E E ?_
 (refine rg ?_;(conv=>whnf);refine aF ?_;refine rg ?_;conv=>whnf)
 exact Bw E .nil [] (Va n up true) (fun _ h=>h) E E ⟨Y,⟨.inl E,E,.inl E,E,.inl E,E,Y⟩,E,E⟩
theorem Arn (n:Net) (hn:n.Fin) (up:List Bool) (d:Bool) :
  Sy.Spec Tryz.prog 179 [.ptr 1 1,.clo (.func 180) [] [.ptr 3 0,.ptr 2 0]] (Va n up d) (.tup []) (Va n up true):=by
 cases d
 ·exact Arp n hn up
 ·exact Aro n up
theorem Ak8 (n:Net) (hn:n.Fin) (up:List Bool) (d:Bool) :
  Sy.Spec Tryz.prog 103 [.ptr 1 0,Ap n] [(1,.box (Kx n up d))] (.sl 1 Ad (H5 n up)) [(1,.box (Kx n up true))]:=Ab Γ hm 100 F103 Tryz.ntmps103 rfl fun F hF=>by
 conv=>whnf
 refine Ai (Ak [] E F179 (Arn n hn up d) E ⟨E,E,E,Y⟩ E ⟨.inl E,.inl E,.inl E,Y⟩) E E ?_
 refine rg ?_;conv=>whnf
 exact done E (.cons .tmp .nil) [] [(1,.box (Kx n up true))] (fun _ h=>h) E E ⟨Y,⟨.inl E,E,Y⟩,E,E⟩
end Go.Sy.YtmelpejjondedaaGreat
namespace Go.Sy.YtmelpejjondedaaGreat
open Go.Proofs
theorem Qc {n:Net} {fw:List Bool} {t:List EntryM} {dom:Int} {q:QueuedM} {now:Int} (ht:TabOK t) (hq:QueuedOK q):TabOK (bridgeT n fw t dom q now).1:=by
 unfold bridgeT
 split
 ·exact Vs
 split
 ·split
  ·exact Lw ht hq now
  ·exact Lw ht hq now
 ·exact Lw ht hq now
theorem Qd {n:Net} (hn:n.Fin) (hm0:n.Num) {fw:List Bool} {t:List EntryM} {dom:Int} {q:QueuedM} {now:Int} (hq:QueuedOK q):∀ o∈(bridgeT n fw t dom q now).2.1,OutOK n o:=by
 intro o ho
 unfold bridgeT at ho
 split at ho
 ·cases ho
 rename_i h0
 have hb:Ag n=true:=by
  cases hx:Ag n
  ·exact absurd (.inl (by unfold roomB;rw[hx];simp)) h0
  ·rfl
 split at ho
 ·split at ho
  ·cases ho
  ·rename_i h1
   have h1:=Decidable.not_not.1 h1
   have hin:∀ (d:Int),(lookT n (routerT n dom q.frame.dst).1 d).2=true→0≤(lookT n (routerT n dom q.frame.dst).1 d).1∧(lookT n (routerT n dom q.frame.dst).1 d).1.toNat<n.irbs.length:=fun d h=>Afn h
   rw[List.mem_singleton.1 ho]
   exact⟨by dsimp only;omega,by simp,fun _=>⟨Arz n hm0 _ _ hin,Apk hin h1⟩,fun h=>by dsimp only at h;omega⟩
 ·rcases List.mem_append.1 ho with h | h
  ·obtain ⟨p,_,rfl⟩:=List.mem_map.1 h
   unfold E2
   exact Afm (by dsimp only;split<;>omega) (Aaa _ _ _ _ hq.frame) (Aim _ _ _ _)
  ·obtain ⟨p,_,rfl⟩:=List.mem_map.1 h
   unfold H3
   exact Afm (by dsimp only;omega) (by have:=Ac1 n dom p q.frame;omega) (Amb _ _ _ _)
theorem K7 {n:Net} (hn:n.Fin) (fw:List Bool) (t:List EntryM) (dom:Int) (q:QueuedM) (now:Int):(bridgeT n fw t dom q now).2.1.length<4294967296:=by
 unfold bridgeT
 split
 ·show (0:Nat)<4294967296;decide
 split
 ·split
  ·show (0:Nat)<4294967296;decide
  ·show (1:Nat)<4294967296;decide
 ·have:=Tm hn fw (learnQ t q now) dom q.from_ q.frame.dst
  simp only[List.length_append,List.length_map]
  omega
theorem U0 (n:Net) (origin:Int):∀ (a b:List OutM) (m:MacM),Ba n m origin (a++b)=((Ba n (Ba n m origin a).1 origin b).1,(Ba n m origin a).2++(Ba n (Ba n m origin a).1 origin b).2)
 | [],b,m=>by simp[Ba]
 | o::a,b,m=>by
  rw[List.cons_append,Ba,Ba,U0 n origin a b]
  simp
theorem Iu (n:Net) (m:MacM) (origin:Int) (l:List OutM) (j:Nat) (hj:j<l.length) :
  Ba n m origin (l.take (j+1))=((goesM n (Ba n m origin (l.take j)).1 l[j] origin).1,(Ba n m origin (l.take j)).2++(goesM n (Ba n m origin (l.take j)).1 l[j] origin).2):=by
 rw[List.take_succ_eq_append_getElem hj,U0]
 simp[Ba]
theorem It (n:Net) (m:MacM) (o:OutM) (origin:Int):(goesM n m o origin).2.length≤1:=by
 unfold goesM
 split
 ·simp
 split
 ·simp
 split
 ·simp
 split<;>simp
theorem Hz (n:Net) (origin:Int):∀ (l:List OutM) (m:MacM),(Ba n m origin l).2.length≤l.length
 | [],m=>by simp[Ba]
 | o::l,m=>by
  rw[Ba]
  have h1:=Hz n origin l (goesM n m o origin).1
  have h2:=It n m o origin
  simp only[List.length_append,List.length_cons]
  omega
end Go.Sy.YtmelpejjondedaaGreat
namespace Go.Sy.YtmelpejjondedaaGreat
open Go.Proofs
attribute [local irreducible] Go.Sy.G Go.Sy.DR
set_option maxRecDepth 100000
set_option maxHeartbeats 4000000
theorem Yr {n:Net} {m:MacM} {J D:Int} (h:MacOK n m J D) (hD:0≤D) (dom:Int) {r:List EntryM × List OutM × Int} (hr:TabOK r.1):MacOK n (Ib m dom r) J (D+1):=by
 unfold Ib
 split
 ·exact Qa h hD 2
 split
 ·exact Qa (Acf h dom hr) hD _
 ·exact(Acf h dom hr).mono (Int.le_refl _) qn
def queL (q:QueuedM):List SV:=[Aa q.from_,Aa q.peer,Aa q.origin,Az q.frame.dst,Az q.frame.src,Aa q.frame.typ,.sl 1 Aj q.frame.body]
def Aok (n:Net) (m:MacM) (q:QueuedM) (l:List SeenM):Obs:=[(0,.box (T0 n 1 m.now m.injected m.drops)),(1,.box (Kx n m.up true)),(2,.row 1 C7 m.tables),(3,.row 1 I8 m.queues),(7,.box (queL q)),(1000,.row 3 A9 l)]
theorem Anx (n:Net) (hn:n.Fin) (hm1:n.Num) (m:MacM) (d:Bool) (J D:Int) (hm0:MacOK n m J D) (hD0:0≤D) (hD:D≤900000000000) (dom at_:Int) :
  Sy.Spec Tryz.prog 52 [.ptr 0 0,Aa dom,Aa at_] (Cw n m d) (.sl 3 A9 (pickT n m dom at_).2) (Cw n (pickT n m dom at_).1 (if (takeM m dom at_).2.2 then true else d)):=Ab Γ hm 100 F52 Tryz.ntmps52 rfl fun F hF=>by
 have hres:=pickT.eq_1 n m dom at_
 generalize pickT n m dom at_=res at *
 have q1:=Aeg n m d dom at_ (Cz hm0 dom)
 have hok:=Tv hm0 dom at_
 have hpl:(takeM m dom at_).2.2=true→0≤dom∧dom.toNat<m.queues.length:=fun h=>by
  unfold takeM at h
  split at h
  ·cases h
  ·rename_i h2
   exact placeB_iff.1 (by cases hx:Al dom m.queues.length;exact absurd hx h2;rfl)
 have htl:(takeM m dom at_).1.tables=m.tables:=by unfold takeM;split<;>rfl
 generalize takeM m dom at_=r at *
 obtain ⟨m1,q,ok⟩:=r
 have htq:m.queues.length=m.tables.length:=by rw[hm0.ques,hm0.tabs]
 conv=>whnf
 refine Ai (Ak [] E F53 q1 E ⟨E,E,E,E,Y⟩ E ⟨.inl E,.inl E,.inl E,.inl E,Y⟩) E E ?_
 refine rg ?_;conv=>whnf
 cases ok
 ·rw[if_pos rfl]at hres
  subst hres
  (refine⟨fun _=>?_,fun h=>False.elim (by simp at h)⟩;refine rg ?_;conv=>whnf)
  refine An 6 3 A9 E ?_
  exact done E (.cons .tmp .nil) [] (Cw n m1 d) (fun _ h=>h) E E ⟨Y,⟨.inl E,E,.inl E,E,.inl E,E,.inl E,E,Y⟩,E,E⟩
 rw[if_neg za]at hres
 have hd:=hpl rfl
 have hd2:0≤dom∧dom.toNat<m1.tables.length:=by rw[htl,← htq];exact hd
 dsimp only at hres hok
 have q2:=Ak8 n hn m1.up d
 have q3:=Ago n hn hm1 (H5 n m1.up) (tableL m1 dom) dom q m1.now (Lk hok.1 dom) hok.2
 have hb1:=Qc (n:=n) (fw:=H5 n m1.up) (dom:=dom) (now:=m1.now) (Lk hok.1 dom) hok.2
 have hb2:=Qd (fw:=H5 n m1.up) (t:=tableL m1 dom) (dom:=dom) (now:=m1.now) hn hm1 hok.2
 have hb3:=K7 hn (H5 n m1.up) (tableL m1 dom) dom q m1.now
 have hb4:=Wz n (H5 n m1.up) (tableL m1 dom) dom q m1.now
 rw[Or]at hres
 have hz:=Yr hok.1 hD0 dom hb1
 generalize bridgeT n (H5 n m1.up) (tableL m1 dom) dom q m1.now=b at *
 obtain ⟨t,out,e⟩:=b
 have hb2:∀ o∈out,OutOK n o:=hb2
 have hb3:out.length<4294967296:=hb3
 have hb4:By e:=hb4
 have ht0:=tableL.eq_1 m1 dom
 rw[Jx hd2.2]at ht0
 generalize tableL m1 dom=t0 at *
 subst ht0
 (refine⟨fun h=>False.elim (by simp at h),fun _=>?_⟩;refine rg ?_;conv=>whnf)
 refine Bn (Ak [] E F103 q2 E ⟨E,Y⟩ E ⟨.inl E,Y⟩) qy E ?_
 refine rd qy ?_;conv=>whnf
 refine⟨hd2.1,hd2.2,?_⟩
 conv=>whnf
 refine⟨E,hd2.2,?_⟩
 conv=>whnf
 refine Au q3 F102 E E E qy E ?_
 refine rd qy ?_;conv=>whnf
 refine⟨qy,?_⟩
 conv=>whnf
 refine⟨fun h=>?_,fun h=>?_⟩
 ·have h2:¬ e=2:=by simpa using h
  clear h
  refine rg ?_;conv=>whnf
  refine⟨hd2.1,hd2.2,?_⟩
  conv=>whnf
  refine⟨E,hd2.2,t,E,E,?_⟩
  conv=>whnf
  refine⟨fun h=>?_,fun h=>?_⟩
  ·have h3:¬ e=0:=by simpa using h
   clear h
   have hpd:Ib m1 dom (t,out,e)=Bf (Bv m1 dom t) e:=by
    unfold Ib
    rw[if_neg h2,if_pos h3]
   rw[hpd]at hres hz
   subst hres
   have q4:=Agg n (Bv m1 dom t) true e hb4.1 hb4.2 ⟨(hok.1.drp _).1,by have:=(hok.1.drp e.toNat).2;show m1.drops e.toNat≤1000000000000;omega⟩
   refine rg ?_;conv=>whnf
   refine Ai (Ak [] E F104 q4 E ⟨E,E,E,E,Y⟩ E ⟨.inl E,.inl E,.inl E,.inl E,Y⟩) E E ?_
   refine rg ?_;conv=>whnf
   have hdr:Hn (Bf (Bv m1 dom t) e):=fun i=>⟨(hz.drp i).1,by have:=(hz.drp i).2;omega⟩
   refine Bm 12 1000 3 A9 E E ?_
   refine At out.length (fun j=>[(0,.ptr 0 0),(7,.ptr 7 0),(12,.osl 1000),(69,.sl 9 Bi out),(70,Aa out.length),(71,Aa j)]) (fun j=>Aok n (Ba n (Bf (Bv m1 dom t) e) q.origin (out.take j)).1 q (Ba n (Bf (Bv m1 dom t) e) q.origin (out.take j)).2) [] ⟨⟨E,E,E,E,E,E,E,E,E,E,E,E,Y⟩,⟨.inl E,E,.inl E,E,.inl E,E,.inl E,E,.inl E,E,.inl E,E,Y⟩,E,E⟩ ?_
   intro j hj
   refine rg ?_;conv=>whnf
   refine⟨fun h=>?_,fun h=>?_⟩
   ·have hlt:j<out.length:=by have:=of_decide_eq_true h;omega
    have hj0:((j:Nat):Int).toNat<out.length:=by simpa using hlt
    obtain ⟨o,hoo⟩:∃ o,out[j]=o:=⟨_,rfl⟩
    have e1:out[((j:Nat):Int).toNat]'hj0=o:=hoo
    have hs:=Iu n (Bf (Bv m1 dom t) e) q.origin out j hlt
    rw[hoo]at hs
    have hjo:=Jf hn q.origin (out.take j) hz qn (fun x hx=>hb2 x (List.mem_of_mem_take hx))
    have hlen:(out.take j).length=j:=by rw[List.length_take];omega
    rw[hlen]at hjo
    have hsl:=Hz n q.origin (out.take j) (Bf (Bv m1 dom t) e)
    rw[hlen]at hsl
    have q5:=X1 n hn (Ba n (Bf (Bv m1 dom t) e) q.origin (out.take j)).1 true J _ hjo qn o (hb2 o (by rw[← hoo];exact List.getElem_mem hlt)) q.origin
    have hfw:=It n (Ba n (Bf (Bv m1 dom t) e) q.origin (out.take j)).1 o q.origin
    clear h
    refine rg ?_;conv=>whnf
    refine⟨E,by omega,hj0,?_⟩
    rw[e1]
    conv=>whnf
    refine Ai (Ak [] E F105 q5 E ⟨E,E,E,E,Y⟩ E ⟨.inl E,.inl E,.inl E,.inl E,Y⟩) E E ?_
    refine rg ?_;conv=>whnf
    refine Ai (Ae Γ.toTy 81 E E E E E (.row E) .sl za qn qn) E E ?_
    refine rg ?_;conv=>whnf
    refine⟨by unfold I64;omega,?_⟩
    conv=>whnf
    have g1:(Ba n (Bf (Bv m1 dom t) e) q.origin (out.take (j+1))).1=(goesM n (Ba n (Bf (Bv m1 dom t) e) q.origin (out.take j)).1 o q.origin).1:=by rw[hs]
    have g2:(Ba n (Bf (Bv m1 dom t) e) q.origin (out.take (j+1))).2=(Ba n (Bf (Bv m1 dom t) e) q.origin (out.take j)).2++(goesM n (Ba n (Bf (Bv m1 dom t) e) q.origin (out.take j)).1 o q.origin).2:=by rw[hs]
    refine Aq [(1000,81)] hlt ⟨⟨E,E,E,E,E,E,E,E,E,E,E,E,Y⟩,?_,E,E⟩
    dsimp only
    rw[g1,g2]
    exact⟨.inl E,E,.inl E,E,.inl E,E,.inl E,E,.inl E,E,.inl E,E,Y⟩
   ·have hjj:j=out.length:=by have:=of_decide_eq_false h;omega
    subst hjj
    rw[List.take_length]
    clear h
    refine rg ?_;conv=>whnf
    refine As 1000 E ?_
    exact done E (.cons .tmp .nil) [] (Cw n (Ba n (Bf (Bv m1 dom t) e) q.origin out).1 true) (fun _ h=>h) E E ⟨Y,⟨.inl E,E,.inl E,E,.inl E,E,.inl E,E,Y⟩,E,E⟩
  ·have h3:e=0:=by simpa using h
   clear h
   have hpd:Ib m1 dom (t,out,e)=Bv m1 dom t:=by
    unfold Ib
    rw[if_neg h2,if_neg (fun h=>h h3)]
   rw[hpd]at hres hz
   subst hres
   refine rg ?_;conv=>whnf
   have hdr:Hn (Bv m1 dom t):=fun i=>⟨(hz.drp i).1,by have:=(hz.drp i).2;omega⟩
   refine Bm 12 1000 3 A9 E E ?_
   refine At out.length (fun j=>[(0,.ptr 0 0),(7,.ptr 7 0),(12,.osl 1000),(69,.sl 9 Bi out),(70,Aa out.length),(71,Aa j)]) (fun j=>Aok n (Ba n (Bv m1 dom t) q.origin (out.take j)).1 q (Ba n (Bv m1 dom t) q.origin (out.take j)).2) [] ⟨⟨E,E,E,E,E,E,E,E,E,E,E,E,Y⟩,⟨.inl E,E,.inl E,E,.inl E,E,.inl E,E,.inl E,E,.inl E,E,Y⟩,E,E⟩ ?_
   intro j hj
   refine rg ?_;conv=>whnf
   refine⟨fun h=>?_,fun h=>?_⟩
   ·have hlt:j<out.length:=by have:=of_decide_eq_true h;omega
    have hj0:((j:Nat):Int).toNat<out.length:=by simpa using hlt
    obtain ⟨o,hoo⟩:∃ o,out[j]=o:=⟨_,rfl⟩
    have e1:out[((j:Nat):Int).toNat]'hj0=o:=hoo
    have hs:=Iu n (Bv m1 dom t) q.origin out j hlt
    rw[hoo]at hs
    have hjo:=Jf hn q.origin (out.take j) hz qn (fun x hx=>hb2 x (List.mem_of_mem_take hx))
    have hlen:(out.take j).length=j:=by rw[List.length_take];omega
    rw[hlen]at hjo
    have hsl:=Hz n q.origin (out.take j) (Bv m1 dom t)
    rw[hlen]at hsl
    have q5:=X1 n hn (Ba n (Bv m1 dom t) q.origin (out.take j)).1 true J _ hjo qn o (hb2 o (by rw[← hoo];exact List.getElem_mem hlt)) q.origin
    have hfw:=It n (Ba n (Bv m1 dom t) q.origin (out.take j)).1 o q.origin
    clear h
    refine rg ?_;conv=>whnf
    refine⟨E,by omega,hj0,?_⟩
    rw[e1]
    conv=>whnf
    refine Ai (Ak [] E F105 q5 E ⟨E,E,E,E,Y⟩ E ⟨.inl E,.inl E,.inl E,.inl E,Y⟩) E E ?_
    refine rg ?_;conv=>whnf
    refine Ai (Ae Γ.toTy 81 E E E E E (.row E) .sl za qn qn) E E ?_
    refine rg ?_;conv=>whnf
    refine⟨by unfold I64;omega,?_⟩
    conv=>whnf
    have g1:(Ba n (Bv m1 dom t) q.origin (out.take (j+1))).1=(goesM n (Ba n (Bv m1 dom t) q.origin (out.take j)).1 o q.origin).1:=by rw[hs]
    have g2:(Ba n (Bv m1 dom t) q.origin (out.take (j+1))).2=(Ba n (Bv m1 dom t) q.origin (out.take j)).2++(goesM n (Ba n (Bv m1 dom t) q.origin (out.take j)).1 o q.origin).2:=by rw[hs]
    refine Aq [(1000,81)] hlt ⟨⟨E,E,E,E,E,E,E,E,E,E,E,E,Y⟩,?_,E,E⟩
    dsimp only
    rw[g1,g2]
    exact⟨.inl E,E,.inl E,E,.inl E,E,.inl E,E,.inl E,E,.inl E,E,Y⟩
   ·have hjj:j=out.length:=by have:=of_decide_eq_false h;omega
    subst hjj
    rw[List.take_length]
    clear h
    refine rg ?_;conv=>whnf
    refine As 1000 E ?_
    exact done E (.cons .tmp .nil) [] (Cw n (Ba n (Bv m1 dom t) q.origin out).1 true) (fun _ h=>h) E E ⟨Y,⟨.inl E,E,.inl E,E,.inl E,E,.inl E,E,Y⟩,E,E⟩
 ·have h2:e=2:=by simpa using h
  clear h
  subst h2
  have hpd:Ib m1 dom (t,out,2)=Bf m1 2:=by
   unfold Ib
   rw[if_pos rfl]
  rw[hpd]at hres hz
  subst hres
  have q4:=Agg n m1 true 2 qz qz ⟨(hok.1.drp _).1,by have:=(hok.1.drp (Int.toNat 2)).2;omega⟩
  (refine rg ?_;(conv=>whnf);refine aT ?_;refine rg ?_;conv=>whnf)
  refine Ai (Ak [] E F104 q4 E ⟨E,E,E,E,Y⟩ E ⟨.inl E,.inl E,.inl E,.inl E,Y⟩) E E ?_
  refine rg ?_;conv=>whnf
  have hdr:Hn (Bf m1 2):=fun i=>⟨(hz.drp i).1,by have:=(hz.drp i).2;omega⟩
  refine Bm 12 1000 3 A9 E E ?_
  refine At out.length (fun j=>[(0,.ptr 0 0),(7,.ptr 7 0),(12,.osl 1000),(69,.sl 9 Bi out),(70,Aa out.length),(71,Aa j)]) (fun j=>Aok n (Ba n (Bf m1 2) q.origin (out.take j)).1 q (Ba n (Bf m1 2) q.origin (out.take j)).2) [] ⟨⟨E,E,E,E,E,E,E,E,E,E,E,E,Y⟩,⟨.inl E,E,.inl E,E,.inl E,E,.inl E,E,.inl E,E,.inl E,E,Y⟩,E,E⟩ ?_
  intro j hj
  refine rg ?_;conv=>whnf
  refine⟨fun h=>?_,fun h=>?_⟩
  ·have hlt:j<out.length:=by have:=of_decide_eq_true h;omega
   have hj0:((j:Nat):Int).toNat<out.length:=by simpa using hlt
   obtain ⟨o,hoo⟩:∃ o,out[j]=o:=⟨_,rfl⟩
   have e1:out[((j:Nat):Int).toNat]'hj0=o:=hoo
   have hs:=Iu n (Bf m1 2) q.origin out j hlt
   rw[hoo]at hs
   have hjo:=Jf hn q.origin (out.take j) hz qn (fun x hx=>hb2 x (List.mem_of_mem_take hx))
   have hlen:(out.take j).length=j:=by rw[List.length_take];omega
   rw[hlen]at hjo
   have hsl:=Hz n q.origin (out.take j) (Bf m1 2)
   rw[hlen]at hsl
   have q5:=X1 n hn (Ba n (Bf m1 2) q.origin (out.take j)).1 true J _ hjo qn o (hb2 o (by rw[← hoo];exact List.getElem_mem hlt)) q.origin
   have hfw:=It n (Ba n (Bf m1 2) q.origin (out.take j)).1 o q.origin
   clear h
   refine rg ?_;conv=>whnf
   refine⟨E,by omega,hj0,?_⟩
   rw[e1]
   conv=>whnf
   refine Ai (Ak [] E F105 q5 E ⟨E,E,E,E,Y⟩ E ⟨.inl E,.inl E,.inl E,.inl E,Y⟩) E E ?_
   refine rg ?_;conv=>whnf
   refine Ai (Ae Γ.toTy 81 E E E E E (.row E) .sl za qn qn) E E ?_
   refine rg ?_;conv=>whnf
   refine⟨by unfold I64;omega,?_⟩
   conv=>whnf
   have g1:(Ba n (Bf m1 2) q.origin (out.take (j+1))).1=(goesM n (Ba n (Bf m1 2) q.origin (out.take j)).1 o q.origin).1:=by rw[hs]
   have g2:(Ba n (Bf m1 2) q.origin (out.take (j+1))).2=(Ba n (Bf m1 2) q.origin (out.take j)).2++(goesM n (Ba n (Bf m1 2) q.origin (out.take j)).1 o q.origin).2:=by rw[hs]
   refine Aq [(1000,81)] hlt ⟨⟨E,E,E,E,E,E,E,E,E,E,E,E,Y⟩,?_,E,E⟩
   dsimp only
   rw[g1,g2]
   exact⟨.inl E,E,.inl E,E,.inl E,E,.inl E,E,.inl E,E,.inl E,E,Y⟩
  ·have hjj:j=out.length:=by have:=of_decide_eq_false h;omega
   subst hjj
   rw[List.take_length]
   clear h
   refine rg ?_;conv=>whnf
   refine As 1000 E ?_
   exact done E (.cons .tmp .nil) [] (Cw n (Ba n (Bf m1 2) q.origin out).1 true) (fun _ h=>h) E E ⟨Y,⟨.inl E,E,.inl E,E,.inl E,E,.inl E,E,Y⟩,E,E⟩
theorem Vj (l:List (List EntryM)) (now:Int) (j:Nat) (hj:j<l.length) :
  ((l.take j).map (fun t=>ageT t now)++l.drop j).set j (ageT l[j] now)=(l.take (j+1)).map (fun t=>ageT t now)++l.drop (j+1):=by
 apply List.ext_getElem
 ·simp only[List.length_set,List.length_append,List.length_map,List.length_take,List.length_drop];omega
 intro i h1 h2
 simp only[List.length_set,List.length_append,List.length_map,List.length_take,List.length_drop]at h1
 rw[List.getElem_set]
 by_cases hi:j=i
 ·subst hi
  rw[if_pos rfl,List.getElem_append_left (by simp;omega)]
  simp
 ·rw[if_neg hi]
  by_cases hlt:i<j
  ·rw[List.getElem_append_left (by simp;omega),List.getElem_append_left (by simp;omega)]
   simp
  ·rw[List.getElem_append_right (by simp;omega),List.getElem_append_right (by simp;omega)]
   simp only[List.getElem_drop,List.length_map,List.length_take]
   congr 1
   omega
theorem Abs {P:Program} {o:Oper} {s:SS} {x y:Operand} {at_:Array TypeId} {k k':IntKind} {m n r:Int} (hr:(if n<m then n else m)=r) (h:o.op=.call ⟨.builtin .min,#[x,y],at_⟩)
  (hx:ev s x=.val (.int k m)) (hy:ev s y=.val (.int k' n)):Good P o s ⟨.val (.int k r),[],[]⟩:=by
 have:=Apu (P:=P) h hx hy
 rwa [hr]at this
def Li (l:List (List EntryM)) (now:Int) (j:Nat):List (List EntryM):=(l.take j).map (fun t=>ageT t now)++l.drop j
theorem Zy (l:List (List EntryM)) (now:Int) (j:Nat) (hj:j<l.length) (h2:j<(Li l now j).length):(Li l now j)[j]=l[j]:=by
 have h:(Li l now j)[j]? = l[j]?:=by
  unfold Li
  have hm:min j l.length=j:=by omega
  rw[List.getElem?_append_right (by simp;omega),List.getElem?_drop,List.length_map,List.length_take,hm,Nat.sub_self,Nat.add_zero]
 rw[List.getElem?_eq_getElem hj,List.getElem?_eq_getElem h2]at h
 exact Option.some.inj h
theorem Qh (l:List (List EntryM)) (now:Int) (j:Nat):(Li l now j).length=l.length:=by
 unfold Li
 simp only[List.length_append,List.length_map,List.length_take,List.length_drop]
 omega
def tickO (n:Net) (m:MacM) (d:Bool) (now:Int) (j:Nat):Obs:=[(0,.box (T0 n 1 now m.injected m.drops)),(1,.box (Kx n m.up d)),(2,.row 1 C7 (Li m.tables now j)),(3,.row 1 I8 m.queues)]
theorem Anw (n:Net) (m:MacM) (d:Bool) (J D:Int) (hm0:MacOK n m J D) (hs:Ar n.domains) :
  Sy.Spec Tryz.prog 54 [.ptr 0 0] (Cw n m d) (.tup []) (Cw n (My m) d):=Ab Γ hm 100 F54 Tryz.ntmps54 rfl fun F hF=>by
 unfold Ar at hs
 have hnow:=hm0.now
 have htl:m.tables.length<2147483648:=by rw[hm0.tabs];exact hs
 have hto:=hm0.tab
 obtain ⟨nw,hnw⟩:∃ nw,(if 1099511627776<m.now+1 then 1099511627776 else m.now+1)=nw:=⟨_,rfl⟩
 have hti:My m=⟨m.up,Li m.tables nw m.tables.length,m.queues,nw,m.injected,m.drops⟩:=by
  have:min (m.now+1) 1099511627776=nw:=by rw[← hnw];split<;>omega
  unfold My Li
  rw[this,List.take_length,List.drop_length,List.append_nil]
 rw[hti]
 conv=>whnf
 refine⟨by unfold I64;omega,?_⟩
 conv=>whnf
 refine Ai (Abs hnw E E E) E E ?_
 refine rg ?_;conv=>whnf
 refine At m.tables.length (fun j=>[(0,.ptr 0 0),(16,.osl 2),(17,Aa m.tables.length),(18,Aa j)]) (fun j=>tickO n m d nw j) [] ⟨⟨E,E,E,E,E,E,E,E,Y⟩,⟨.inl E,E,.inl E,E,.inl E,E,.inl E,E,Y⟩,E,E⟩ ?_
 intro j hj
 refine rg ?_;conv=>whnf
 refine⟨fun h=>?_,fun h=>?_⟩
 ·have hlt:j<m.tables.length:=by have:=of_decide_eq_true h;omega
  have hal:=Qh m.tables nw j
  have hj0:((j:Nat):Int).toNat<(Li m.tables nw j).length:=by rw[hal];simpa using hlt
  obtain ⟨t,hoo⟩:∃ t,m.tables[j]=t:=⟨_,rfl⟩
  have e1:(Li m.tables nw j)[((j:Nat):Int).toNat]'hj0=t:=(Zy m.tables nw j hlt (by rw[hal];exact hlt)).trans hoo
  have hs:=Vj m.tables nw j hlt
  rw[hoo]at hs
  have ht:=hto t (by rw[← hoo];exact List.getElem_mem hlt)
  clear h
  refine rg ?_;conv=>whnf
  refine⟨by omega,hj0,?_⟩
  conv=>whnf
  refine⟨E,hj0,?_⟩
  rw[e1]
  conv=>whnf
  refine Au (Aq4 t nw ht.short ht.mac) F107 E E E qy E ?_
  refine rd qy ?_;conv=>whnf
  refine⟨by omega,hj0,?_⟩
  conv=>whnf
  refine⟨E,hj0,ageT t nw,E,E,?_⟩
  conv=>whnf
  refine⟨qy,?_⟩
  conv=>whnf
  refine⟨by unfold I64;omega,?_⟩
  conv=>whnf
  exact Aq [] hlt ⟨⟨E,E,E,E,E,E,E,E,Y⟩,⟨.inl E,E,.inl E,E,.inl (congrArg (Ob.row 1 C7) hs.symm),E,.inl E,E,Y⟩,E,E⟩
 ·have hjj:j=m.tables.length:=by have:=of_decide_eq_false h;omega
  subst hjj
  clear h
  refine rg ?_;conv=>whnf
  exact Bw E .nil [] (Cw n ⟨m.up,Li m.tables nw m.tables.length,m.queues,nw,m.injected,m.drops⟩ d) (fun _ h=>h) E E ⟨Y,⟨.inl E,E,.inl E,E,.inl E,E,.inl E,E,Y⟩,E,E⟩
def Aeh (n:Net) (m:MacM) (d:Bool):Obs:=[(0,.box (T0 n 4 m.now m.injected m.drops)),(1,.non),(2,.row 1 C7 m.tables),(3,.row 1 I8 m.queues),(4,.box (Kx n m.up d))]
def upT (m:MacM) (up:List Bool):MacM:=⟨up,m.tables,m.queues,m.now,m.injected,m.drops⟩
def doD (n:Net) (m:MacM) (d:Bool) (x:StepM):Bool :=
 if x.kind=1 then d else if x.kind=2 then (if (takeM m x.domain x.at_).2.2 then true else d) else if x.kind=3 then d else if x.kind=4 then d else if x.kind=5 then (if x.up.length=n.links.length then false else d) else d
theorem An2 (n:Net) (hn:n.Fin) (hm1:n.Num) (m:MacM) (d:Bool) (J D:Int) (hm0:MacOK n m J D) (hJ:J<900000000000) (hD0:0≤D) (hD:D≤900000000000) (x:StepM) (hb:x.bytes.length<100000) :
  Sy.Spec Tryz.prog 21 [.ptr 0 0,Bu x] (Cw n m d) (.tup [.sl 3 A9 (doT n m x).2,Aa 0]) (Aeh n (doT n m x).1 (doD n m d x)):=Ab Γ hm 100 F21 Tryz.ntmps21 rfl fun F hF=>by
 have hres:=doT.eq_1 n m x
 generalize doT n m x=res at *
 have hdd:=doD.eq_1 n m d x
 generalize doD n m d x=dd at *
 conv=>whnf
 refine Ai (Af2 (d:=900) E E E) E E ?_
 (refine rg ?_;(conv=>whnf);refine aF ?_;refine rg ?_;conv=>whnf)
 refine⟨fun h=>?_,fun h=>?_⟩
 ·have h1:x.kind=1:=by simpa using h
  rw[if_pos h1]at hres hdd
  subst hres
  subst hdd
  have q1:=Ag7 n hn m dd J D hm0 qn qn x.port x.bytes hb
  refine rg ?_;conv=>whnf
  refine Ai (Ak [] E F51 q1 E ⟨E,E,E,E,Y⟩ E ⟨.inl E,.inl E,.inl E,.inl E,Y⟩) E E ?_
  refine rg ?_;conv=>whnf
  refine An 4 3 A9 E ?_
  refine Iz 1 4 E E qz ?_
  exact done E (.cons .tmp (.cons .tmp .nil)) [] (Aeh n (injectT n m x.port x.bytes) dd) (fun _ h=>h) E E ⟨Y,⟨.inl E,E,.inl E,E,.inl E,E,.inl E,E,.inl E,E,Y⟩,E,E⟩
 have h1:¬ x.kind=1:=by simpa using h
 rw[if_neg h1]at hres hdd
 clear h
 refine rg ?_;conv=>whnf
 refine⟨fun h=>?_,fun h=>?_⟩
 ·have h1:x.kind=2:=by simpa using h
  rw[if_pos h1]at hres hdd
  subst hres
  have q1:=Anx n hn hm1 m d J D hm0 hD0 hD x.domain x.at_
  rw[← hdd]at q1
  refine rg ?_;conv=>whnf
  refine Ai (Ak [] E F52 q1 E ⟨E,E,E,E,Y⟩ E ⟨.inl E,.inl E,.inl E,.inl E,Y⟩) E E ?_
  refine rg ?_;conv=>whnf
  refine Iz 1 4 E E qz ?_
  exact done E (.cons .tmp (.cons .tmp .nil)) [] (Aeh n (pickT n m x.domain x.at_).1 dd) (fun _ h=>h) E E ⟨Y,⟨.inl E,E,.inl E,E,.inl E,E,.inl E,E,.inl E,E,Y⟩,E,E⟩
 have h1:¬ x.kind=2:=by simpa using h
 rw[if_neg h1]at hres hdd
 clear h
 refine rg ?_;conv=>whnf
 refine⟨fun h=>?_,fun h=>?_⟩
 ·have h1:x.kind=3:=by simpa using h
  rw[if_pos h1]at hres hdd
  subst hres
  subst hdd
  have q1:=Aeg n m dd x.domain x.at_ (Cz hm0 _)
  refine rg ?_;conv=>whnf
  refine Ai (Ak [] E F53 q1 E ⟨E,E,E,E,Y⟩ E ⟨.inl E,.inl E,.inl E,.inl E,Y⟩) E E ?_
  refine rg ?_;conv=>whnf
  refine An 4 3 A9 E ?_
  refine Iz 1 4 E E qz ?_
  exact done E (.cons .tmp (.cons .tmp .nil)) [] (Aeh n (takeM m x.domain x.at_).1 dd) (fun _ h=>h) E E ⟨Y,⟨.inl E,E,.inl E,E,.inl E,E,.inl E,E,.inl E,E,Y⟩,E,E⟩
 have h1:¬ x.kind=3:=by simpa using h
 rw[if_neg h1]at hres hdd
 clear h
 refine rg ?_;conv=>whnf
 refine⟨fun h=>?_,fun h=>?_⟩
 ·have h1:x.kind=4:=by simpa using h
  rw[if_pos h1]at hres hdd
  subst hres
  subst hdd
  have q1:=Anw n m dd J D hm0 hn.domains
  refine rg ?_;conv=>whnf
  refine Ai (Ak [] E F54 q1 E ⟨E,E,E,E,Y⟩ E ⟨.inl E,.inl E,.inl E,.inl E,Y⟩) E E ?_
  refine rg ?_;conv=>whnf
  refine An 4 3 A9 E ?_
  refine Iz 1 4 E E qz ?_
  exact done E (.cons .tmp (.cons .tmp .nil)) [] (Aeh n (My m) dd) (fun _ h=>h) E E ⟨Y,⟨.inl E,E,.inl E,E,.inl E,E,.inl E,E,.inl E,E,Y⟩,E,E⟩
 have h1:¬ x.kind=4:=by simpa using h
 rw[if_neg h1]at hres hdd
 clear h
 refine rg ?_;conv=>whnf
 refine⟨fun h=>?_,fun h=>?_⟩
 ·have h1:x.kind=5:=by simpa using h
  rw[if_pos h1]at hres hdd
  clear h
  refine rg ?_;conv=>whnf
  refine⟨qy,?_⟩
  conv=>whnf
  refine⟨fun h=>?_,fun h=>?_⟩
  ·have h2:x.up.length=n.links.length:=by have:=of_decide_eq_true h;omega
   rw[if_pos h2]at hres hdd
   subst hres
   subst hdd
   clear h
   have hls:=hn.links
   unfold Ar at hls
   refine rg ?_;conv=>whnf
   refine Ah (Zt x.up qn) F55 E E E E E ?_
   refine rg ?_;conv=>whnf
   refine An 4 3 A9 E ?_
   refine Av 55 (Kx n x.up false) E (.cons (.refl _) (.cons (.refl _) (.cons (.refl _) (.cons (.refl _) (.cons .nil .nil))))) ?_
   exact done E (.cons .tmp (.cons .tmp .nil)) [(4,55)] (Aeh n (upT m x.up) false) (fun _ h=>h) E E ⟨Y,⟨.inl E,E,.inr E,E,.inl E,E,.inl E,E,.inl E,E,Y⟩,E,E⟩
  ·have h2:¬ x.up.length=n.links.length:=by have:=of_decide_eq_false h;omega
   rw[if_neg h2]at hres hdd
   subst hres
   subst hdd
   clear h
   refine rg ?_;conv=>whnf
   refine An 4 3 A9 E ?_
   refine Iz 1 4 E E qz ?_
   exact done E (.cons .tmp (.cons .tmp .nil)) [] (Aeh n m dd) (fun _ h=>h) E E ⟨Y,⟨.inl E,E,.inl E,E,.inl E,E,.inl E,E,.inl E,E,Y⟩,E,E⟩
 have h1:¬ x.kind=5:=by simpa using h
 rw[if_neg h1]at hres hdd
 subst hres
 subst hdd
 clear h
 refine rg ?_;conv=>whnf
 refine An 4 3 A9 E ?_
 refine Iz 1 4 E E qz ?_
 exact done E (.cons .tmp (.cons .tmp .nil)) [] (Aeh n m dd) (fun _ h=>h) E E ⟨Y,⟨.inl E,E,.inl E,E,.inl E,E,.inl E,E,.inl E,E,Y⟩,E,E⟩
theorem Ag6 (n:Net) (hn:n.Fin) (hb:okB n (List.replicate n.links.length true)=false) :
  Sy.Spec Tryz.prog 18 [Ap n] [] (.tup [.val (.pointer none),Aa 2]) []:=Ab Γ hm 100 F18 Tryz.ntmps18 rfl fun F hF=>by
 have hls:=hn.links
 unfold Ar at hls
 have q1:=Ajz n.links.length qn
 have q2:=Zh n (List.replicate n.links.length true) hn hb
 generalize List.replicate n.links.length true=up at *
 conv=>whnf
 refine Dm 7 Ad [true] E E ?_
 refine As 7 E ?_
 refine rg ?_;conv=>whnf
 refine Ah q1 F43 E E E E E ?_
 refine rg ?_;conv=>whnf
 refine Ah q2 F44 E E E E E ?_
 (refine rg ?_;(conv=>whnf);refine aT ?_;refine rg ?_;conv=>whnf)
 exact Ac E (.cons .tmp (.cons .tmp .nil)) E E
theorem Aq7 (n:Net) (hn:n.Fin) (hb:okB n (List.replicate n.links.length true)=true) :
  Sy.Spec Tryz.prog 18 [Ap n] [] (.tup [.ptr 0 0,Aa 0]) (Cw n (newT n) false):=Ab Γ hm 100 F18 Tryz.ntmps18 rfl fun F hF=>by
 have hls:=hn.links
 have hds:=hn.domains
 unfold Ar at hls hds
 have q1:=Ajz n.links.length qn
 have q2:=Abt n (List.replicate n.links.length true) hn hb
 have hnt:=newT.eq_1 n
 generalize newT n=m at *
 generalize List.replicate n.links.length true=up at *
 conv=>whnf
 refine Dm 7 Ad [true] E E ?_
 refine As 7 E ?_
 refine rg ?_;conv=>whnf
 refine Ah q1 F43 E E E E E ?_
 refine rg ?_;conv=>whnf
 refine Ah q2 F44 E E E E E ?_
 (refine rg ?_;(conv=>whnf);refine aF ?_;refine rg ?_;conv=>whnf)
 refine Au (copyS n hn) F45 E E E qy E ?_
 refine rd qy ?_;conv=>whnf
 refine Bn (B1 Γ.toTy (d:=28) (n:=n.domains.length) (fun _:Unit=>.val (.slice none 0 0)) () E E E E E E E E qn qn E E E) qy E ?_
 refine rd qy ?_;conv=>whnf
 refine Bn (B1 Γ.toTy (d:=32) (n:=n.domains.length) (fun _:Unit=>.val (.slice none 0 0)) () E E E E E E E E qn qn E E E) qy E ?_
 refine rd qy ?_;conv=>whnf
 refine⟨qy,?_⟩
 refine Vg 28 (e':=C7) (l':=List.replicate n.domains.length []) E za (fun M w i h1 h2 v hv=>?_) ?_
 ·rw[List.getElem_replicate]
  simp only[RdD]at hv
  exact Mv hv
 refine Vg 32 (e':=I8) (l':=List.replicate n.domains.length []) E za (fun M w i h1 h2 v hv=>?_) ?_
 ·rw[List.getElem_replicate]
  simp only[RdD]at hv
  exact Mv hv
 refine Av 24 (Kx n up false) E (.cons (.refl _) (.cons (.refl _) (.cons (.refl _) (.cons (.refl _) (.cons .nil .nil))))) ?_
 refine rg ?_;conv=>whnf
 subst hnt
 exact done E (.cons .tmp (.cons .tmp .nil)) [(0,34),(1,24),(2,28),(3,32)] (Cw n ⟨up,List.replicate n.domains.length [],List.replicate n.domains.length [],0,0,fun _=>0⟩ false) (fun _ h=>h) E E ⟨Y,⟨.inl E,E,.inl E,E,.inl E,E,.inl E,E,Y⟩,E,E⟩
end Go.Sy.YtmelpejjondedaaGreat
namespace Go.Sy.YtmelpejjondedaaGreat
open Go.Proofs
theorem Wc (n:Net):∀ (a b:List StepM) (m:MacM),B0 n m (a++b)=((B0 n (B0 n m a).1 b).1,(B0 n m a).2++(B0 n (B0 n m a).1 b).2)
 | [],b,m=>by simp[B0]
 | o::a,b,m=>by
  rw[List.cons_append,B0,B0,Wc n a b]
  simp
theorem Qn (n:Net) (m:MacM) (l:List StepM) (j:Nat) (hj:j<l.length) :
  B0 n m (l.take (j+1))=((doT n (B0 n m (l.take j)).1 l[j]).1,(B0 n m (l.take j)).2++(doT n (B0 n m (l.take j)).1 l[j]).2):=by
 rw[List.take_succ_eq_append_getElem hj,Wc]
 simp[B0]
def runF (n:Net) (s:MacM × Bool) (l:List StepM):MacM × Bool:=l.foldl (fun s x=>((doT n s.1 x).1,doD n s.1 s.2 x)) s
theorem Ael (n:Net):∀ (l:List StepM) (s:MacM × Bool),(runF n s l).1=(B0 n s.1 l).1
 | [],s=>rfl
 | x::l,s=>by
  have:=Ael n l ((doT n s.1 x).1,doD n s.1 s.2 x)
  rw[B0]
  exact this
def runD (n:Net) (m:MacM) (d:Bool) (l:List StepM):Bool:=(runF n (m,d) l).2
theorem Aay (n:Net) (m:MacM) (d:Bool) (l:List StepM) (j:Nat) (hj:j<l.length) :
  runD n m d (l.take (j+1))=doD n (B0 n m (l.take j)).1 (runD n m d (l.take j)) l[j]:=by
 unfold runD
 rw[List.take_succ_eq_append_getElem hj]
 have:=Ael n (l.take j) (m,d)
 unfold runF at this ⊢
 rw[List.foldl_append]
 show doD n (List.foldl _ (m,d) (l.take j)).1 _ l[j]=_
 rw[this]
theorem doT_ok {n:Net} (hn:n.Fin) (hm1:n.Num) {m:MacM} {J D:Int} (h:MacOK n m J D) (hJ:0≤J) (hD:0≤D) (x:StepM):MacOK n (doT n m x).1 (J+1) (D+4294967298):=by
 unfold doT
 split
 ·exact(Aiy hn h hJ hD _ _).mono qn qn
 split
 ·have hok:=Tv h x.domain x.at_
  unfold pickT
  split
  ·exact hok.1.mono qn qn
  ·have hb:=K7 hn (H5 n (takeM m x.domain x.at_).1.up) (tableL (takeM m x.domain x.at_).1 x.domain) x.domain (takeM m x.domain x.at_).2.1 (takeM m x.domain x.at_).1.now
   have h1:=Yr hok.1 hD x.domain (Qc (n:=n) (fw:=H5 n (takeM m x.domain x.at_).1.up) (dom:=x.domain) (now:=(takeM m x.domain x.at_).1.now) (Lk hok.1 x.domain) hok.2)
   have h2:=Jf hn (takeM m x.domain x.at_).2.1.origin (Or n (takeM m x.domain x.at_).1 x.domain (takeM m x.domain x.at_).2.1).2.1 h1 qn (Qd hn hm1 hok.2)
   refine h2.mono qn ?_
   unfold Or
   omega
 split
 ·exact(Tv h x.domain x.at_).1.mono qn qn
 split
 ·have h1:=h.now
  refine⟨h.up,by unfold My;simp only[List.length_map];exact h.tabs,h.ques,fun t ht=>?_,h.que,?_,?_,fun i=>?_⟩
  ·unfold My at ht
   obtain ⟨t0,ht0,rfl⟩:=List.mem_map.1 ht
   exact Asd (h.tab t0 ht0) _
  ·unfold My
   dsimp only
   omega
  ·have:=h.inj
   unfold My
   dsimp only
   omega
  ·have:=h.drp i
   unfold My
   dsimp only
   omega
 split
 ·split
  ·rename_i h2
   exact MacOK.mono (n:=n) (m:=⟨x.up,m.tables,m.queues,m.now,m.injected,m.drops⟩) ⟨h2,h.tabs,h.ques,h.tab,h.que,h.now,h.inj,h.drp⟩ qn qn
  ·exact h.mono qn qn
 ·exact h.mono qn qn
theorem Adk {n:Net} (hn:n.Fin) (m:MacM) (x:StepM):(doT n m x).2.length<4294967296:=by
 unfold doT
 split
 ·show (0:Nat)<4294967296;decide
 split
 ·unfold pickT
  split
  ·show (0:Nat)<4294967296;decide
  ·have hb:=K7 hn (H5 n (takeM m x.domain x.at_).1.up) (tableL (takeM m x.domain x.at_).1 x.domain) x.domain (takeM m x.domain x.at_).2.1 (takeM m x.domain x.at_).1.now
   have h2:=Hz n (takeM m x.domain x.at_).2.1.origin (Or n (takeM m x.domain x.at_).1 x.domain (takeM m x.domain x.at_).2.1).2.1 (Ib (takeM m x.domain x.at_).1 x.domain (Or n (takeM m x.domain x.at_).1 x.domain (takeM m x.domain x.at_).2.1))
   unfold Or at h2 ⊢
   omega
 split
 ·show (0:Nat)<4294967296;decide
 split
 ·show (0:Nat)<4294967296;decide
 split
 ·show (0:Nat)<4294967296;decide
 ·show (0:Nat)<4294967296;decide
theorem T4 {n:Net} (hn:n.Fin) (hm1:n.Num):∀ (l:List StepM) {m:MacM} {J D:Int},MacOK n m J D→0≤J→0≤D→MacOK n (B0 n m l).1 (J+l.length) (D+l.length * 4294967298)
 | [],m,J,D,h,_,_=>by
  rw[B0]
  exact h.mono za za
 | x::l,m,J,D,h,hJ,hD=>by
  rw[B0]
  have:=T4 hn hm1 l (doT_ok hn hm1 h hJ hD x) qn qn
  exact this.mono (by simp only[List.length_cons];omega) (by simp only[List.length_cons];omega)
theorem T5 {n:Net} (hn:n.Fin):∀ (l:List StepM) (m:MacM),(B0 n m l).2.length≤l.length * 4294967296
 | [],m=>by simp[B0]
 | x::l,m=>by
  rw[B0]
  have h1:=T5 hn l (doT n m x).1
  have h2:=Adk hn m x
  simp only[List.length_append,List.length_cons]
  omega
theorem Qt (n:Net):MacOK n (newT n) 0 0:=by
 refine⟨by simp[newT],by simp[newT],by simp[newT],fun t ht=>?_,fun l hl=>?_,by simp[newT],by simp[newT],fun i=>by simp[newT]⟩
 ·have:t=[]:=(List.mem_replicate.1 ht).2
  rw[this];exact Vs
 ·have:l=[]:=(List.mem_replicate.1 hl).2
  rw[this];exact Wn
def M7 (n:Net):List Bool:=List.replicate n.links.length true
structure ScriptOK (l:List StepM):Prop where
 few:l.length≤60
 bytes:∀ x∈l,x.bytes.length≤2000
attribute [local irreducible] Go.Sy.G Go.Sy.DR
set_option maxRecDepth 100000
set_option maxHeartbeats 4000000
def runO (n:Net) (m:MacM) (d:Bool) (l:List SeenM):Obs:=[(0,.box (T0 n 1 m.now m.injected m.drops)),(1,.box (Kx n m.up d)),(2,.row 1 C7 m.tables),(3,.row 1 I8 m.queues),(1000,.row 3 A9 l)]
end Go.Sy.YtmelpejjondedaaGreat
namespace Go.Sy.YtmelpejjondedaaGreat
open Go.Proofs
attribute [local irreducible] Go.Sy.G Go.Sy.DR
set_option maxRecDepth 100000
set_option maxHeartbeats 4000000
theorem Agm (b:ByteArray):(b == b)=true:=by
 show (b.data == b.data)=true
 simp
theorem Ya (l:List SeenM) (hl:l.length<1000000000000):Sy.Spec Tryz.prog 16 [.sl 3 A9 l,.sl 3 A9 l] [] (Ad true) []:=Ab Γ hm 100 F16 Tryz.ntmps16 rfl fun F hF=>by
 conv=>whnf
 (refine⟨fun h=>False.elim (by simp at h),fun _=>?_⟩;refine rg ?_;conv=>whnf)
 refine At l.length (fun j=>[(0,.sl 3 A9 l),(1,.sl 3 A9 l),(5,Aa j)]) (fun _=>[]) [] ⟨⟨E,E,E,E,E,E,Y⟩,Y,E,E⟩ ?_
 intro j hj
 refine rg ?_;conv=>whnf
 refine⟨fun h=>?_,fun h=>?_⟩
 ·have hlt:j<l.length:=by have:=of_decide_eq_true h;omega
  have hj0:((j:Nat):Int).toNat<l.length:=by simpa using hlt
  clear h
  refine rg ?_;conv=>whnf
  refine⟨E,by omega,hj0,?_⟩
  conv=>whnf
  refine⟨E,by omega,hj0,?_⟩
  conv=>whnf
  (refine⟨fun h=>False.elim (by simp at h),fun _=>?_⟩;refine rd qy ?_;conv=>whnf)
  refine⟨E,by omega,hj0,?_⟩
  conv=>whnf
  refine⟨E,by omega,hj0,?_⟩
  conv=>whnf
  (refine⟨fun h=>False.elim (by simp at h),fun _=>?_⟩;refine rd qy ?_;conv=>whnf)
  refine⟨E,by omega,hj0,?_⟩
  conv=>whnf
  refine Bn (E3 Γ.toTy (bs:=l[((j:Nat):Int).toNat].bytes) E E E E E E E .sl) qy E ?_
  refine rd qy ?_;conv=>whnf
  refine⟨E,by omega,hj0,?_⟩
  conv=>whnf
  refine Bn (E3 Γ.toTy (bs:=l[((j:Nat):Int).toNat].bytes) E E E E E E E .sl) qy E ?_
  refine rd qy ?_;conv=>whnf
  refine⟨qy,?_⟩
  conv=>whnf
  refine⟨fun h=>False.elim (by simp[Agm]at h),fun _=>?_⟩
  refine rg ?_;conv=>whnf
  refine⟨by unfold I64;omega,?_⟩
  conv=>whnf
  exact Aq [] hlt ⟨⟨E,E,E,E,E,E,Y⟩,Y,E,E⟩
 ·refine rg ?_;conv=>whnf
  exact Ac E (.cons .tmp .nil) E E
end Go.Sy.YtmelpejjondedaaGreat
