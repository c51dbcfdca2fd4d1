/-
  NB13 NB16 BN1 EP2 MB1 NB14 NB15 NB17 NB18 NB19 I50 NB20 NB21 E35 EP3 MB2: parts of a proof, joined by program.
-/
import Derived.Test.YtjenpnjajjplkaaGreatDoorXP7
import Derived.Test.YtjenpnjajjplkaaGreatDoorXP4
import Derived.Test.YtjenpnjajjplkaaGreatDoorXP6
import Derived.Test.YtjenpnjajjplkaaGreatDoorXP3
import Derived.Test.YtjenpnjajjplkaaGreatDoorXP5
import Derived.Tactics
import Derived.Tactics2
import Derived.Defers
import Derived.Laws.Pointers
import Derived.Laws.LoneSync
import Derived.RegionTactic
import Derived.RegionCalls
import Derived.ChangeAlike
import Derived.Laws.NewBlocks
set_option linter.all false
set_option linter.unusedVariables false
set_option linter.unusedSimpArgs false
set_option linter.deprecated false
namespace Go.Sy.YtjenpnjajjplkaaGreatDoor
open Go.Proofs
attribute [local irreducible] Go.Sy.G Go.Sy.DR
set_option maxRecDepth 100000
set_option maxHeartbeats 4000000
theorem L7 {α:Type} {p:α→Bool}:∀ {l:List α} {j:Nat} (hj:j<l.length),(∀ k (hk:k<l.length),k<j→p l[k]=false)→p l[j]=true→l.find? p=some l[j]
 | x::l,0,_,_,h2=>by
  rw[List.getElem_cons_zero]at h2 ⊢
  rw[List.find?_cons,h2]
 | x::l,j+1,hj,h1,h2=>by
  rw[List.getElem_cons_succ]at h2 ⊢
  have h0:=h1 0 y_ q_
  rw[List.getElem_cons_zero]at h0
  rw[List.find?_cons,h0]
  exact L7 (by simpa using hj) (fun k hk hkj=>by
   have:=h1 (k+1) (by simp;omega) q_
   rwa [List.getElem_cons_succ]at this) h2
def Jy (n:Net) (j:Nat):List Domain:=(n.domains.take j).map (fun d=>{ d with peers:=peersT n d })++n.domains.drop j
theorem Aef (n:Net):Jy n 0=n.domains:=by simp[Jy]
theorem Agj (n:Net):Jy n n.domains.length=(A5 n).domains:=by simp[Jy,A5]
theorem Agi (n:Net) {j:Nat} (hj:j≤n.domains.length):(Jy n j).length=n.domains.length:=by simp[Jy];omega
theorem Aeg (n:Net) {j:Nat} (hj:j<n.domains.length) (h:((j:Nat):Int).toNat<(Jy n j).length) :
  (Jy n j)[((j:Nat):Int).toNat]'h=n.domains[j]∧(Jy n j).set ((j:Nat):Int).toNat { n.domains[j] with peers:=peersT n n.domains[j] }=Jy n (j+1):=by
 have hl:((n.domains.take j).map (fun d=>{ d with peers:=peersT n d })).length=j:=by simp;omega
 have e:Jy n j=(n.domains.take j).map (fun d=>{ d with peers:=peersT n d })++n.domains[j]::n.domains.drop (j+1):=by
  rw[Jy,List.drop_eq_getElem_cons hj]
 have e2:Jy n (j+1)=(n.domains.take j).map (fun d=>{ d with peers:=peersT n d })++{ n.domains[j] with peers:=peersT n n.domains[j] }::n.domains.drop (j+1):=by
  rw[Jy,List.take_succ_eq_append_getElem hj,List.map_append,List.map_cons,List.map_nil,List.append_assoc];rfl
 constructor
 ·simp only[Int.toNat_natCast,e]
  rw[List.getElem_append_right q_]
  simp only[hl,Nat.sub_self,List.getElem_cons_zero]
 ·rw[Int.toNat_natCast,e,e2,List.set_append_right _ _ q_,hl,Nat.sub_self]
  rfl
theorem Ahg (n:Net) (h:Ac n=true):(∀ f∈n.floods,f.addrs.length≤16):=fun f hf=>by
 obtain ⟨j,hj,rfl⟩:=List.getElem_of_mem hf
 have:=Ac7 h hj
 simp only[H1,Bool.and_eq_true,decide_eq_true_eq]at this
 exact this.2
theorem Ad7 {n:Net} (h:Ac n=true) (d:Domain):(peersT n d).length≤16:=by
 unfold peersT
 split
 ·rename_i hc
  rw[List.length_map]
  have hl:=M6 (fun f:Flood=>f.dev == d.dev && f.vni == d.vni) n.floods
  have h0:(Dl n d.dev d.vni).toNat<n.floods.length:=by
   have e:Dl n d.dev d.vni=Bc (fun f:Flood=>f.dev == d.dev && f.vni == d.vni) n.floods:=rfl
   have:=hc.2
   omega
  rw[Am h0]
  exact Ahg n h _ (List.getElem_mem h0)
 ·simp
theorem Tb {n:Net} (hn:n.Fin) (h:Ac n=true):(A5 n).Fin:=by
 have hl:(A5 n).domains.length=n.domains.length:=by simp[A5]
 refine { hn with domains:=?_,peers:=?_ }
 ·show (A5 n).domains.length<_
  rw[hl];exact hn.domains
 ·intro p hp
  have hp:p∈n.domains.map fun d=>{ d with peers:=peersT n d }:=hp
  obtain ⟨d,_,rfl⟩:=List.mem_map.1 hp
  show (peersT n d).length<_
  have:=Ad7 h d
  omega
theorem meshS (n:Net) (hn:n.Fin):Sy.Spec Tryz.prog 23 [Aj n] [] (.tup [Aj (meshNT n).1,Aa (meshNT n).2.1,Aa (meshNT n).2.2]) []:=cT F23 Tryz.ntmps23 fun F hF=>by
 have qn:=Bd n hn
 have qcopy:=Jm n hn
 have hres:=meshNT.eq_1 n
 generalize meshNT n=res at *
 cases hr:Ac n with
 | false =>
  rw[hr]at qn
  rw[hr,if_pos rfl]at hres
  subst hres
  refine T ?_
  refine C qn F25 ?_
  refine Ag 2 (B5 emptyN) E (.cons .nil (.cons .nil (.cons .nil (.cons .nil (.cons .nil (.cons .nil (.cons .nil (.cons .nil .nil)))))))) ?_
  refine T ?_
  exact D
 | true =>
 rw[hr]at qn
 rw[hr,if_neg y_]at hres
 have hff:n.floods.length<2147483648:=hn.floods
 have hdd:n.domains.length<2147483648:=hn.domains
 refine T ?_
 refine C qn F25 ?_
 refine A6 1 8 (Aj n) E E E ?_
 refine B0 (fun j:Nat=>j≤n.floods.length∧∀ k (hk:k<n.floods.length),k<j→agreesB n n.floods[k]=true) (fun j=>[(1,.ref 8 (Aj n) 0),(2,.ptr 1001 0),(18,.sl 4 A0 n.floods),(19,Aa n.floods.length),(20,Aa j)]) (fun _=>[(1001,.box [.val (.slice none 0 0),.val (.slice none 0 0),.val (.slice none 0 0),.val (.slice none 0 0),.val (.slice none 0 0),.val (.slice none 0 0),.val (.slice none 0 0),.val (.slice none 0 0)])]) (fun j=>n.floods.length-j) 0 [(1001,2)] ⟨by omega,fun k hk h=>by omega⟩ U ?_
 rintro j ⟨hj,hI⟩
 refine T ?_
 refine⟨fun h=>?_,fun h=>?_⟩
 ·have hlt:j<n.floods.length:=qA h
  have hj0:((j:Nat):Int).toNat<n.floods.length:=hlt
  clear h
  have q:=Ai6 n hn hr (n.floods[((j:Nat):Int).toNat]'hj0) (List.getElem_mem hj0)
  cases ha:agreesB n (n.floods[((j:Nat):Int).toNat]'hj0) with
  | false =>
   rw[ha]at q
   rw[L7 (p:=fun f=>!(agreesB n f)) hlt (fun k hk hkj=>by simp only[hI k hk hkj];rfl) (by show (!(agreesB n (n.floods[((j:Nat):Int).toNat]'hj0)))=true;rw[ha];rfl)]at hres
   dsimp only at hres
   subst hres
   refine T ?_
   refine C q F60 ?_
   refine Ag 1001 (B5 emptyN) E (.cons .nil (.cons .nil (.cons .nil (.cons .nil (.cons .nil (.cons .nil (.cons .nil (.cons .nil .nil)))))))) ?_
   refine T ?_
   exact D
  | true =>
   rw[ha]at q
   refine T ?_
   refine C q F60 ?_
   refine A4 (j+1) [] ⟨hlt,fun k hk hkj=>?_⟩ q_ U
   by_cases e:k=j
   ·subst e;exact ha
   ·exact hI k hk q_
 ·have hje:j=n.floods.length:=qB h
  clear h
  have hnone:n.floods.find? (fun f=>!(agreesB n f))=none:=by
   rw[List.find?_eq_none]
   intro x hx
   obtain ⟨k,hk,rfl⟩:=List.getElem_of_mem hx
   rw[hI k hk q_];simp
  rw[hnone]at hres
  dsimp only at hres
  clear hI hj hje hnone
  refine T ?_
  refine X (Ad [(0,901),(1,902),(2,903),(3,904),(4,905),(5,906),(6,907),(7,908)] E F61 qcopy E W E V) ?_
  refine B0 (fun j:Nat=>j≤n.domains.length) (fun j=>[(1,.ref 8 (Aj n) 0),(2,.ptr 1001 0),(35,.sl 6 Af n.domains),(36,Aa n.domains.length),(37,Aa j)]) (fun j=>[(1001,.box [.osl 901,.osl 902,.osl 903,.osl 1004,.osl 905,.osl 906,.osl 907,.osl 908]),(901,.row 5 Ar n.devices),(902,.row 7 Au n.ports),(903,.row 3 Br n.links),(1004,.row 6 Af (Jy n j)),(905,.row 4 Az n.statics),(906,.row 4 A0 n.floods),(907,.row 5 Bv n.vrfs),(908,.row 5 Bt n.irbs)]) (fun j=>n.domains.length-j) 0 [(1004,904)] q_ ⟨⟨E,E,E,E,E,E,E,E,E,E,Y⟩,⟨.inl E,E,.inl E,E,.inl E,E,.inl E,E,.inl (congrArg (Ob.row 6 Af) (Aef n)),E,.inl E,E,.inl E,E,.inl E,E,.inl E,E,Y⟩,E,E⟩ ?_
  intro j hj
  have hml:=Agi n hj
  refine T ?_
  refine⟨fun h=>?_,fun h=>?_⟩
  ·have hlt:j<n.domains.length:=qA h
   have hj0:((j:Nat):Int).toNat<n.domains.length:=hlt
   clear h
   have hjm:((j:Nat):Int).toNat<(Jy n j).length:=by rw[hml];exact hj0
   obtain ⟨m1,m2⟩:=Aeg n hlt hjm
   have hDj:n.domains[j]=(n.domains[((j:Nat):Int).toNat]'hj0):=rfl
   rw[hDj]at m1 m2
   have hne:Jy n j≠[]:=fun e=>by rw[e]at hjm;cases hjm
   have ql:=Wj n hn (n.domains[((j:Nat):Int).toNat]'hj0).dev (n.domains[((j:Nat):Int).toNat]'hj0).vni
   have hpt:=peersT.eq_1 n (n.domains[((j:Nat):Int).toNat]'hj0)
   have hlr:Dl n (n.domains[((j:Nat):Int).toNat]'hj0).dev (n.domains[((j:Nat):Int).toNat]'hj0).vni<0∨∃ k:Nat,Dl n (n.domains[((j:Nat):Int).toNat]'hj0).dev (n.domains[((j:Nat):Int).toNat]'hj0).vni=k∧k<n.floods.length:=by
    by_cases h:Dl n (n.domains[((j:Nat):Int).toNat]'hj0).dev (n.domains[((j:Nat):Int).toNat]'hj0).vni<0
    ·exact .inl h
    ·exact .inr (Ei h)
   generalize Dl n (n.domains[((j:Nat):Int).toNat]'hj0).dev (n.domains[((j:Nat):Int).toNat]'hj0).vni=lv at *
   generalize hpT:peersT n (n.domains[((j:Nat):Int).toNat]'hj0)=ps at *
   by_cases k1:(n.domains[((j:Nat):Int).toNat]'hj0).vni=0
   ·have g1:((n.domains[((j:Nat):Int).toNat]'hj0).vni != 0)=false:=by rw[bne_eq_false_iff_eq];exact k1
    rw[if_neg (fun h=>h.1 k1)]at hpt
    subst hpt
    refine T ?_
    refine Ch 9 1 Aa E ?_
    refine C ql F62 ?_
    refine⟨hne,?_⟩
    refine T ?_
    refine⟨(⟨(n.domains[((j:Nat):Int).toNat]'hj0).dev,(n.domains[((j:Nat):Int).toNat]'hj0).vlan,(n.domains[((j:Nat):Int).toNat]'hj0).vni,(n.domains[((j:Nat):Int).toNat]'hj0).irb,(n.domains[((j:Nat):Int).toNat]'hj0).row,[]⟩:Domain),by rw[m1];rfl,by rw[m1];rfl,?_⟩
    refine T ?_
    exact A4 (j+1) [] hlt q_ ⟨⟨E,E,E,E,E,E,E,E,E,E,Y⟩,⟨.inl E,E,.inl E,E,.inl E,E,.inl E,E,.inl (congrArg (Ob.row 6 Af) m2.symm),E,.inl E,E,.inl E,E,.inl E,E,.inl E,E,Y⟩,E,E⟩
   have g1:((n.domains[((j:Nat):Int).toNat]'hj0).vni != 0)=true:=by rw[bne_iff_ne];exact k1
   by_cases k2:lv<0
   ·have g2:decide (lv≥0)=false:=decide_eq_false q_
    rw[if_neg (fun h=>by have:=h.2;omega)]at hpt
    subst hpt
    refine T ?_
    refine Ch 9 1 Aa E ?_
    refine C ql F62 ?_
    refine⟨hne,?_⟩
    refine T ?_
    refine⟨(⟨(n.domains[((j:Nat):Int).toNat]'hj0).dev,(n.domains[((j:Nat):Int).toNat]'hj0).vlan,(n.domains[((j:Nat):Int).toNat]'hj0).vni,(n.domains[((j:Nat):Int).toNat]'hj0).irb,(n.domains[((j:Nat):Int).toNat]'hj0).row,[]⟩:Domain),by rw[m1];rfl,by rw[m1];rfl,?_⟩
    refine T ?_
    exact A4 (j+1) [] hlt q_ ⟨⟨E,E,E,E,E,E,E,E,E,E,Y⟩,⟨.inl E,E,.inl E,E,.inl E,E,.inl E,E,.inl (congrArg (Ob.row 6 Af) m2.symm),E,.inl E,E,.inl E,E,.inl E,E,.inl E,E,Y⟩,E,E⟩
   obtain ⟨m,hm,hmf⟩:=hlr.resolve_left k2
   subst hm
   clear hlr
   have g2:decide ((m:Int)≥0)=true:=decide_eq_true q_
   have hm0:((m:Nat):Int).toNat<n.floods.length:=hmf
   rw[if_pos ⟨k1,by omega⟩,Am hm0]at hpt
   have hfa:=Ahg n hr _ (List.getElem_mem hm0)
   refine T ?_
   refine Cb 9 1200 1 Aa E E ?_
   refine C ql F62 ?_
   refine A6 8 6 (Af (n.domains[((j:Nat):Int).toNat]'hj0)) E E E ?_
   refine B0 (fun k:Nat=>k≤(n.floods[((m:Nat):Int).toNat]'hm0).addrs.length) (fun k=>[(1,.ref 8 (Aj n) 0),(2,.ptr 1001 0),(7,Aa j),(8,.ref 6 (Af (n.domains[((j:Nat):Int).toNat]'hj0)) 0),(9,.osl 1200),(35,.sl 6 Af n.domains),(36,Aa n.domains.length),(37,Aa j),(60,.sl 1 Bi (n.floods[((m:Nat):Int).toNat]'hm0).addrs),(61,Aa (n.floods[((m:Nat):Int).toNat]'hm0).addrs.length),(62,Aa k)]) (fun k=>[(1001,.box [.osl 901,.osl 902,.osl 903,.osl 1004,.osl 905,.osl 906,.osl 907,.osl 908]),(901,.row 5 Ar n.devices),(902,.row 7 Au n.ports),(903,.row 3 Br n.links),(1004,.row 6 Af (Jy n j)),(905,.row 4 Az n.statics),(906,.row 4 A0 n.floods),(907,.row 5 Bv n.vrfs),(908,.row 5 Bt n.irbs),(1200,.row 1 Aa (((n.floods[((m:Nat):Int).toNat]'hm0).addrs.take k).map (fun a=>Is n (Cm n a) (n.domains[((j:Nat):Int).toNat]'hj0).vni)))]) (fun k=>(n.floods[((m:Nat):Int).toNat]'hm0).addrs.length-k) 0 [] q_ U ?_
   intro k hk
   refine T ?_
   refine⟨fun h=>?_,fun h=>?_⟩
   ·have hlt2:k<(n.floods[((m:Nat):Int).toNat]'hm0).addrs.length:=qA h
    have hk0:((k:Nat):Int).toNat<(n.floods[((m:Nat):Int).toNat]'hm0).addrs.length:=hlt2
    clear h
    have qo:=Aba n hn ((n.floods[((m:Nat):Int).toNat]'hm0).addrs[((k:Nat):Int).toNat]'hk0)
    have qf:=Mu n hn (Cm n ((n.floods[((m:Nat):Int).toNat]'hm0).addrs[((k:Nat):Int).toNat]'hk0)) (n.domains[((j:Nat):Int).toNat]'hj0).vni
    have hsn:((n.floods[((m:Nat):Int).toNat]'hm0).addrs.take (k+1)).map (fun a=>Is n (Cm n a) (n.domains[((j:Nat):Int).toNat]'hj0).vni)=((n.floods[((m:Nat):Int).toNat]'hm0).addrs.take k).map (fun a=>Is n (Cm n a) (n.domains[((j:Nat):Int).toNat]'hj0).vni)++[Is n (Cm n ((n.floods[((m:Nat):Int).toNat]'hm0).addrs[((k:Nat):Int).toNat]'hk0)) (n.domains[((j:Nat):Int).toNat]'hj0).vni]:=by
     rw[List.take_succ_eq_append_getElem hlt2,List.map_append];rfl
    have hrl:(((n.floods[((m:Nat):Int).toNat]'hm0).addrs.take k).map (fun a=>Is n (Cm n a) (n.domains[((j:Nat):Int).toNat]'hj0).vni)).length≤16:=by rw[List.length_map,List.length_take];omega
    refine T ?_
    refine C qo F64 ?_
    refine C qf F63 ?_
    refine Xd (Al Γ.toTy 75 E E E E E (.row E) (.lit (e:=Aa) (l:=[Is n (Cm n ((n.floods[((m:Nat):Int).toNat]'hm0).addrs[((k:Nat):Int).toNat]'hk0)) (n.domains[((j:Nat):Int).toNat]'hj0).vni]) E E) j_ (by simp only[List.length_singleton];omega) (by simp only[List.length_singleton];omega)) ?_
    refine T ?_
    exact A4 (k+1) [(1200,75)] hlt2 q_ ⟨⟨E,E,E,E,E,E,E,E,E,E,E,E,E,E,E,E,E,E,E,E,E,E,Y⟩,⟨.inl E,E,.inl E,E,.inl E,E,.inl E,E,.inl E,E,.inl E,E,.inl E,E,.inl E,E,.inl E,E,.inl (congrArg (Ob.row 1 Aa) hsn),E,Y⟩,E,E⟩
   ·have hke:k=(n.floods[((m:Nat):Int).toNat]'hm0).addrs.length:=qB h
    clear h
    rw[hke,List.take_length,← hpt]
    refine Ae 1200 E ?_
    refine T ?_
    refine⟨hne,?_⟩
    refine T ?_
    refine⟨(⟨(n.domains[((j:Nat):Int).toNat]'hj0).dev,(n.domains[((j:Nat):Int).toNat]'hj0).vlan,(n.domains[((j:Nat):Int).toNat]'hj0).vni,(n.domains[((j:Nat):Int).toNat]'hj0).irb,(n.domains[((j:Nat):Int).toNat]'hj0).row,ps⟩:Domain),by rw[m1];rfl,by rw[m1];rfl,?_⟩
    refine T ?_
    exact A4 (j+1) [] hlt q_ ⟨⟨E,E,E,E,E,E,E,E,E,E,Y⟩,⟨.inl E,E,.inl E,E,.inl E,E,.inl E,E,.inl (congrArg (Ob.row 6 Af) m2.symm),E,.inl E,E,.inl E,E,.inl E,E,.inl E,E,Y⟩,E,E⟩
  ·have hje:j=n.domains.length:=qB h
   clear h
   subst hje
   rw[Agj]
   have qm:=Bd (A5 n) (Tb hn hr)
   refine T ?_
   refine Ae 901 E ?_
   refine Ae 902 E ?_
   refine Ae 903 E ?_
   refine Ae 1004 E ?_
   refine Ae 905 E ?_
   refine Ae 906 E ?_
   refine Ae 907 E ?_
   refine Ae 908 E ?_
   cases hb:Ac (A5 n) with
   | false =>
    rw[hb]at qm
    rw[hb,if_pos rfl]at hres
    subst hres
    refine C qm F25 ?_
    refine Ag 1001 (B5 emptyN) E (.cons .nil (.cons .nil (.cons .nil (.cons .nil (.cons .nil (.cons .nil (.cons .nil (.cons .nil .nil)))))))) ?_
    refine T ?_
    exact D
   | true =>
    rw[hb]at qm
    rw[hb,if_neg y_]at hres
    subst hres
    refine C qm F25 ?_
    exact D
end Go.Sy.YtjenpnjajjplkaaGreatDoor
namespace Go.Sy.YtjenpnjajjplkaaGreatDoor
open Go.Proofs
set_option maxHeartbeats 4000000
structure PutP (x:Net × Int):Prop where
 fin:x.1.Fin
 addrs:D0 x.1
 none:x.2≠0→x.1=emptyN
theorem Hl:emptyN.Fin:=by
 constructor<;>first | (show (0:Nat)<2147483648;decide) | (intro p hp;cases hp)
theorem Av (e:Int):PutP (emptyN,e):=⟨Hl,(fun x hx=>by cases hx),fun _=>rfl⟩
theorem Hf {n:Net} (h:n.Fin) (a:D0 n):PutP (n,0):=⟨h,a,fun h=>absurd rfl h⟩
theorem Kn {n:Net} {l:LineM} {k:Int} (h:¬ fitsB n l k=false):n.devices.length≤8∧n.ports.length≤40∧n.links.length≤20∧n.domains.length≤48∧n.statics.length≤64∧n.floods.length≤48∧n.vrfs.length≤16∧n.irbs.length≤48:=by
 have h:fitsB n l k=true:=by simpa using h
 rw[fitsB,Bool.and_eq_true,Bool.and_eq_true]at h
 have h3:=h.2.2
 simp only[Ac,Bool.and_eq_true]at h3
 have h4:=h3.1.1.1.1.1.1.1.1
 simpa [Zj,and_assoc] using h4
theorem Oq {n:Net} {l:LineM} {k:Int} (h:¬ (begT n l k).2≠0):n.devices.length≤8∧n.ports.length≤40∧n.links.length≤20∧n.domains.length≤48∧n.statics.length≤64∧n.floods.length≤48∧n.vrfs.length≤16∧n.irbs.length≤48:=by
 apply Kn (l:=l) (k:=k)
 intro h2
 rw[begT,if_pos h2]at h
 exact h j_
theorem B2 {α:Type} {l:List α} (h:l.length≤100000):Aq l:=by show l.length<2147483648;omega
theorem Q7 (dev:Int):∀ (l:List Int) (ds:List Domain) (d:Domain),d∈As dev ds l→d∈ds∨d.peers=[]
 | [],_,_,h=>.inl h
 | v::l,ds,d,h=>by
  rcases Q7 dev l (Bh dev ds v) d h with h | h
  ·unfold Bh at h
   split at h
   ·rcases List.mem_append.1 h with h | h
    ·exact .inl h
    ·rw[List.mem_singleton.1 h];exact .inr rfl
   ·exact .inl h
  ·exact .inr h
theorem Acv {α:Type} {l:List α} {i:Nat} {x y:α} (h:y∈l.set i x):y∈l∨y=x:=by
 rcases List.mem_or_eq_of_mem_set h with h | h
 ·exact .inl h
 ·exact .inr h
theorem Abc {α:Type} [Inhabited α] {l:List α} {i:Int} (h:i.toNat<l.length):nth l i∈l:=by rw[Am h];exact List.getElem_mem h
theorem Uh {n:Net} {l:LineM} (hn:n.Fin) (ha:D0 n):PutP (putDevice n l):=by
 unfold putDevice
 split
 ·exact Av _
 rename_i h
 have:=Kn h
 split
 ·exact Av _
 split
 ·exact Av _
 exact Hf { hn with devices:=B2 (by rw[List.length_append,List.length_singleton];omega) } ha
theorem Yg {n:Net} {l:LineM} (hn:n.Fin) (ha:D0 n) (hl:LineW l):PutP (putPort n l):=by
 unfold putPort
 split
 ·exact Av _
 rename_i h
 have:=Kn h
 split
 ·exact Av _
 split
 ·exact Av _
 split
 ·exact Av _
 split
 ·exact Av _
 refine Hf { hn with ports:=B2 (by rw[List.length_append,List.length_singleton];omega),domains:=B2 (by dsimp only;omega),tagged:=fun p hp=>?_,peers:=fun d hd=>?_ } ha
 ·rcases List.mem_append.1 hp with hp | hp
  ·exact hn.tagged p hp
  ·rw[List.mem_singleton.1 hp];exact B2 hl.fin.t
 ·rcases Q7 _ _ _ _ hd with h | h
  ·exact hn.peers d h
  ·exact B2 (by rw[h];exact Nat.zero_le _)
theorem Aco {l:List Port} {i k:Int} {p:Port} (h:p∈Cd l i k) (hT:∀ p∈l,Aq p.tagged):Aq p.tagged:=by
 by_cases hi:i.toNat<l.length
 ·rcases Acv h with h | h
  ·exact hT p h
  ·rw[h];exact show Aq (nth l i).tagged from hT _ (Abc hi)
 ·rw[Cd,List.set_eq_of_length_le q_]at h
  exact hT p h
theorem Yh {n:Net} {l:LineM} (hn:n.Fin) (ha:D0 n):PutP (putLink n l):=by
 unfold putLink
 split
 ·exact Av _
 rename_i h
 have:=Kn h
 dsimp only
 split
 ·exact Av _
 split
 ·exact Av _
 split
 ·exact Av _
 refine Hf { hn with ports:=B2 (by simp only[Cd,List.length_set];omega),links:=B2 (by rw[List.length_append,List.length_singleton];omega),tagged:=fun p hp=>Aco hp fun q hq=>Aco hq hn.tagged } ha
theorem Ug {n:Net} {l:LineM} (hn:n.Fin) (ha:D0 n):PutP (putStatic n l):=by
 unfold putStatic
 split
 ·exact Av _
 rename_i h
 have:=Kn h
 dsimp only
 split
 ·exact Av _
 split
 ·exact Av _
 split
 ·exact Av _
 split
 ·exact Av _
 exact Hf { hn with statics:=B2 (by rw[List.length_append,List.length_singleton];omega) } ha
theorem Yf {n:Net} {l:LineM} (hn:n.Fin) (ha:D0 n):PutP (putVtep n l):=by
 unfold putVtep
 split
 ·exact Av _
 rename_i h
 have:=Oq h
 dsimp only
 split
 ·exact Av _
 exact Hf { hn with devices:=B2 (by simp only[Ht,List.length_set];omega) } ha
theorem Ada {l:List Domain} {i:Nat} {e d:Domain} (h:d∈l.set i e) (he:i<l.length→Aq e.peers) (hT:∀ p∈l,Aq p.peers):Aq d.peers:=by
 by_cases hi:i<l.length
 ·rcases Acv h with h | h
  ·exact hT d h
  ·rw[h];exact he hi
 ·rw[List.set_eq_of_length_le q_]at h
  exact hT d h
theorem Aa1 {n:Net} {l:LineM} (hn:n.Fin) (ha:D0 n):PutP (putVni n l):=by
 unfold putVni
 split
 ·exact Av _
 rename_i h
 have:=Oq h
 dsimp only
 split
 ·exact Av _
 split
 ·exact Av _
 split
 ·exact Av _
 exact Hf { hn with domains:=B2 (by simp only[List.length_set];omega),peers:=fun d hd=>Ada hd (fun hi=>show Aq (nth n.domains _).peers from hn.peers _ (Abc hi)) hn.peers } ha
theorem We {n:Net} {l:LineM} (hn:n.Fin) (ha:D0 n) (hl:LineW l):PutP (putFlood n l):=by
 unfold putFlood
 split
 ·exact Av _
 rename_i h
 have:=Oq h
 dsimp only
 split
 ·exact Av _
 split
 ·exact Av _
 split
 ·exact Av _
 split
 ·exact Av _
 refine Hf { hn with floods:=B2 (by rw[List.length_append,List.length_singleton];omega),addrs:=fun p hp=>?_ } ha
 rcases List.mem_append.1 hp with hp | hp
 ·exact hn.addrs p hp
 ·rw[List.mem_singleton.1 hp];exact B2 hl.fin.a
theorem Aa0 {n:Net} {l:LineM} (hn:n.Fin) (ha:D0 n) (hl:LineW l):PutP (putVrf n l):=by
 unfold putVrf
 split
 ·exact Av _
 rename_i h
 have:=Oq h
 dsimp only
 split
 ·exact Av _
 split
 ·exact Av _
 refine Hf { hn with vrfs:=B2 (by rw[List.length_append,List.length_singleton];omega),imports:=fun p hp=>?_,exports:=fun p hp=>?_ } ha
 ·rcases List.mem_append.1 hp with hp | hp
  ·exact hn.imports p hp
  ·rw[List.mem_singleton.1 hp];exact B2 hl.fin.i
 ·rcases List.mem_append.1 hp with hp | hp
  ·exact hn.exports p hp
  ·rw[List.mem_singleton.1 hp];exact B2 hl.fin.e
theorem Aa2 {n:Net} {l:LineM} (hn:n.Fin) (ha:D0 n) (hl:LineW l):PutP (putIrb n l):=by
 unfold putIrb
 split
 ·exact Av _
 rename_i h
 have:=Oq h
 dsimp only
 split
 ·exact Av _
 split
 ·exact Av _
 split
 ·exact Av _
 refine Hf { hn with domains:=B2 (by simp only[List.length_set];omega),peers:=fun d hd=>Ada hd (fun hi=>show Aq (nth n.domains _).peers from hn.peers _ (Abc hi)) hn.peers,irbs:=B2 (by rw[List.length_append,List.length_singleton];omega) } fun x hx=>?_
 rcases List.mem_append.1 hx with hx | hx
 ·exact ha x hx
 ·rw[List.mem_singleton.1 hx];exact hl.ok.addr
theorem Acq {n:Net} {l:LineM} (hn:n.Fin) (ha:D0 n) (hl:LineW l):PutP (putT n l):=by
 unfold putT
 split
 ·exact Uh hn ha
 split
 ·exact Yg hn ha hl
 split
 ·exact Yh hn ha
 split
 ·exact Ug hn ha
 split
 ·exact Yf hn ha
 split
 ·exact Aa1 hn ha
 split
 ·exact We hn ha hl
 split
 ·exact Aa0 hn ha hl
 split
 ·exact Aa2 hn ha hl
 exact Av _
theorem Ve {n:Net} (hn:n.Fin):(meshNT n).1.Fin:=by
 unfold meshNT
 split
 ·exact Hl
 rename_i h
 have h:Ac n=true:=by simpa using h
 split
 ·exact Hl
 split
 ·exact Hl
 exact Tb hn h
end Go.Sy.YtjenpnjajjplkaaGreatDoor
namespace Go.Sy.YtjenpnjajjplkaaGreatDoor
open Go.Proofs
structure NameK (n:Net):Prop where
 dev:∀ i:Nat,i<n.devices.length→Be (nth n.devices (i:Int)).name=true∧A7 n (nth n.devices (i:Int)).name=i
 prt:∀ i:Nat,i<n.ports.length→Be (nth n.ports (i:Int)).name=true∧Jx n (nth n.ports (i:Int)).dev (nth n.ports (i:Int)).name=i
theorem Zm:NameK emptyN:=⟨fun i hi=>(by cases hi),fun i hi=>(by cases hi)⟩
theorem NameK.same {n m:Net} (h:NameK n) (hd:m.devices=n.devices) (hp:m.ports=n.ports):NameK m:=by
 refine⟨fun i hi=>?_,fun i hi=>?_⟩
 ·rw[hd]at hi ⊢
  have:=h.dev i hi
  unfold A7 at this ⊢
  rw[hd];exact this
 ·rw[hp]at hi ⊢
  have:=h.prt i hi
  unfold Jx at this ⊢
  rw[hp];exact this
theorem L0 {α β:Type} [Inhabited α] (l:List α) (x:α) (j:Nat) (i:Int) (f:α→β) (hf:f x=f (nth l (j:Int))) (hj:j<l.length):f (nth (l.set j x) i)=f (nth l i):=by
 by_cases h:i.toNat=j
 ·rw[De (l.set j x) h,Mv l x hj,hf,De l h]
 ·rw[C2 l x h]
theorem Abz {n:Net} {l:LineM} {k:Int} (h:¬ fitsB n l k=false):Be l.dev=true:=by
 have h:fitsB n l k=true:=by simpa using h
 simp only[fitsB,B4,Bool.and_eq_true]at h
 exact h.2.1.2.1
theorem Ad3 {n:Net} {l:LineM} (hn:NameK n) (h:(putT n l).2=0):NameK (putT n l).1:=by
 rw[putT]at h ⊢
 by_cases k1:l.kind=1
 ·rw[if_pos k1]at h ⊢
  rw[putDevice]at h ⊢
  repeat' split at h
  all_goals (try (simp at h;done))
  rename_i h1 h2 h3
  rw[if_neg h1,if_neg h2,if_neg h3]
  have hname:=Abz h1
  have hno:n.devices.any (fun d=>d.name == l.dev)=false:=by
   cases hh:n.devices.any (fun d=>d.name == l.dev)
   ·rfl
   ·refine absurd ?_ h2
    obtain ⟨d,hd,he⟩:=List.any_eq_true.1 hh
    exact List.any_eq_true.2 ⟨d,hd,by simp only[he,Bool.true_or]⟩
  refine⟨fun i hi=>?_,fun i hi=>hn.prt i hi⟩
  have hi:i<(n.devices++[(⟨l.row,l.num,l.dev,l.mac,0⟩:Device)]).length:=hi
  rw[List.length_append,List.length_singleton]at hi
  by_cases he:i=n.devices.length
  ·subst he
   have e:nth (n.devices++[(⟨l.row,l.num,l.dev,l.mac,0⟩:Device)]) (n.devices.length:Int)=⟨l.row,l.num,l.dev,l.mac,0⟩:=Cj _ _
   show Be (nth (n.devices++[(⟨l.row,l.num,l.dev,l.mac,0⟩:Device)]) (n.devices.length:Int)).name=true∧Bc (fun d:Device=>d.name == (nth (n.devices++[(⟨l.row,l.num,l.dev,l.mac,0⟩:Device)]) (n.devices.length:Int)).name) (n.devices++[_])=n.devices.length
   rw[e]
   exact⟨hname,Kz _ _ _ hno y_⟩
  ·have hl:i<n.devices.length:=by omega
   have e:nth (n.devices++[(⟨l.row,l.num,l.dev,l.mac,0⟩:Device)]) (i:Int)=nth n.devices (i:Int):=Da _ _ (by simpa using hl)
   obtain ⟨d1,d2⟩:=hn.dev i hl
   show Be (nth (n.devices++[(⟨l.row,l.num,l.dev,l.mac,0⟩:Device)]) (i:Int)).name=true∧Bc (fun d:Device=>d.name == (nth (n.devices++[(⟨l.row,l.num,l.dev,l.mac,0⟩:Device)]) (i:Int)).name) (n.devices++[_])=i
   rw[e]
   unfold A7 at d2
   exact⟨d1,by rw[M7 _ _ _ (by rw[d2];omega)];exact d2⟩
 rw[if_neg k1]at h ⊢
 by_cases k2:l.kind=2
 ·rw[if_pos k2]at h ⊢
  rw[putPort]at h ⊢
  repeat' split at h
  all_goals (try (simp at h;done))
  rename_i h1 h2 h3 h4 h5
  rw[if_neg h1,if_neg h2,if_neg h3,if_neg h4,if_neg h5]
  obtain ⟨_,hu,_⟩:=I2 h1
  simp only[Ay,if_neg k1,if_pos k2,Bool.and_eq_true]at hu
  have hname:=hu.1
  have hno:n.ports.any (fun p=>p.dev == A7 n l.dev && p.name == l.port)=false:=by
   cases hh:n.ports.any (fun p=>p.dev == A7 n l.dev && p.name == l.port)
   ·rfl
   ·exact absurd (idxI_nonneg.2 hh) h3
  refine⟨fun i hi=>hn.dev i hi,fun i hi=>?_⟩
  generalize hx:(⟨l.row,A7 n l.dev,l.vlan,l.cost,-1,l.port,l.tagged⟩:Port)=x at *
  have hxd:x.dev=A7 n l.dev∧x.name=l.port:=by subst hx;exact⟨rfl,rfl⟩
  have hi:i<(n.ports++[x]).length:=hi
  rw[List.length_append,List.length_singleton]at hi
  by_cases he:i=n.ports.length
  ·subst he
   have e:nth (n.ports++[x]) (n.ports.length:Int)=x:=Cj _ _
   show Be (nth (n.ports++[x]) (n.ports.length:Int)).name=true∧Bc (fun p:Port=>p.dev == (nth (n.ports++[x]) (n.ports.length:Int)).dev && p.name == (nth (n.ports++[x]) (n.ports.length:Int)).name) (n.ports++[x])=n.ports.length
   rw[e,hxd.1,hxd.2]
   exact⟨hname,Kz _ _ _ hno (by rw[hxd.1,hxd.2];simp)⟩
  ·have hl:i<n.ports.length:=by omega
   have e:nth (n.ports++[x]) (i:Int)=nth n.ports (i:Int):=Da _ _ (by simpa using hl)
   obtain ⟨d1,d2⟩:=hn.prt i hl
   show Be (nth (n.ports++[x]) (i:Int)).name=true∧Bc (fun p:Port=>p.dev == (nth (n.ports++[x]) (i:Int)).dev && p.name == (nth (n.ports++[x]) (i:Int)).name) (n.ports++[x])=i
   rw[e]
   unfold Jx at d2
   exact⟨d1,by rw[M7 _ _ _ (by rw[d2];omega)];exact d2⟩
 rw[if_neg k2]at h ⊢
 by_cases k3:l.kind=3
 ·rw[if_pos k3]at h ⊢
  rw[putLink]at h ⊢
  dsimp only at h ⊢
  repeat' split at h
  all_goals (try (simp at h;done))
  rename_i h1 h2 h3 h4
  rw[if_neg h1,if_neg h2,if_neg h3,if_neg h4]
  have tie:∀ (ps:List Port) (a k:Int),(∀ i:Nat,i<ps.length→Be (nth ps (i:Int)).name=true∧Bc (fun p:Port=>p.dev == (nth ps (i:Int)).dev && p.name == (nth ps (i:Int)).name) ps=i) →
    (∀ i:Nat,i<(Cd ps a k).length→Be (nth (Cd ps a k) (i:Int)).name=true∧Bc (fun p:Port=>p.dev == (nth (Cd ps a k) (i:Int)).dev && p.name == (nth (Cd ps a k) (i:Int)).name) (Cd ps a k)=i):=by
   intro ps a k hps i hi
   by_cases ha:a.toNat<ps.length
   ·have hi':i<ps.length:=by simpa [Cd] using hi
    have e0:nth ps a=nth ps ((a.toNat:Nat):Int):=De _ y_
    have e1:(nth (Cd ps a k) (i:Int)).name=(nth ps (i:Int)).name:=L0 ps _ a.toNat (i:Int) (fun p=>p.name) (by show (nth ps a).name=_;rw[e0]) ha
    have e2:(nth (Cd ps a k) (i:Int)).dev=(nth ps (i:Int)).dev:=L0 ps _ a.toNat (i:Int) (fun p=>p.dev) (by show (nth ps a).dev=_;rw[e0]) ha
    rw[e1,e2]
    obtain ⟨g1,g2⟩:=hps i hi'
    refine⟨g1,?_⟩
    rw[Cd,Tj]
    ·exact g2
    ·intro y hy
     have:y=nth ps a:=by
      rw[Am ha]
      rw[List.getElem?_eq_getElem ha]at hy
      exact(Option.some.inj hy).symm
     rw[this]
   ·have:Cd ps a k=ps:=by rw[Cd,List.set_eq_of_length_le q_]
    rw[this]at hi ⊢
    exact hps i hi
  exact⟨fun i hi=>hn.dev i hi,fun i hi=>tie _ _ _ (tie _ _ _ hn.prt) i hi⟩
 rw[if_neg k3]at h ⊢
 by_cases k4:l.kind=4
 ·rw[if_pos k4]at h ⊢
  rw[putStatic]at h ⊢
  dsimp only at h ⊢
  repeat' split at h
  all_goals (try (simp at h;done))
  rename_i h1 h2 h3 h4 h5
  rw[if_neg h1,if_neg h2,if_neg h3,if_neg h4,if_neg h5]
  exact hn.same E E
 rw[if_neg k4]at h ⊢
 by_cases k5:l.kind=5
 ·rw[if_pos k5]at h ⊢
  rw[putVtep]at h ⊢
  dsimp only at h ⊢
  split at h
  ·rename_i h1;exact absurd h h1
  rename_i h1
  rw[if_neg h1]
  split at h
  ·simp at h
  rename_i h2
  rw[if_neg h2]
  obtain ⟨_,_,_,d0,d1,d2⟩:=Hn h1
  refine⟨fun i hi=>?_,fun i hi=>hn.prt i hi⟩
  rw[d2]at hi ⊢
  have hi':i<n.devices.length:=by simpa [Ht] using hi
  have e0:nth n.devices (A7 n l.dev)=nth n.devices (((A7 n l.dev).toNat:Nat):Int):=De _ y_
  have e1:(nth (Ht n.devices (A7 n l.dev) l.addr) (i:Int)).name=(nth n.devices (i:Int)).name:=L0 n.devices _ _ (i:Int) (fun d=>d.name) (by show (nth n.devices (A7 n l.dev)).name=_;rw[e0]) d1
  obtain ⟨g1,g2⟩:=hn.dev i hi'
  show Be (nth (Ht n.devices (A7 n l.dev) l.addr) (i:Int)).name=true∧Bc (fun d:Device=>d.name == (nth (Ht n.devices (A7 n l.dev) l.addr) (i:Int)).name) (Ht n.devices (A7 n l.dev) l.addr)=i
  rw[e1]
  refine⟨g1,?_⟩
  rw[Ht,Tj]
  ·exact g2
  ·intro y hy
   have:y=nth n.devices (A7 n l.dev):=by
    rw[Am d1]
    rw[List.getElem?_eq_getElem d1]at hy
    exact(Option.some.inj hy).symm
   rw[this]
 rw[if_neg k5]at h ⊢
 by_cases k6:l.kind=6
 ·rw[if_pos k6]at h ⊢
  rw[putVni]at h ⊢
  dsimp only at h ⊢
  split at h
  ·rename_i h1;exact absurd h h1
  rename_i h1
  rw[if_neg h1]
  repeat' split at h
  all_goals (try (simp at h;done))
  rename_i h2 h3 h4
  rw[if_neg h2,if_neg h3,if_neg h4]
  exact hn.same E E
 rw[if_neg k6]at h ⊢
 by_cases k7:l.kind=7
 ·rw[if_pos k7]at h ⊢
  rw[putFlood]at h ⊢
  dsimp only at h ⊢
  split at h
  ·rename_i h1;exact absurd h h1
  rename_i h1
  rw[if_neg h1]
  repeat' split at h
  all_goals (try (simp at h;done))
  rename_i h2 h3 h4 h5
  rw[if_neg h2,if_neg h3,if_neg h4,if_neg h5]
  exact hn.same E E
 rw[if_neg k7]at h ⊢
 by_cases k8:l.kind=8
 ·rw[if_pos k8]at h ⊢
  rw[putVrf]at h ⊢
  dsimp only at h ⊢
  split at h
  ·rename_i h1;exact absurd h h1
  rename_i h1
  rw[if_neg h1]
  repeat' split at h
  all_goals (try (simp at h;done))
  rename_i h2 h3
  rw[if_neg h2,if_neg h3]
  exact hn.same E E
 rw[if_neg k8]at h ⊢
 by_cases k9:l.kind=9
 ·rw[if_pos k9]at h ⊢
  rw[putIrb]at h ⊢
  dsimp only at h ⊢
  split at h
  ·rename_i h1;exact absurd h h1
  rename_i h1
  rw[if_neg h1]
  repeat' split at h
  all_goals (try (simp at h;done))
  rename_i h2 h3 h4
  rw[if_neg h2,if_neg h3,if_neg h4]
  exact hn.same E E
 ·rw[if_neg k9]at h;simp at h
theorem Q3:∀ (l:List LineM) (n:Net),NameK n→(Bn n l).2.2=0→NameK (Bn n l).1
 | [],n,hn,h=>by
  rw[Bn,finishT]at h ⊢
  split at h
  ·rename_i h1;exact absurd h h1
  rename_i h1
  rw[if_neg h1]
  split at h
  ·simp at h
  rename_i h2
  rw[if_neg h2]
  obtain ⟨e1,_⟩:=Sg (n:=n) q_
  dsimp only
  rw[e1]
  exact hn.same E E
 | x::l,n,hn,h=>by
  rw[Bn]at h ⊢
  split at h
  ·rename_i h1;exact absurd h h1
  rename_i h1
  rw[if_neg h1]
  exact Q3 l _ (Ad3 hn q_) h
theorem T4:∀ (l:List LineM) (n:Net),n.Fin→D0 n→(∀ x∈l,LineW x)→(Bn n l).2.2=0→(Bn n l).1.Fin∧D0 (Bn n l).1
 | [],n,hn,ha,_,h=>by
  rw[Bn,finishT]at h ⊢
  split at h
  ·rename_i h1;exact absurd h h1
  rename_i h1
  rw[if_neg h1]
  split at h
  ·simp at h
  rename_i h2
  rw[if_neg h2]
  obtain ⟨e1,_⟩:=Sg (n:=n) q_
  refine⟨Ve hn,?_⟩
  dsimp only
  rw[e1]
  exact ha
 | x::l,n,hn,ha,hl,h=>by
  rw[Bn]at h ⊢
  split at h
  ·rename_i h1;exact absurd h h1
  rename_i h1
  rw[if_neg h1]
  have:=Acq hn ha (hl x y_)
  exact T4 l _ this.fin this.addrs (fun y hy=>hl y (by simp[hy])) h
theorem En {s:ByteArray} (h:Be s=true) {c:UInt8} (hc:Aer c=false) (hd:Ha c=false):c∉s.data.toList:=by
 simp only[Be,Bool.and_eq_true]at h
 intro hm
 have h1:=h.1
 generalize s.data.toList=l at *
 cases l with
 | nil=>cases hm
 | cons x l =>
  simp only[Agg,Bool.and_eq_true,List.all_eq_true,Bool.or_eq_true]at h1
  rcases List.mem_cons.1 hm with rfl | hm
  ·rw[hc]at h1;cases h1.1
  ·rcases h1.2 c hm with h | h
   ·rw[hc]at h;cases h
   ·rw[hd]at h;cases h
theorem Wg {c:UInt8}:∀ {a a' b b':List UInt8},c∉a→c∉a'→a++c::b=a'++c::b'→a=a'∧b=b'
 | [],[],_,_,_,_,h=>⟨rfl,(List.cons.inj h).2⟩
 | [],x::a',_,_,_,h2,h=>absurd (List.cons.inj h).1 (fun e=>h2 (by simp[e]))
 | x::a,[],_,_,h1,_,h=>absurd (List.cons.inj h).1 (fun e=>h1 (by simp[e]))
 | x::a,y::a',b,b',h1,h2,h=>by
  obtain ⟨e1,e2⟩:=List.cons.inj h
  obtain ⟨e3,e4⟩:=Wg (a:=a) (a':=a') (fun h=>h1 (by simp[h])) (fun h=>h2 (by simp[h])) e2
  exact⟨by rw[e1,e3],e4⟩
theorem Xl {a b:ByteArray} (h:a.data.toList=b.data.toList):a=b:=by
 rw[← D5 a,← D5 b,h]
theorem Xz (l:List ByteArray) (hne:l≠[]) (h:∀ x∈l,(32:UInt8)∉x.data.toList):A2 32 (Ci l ⟨#[32]⟩)=l:=by
 cases l with
 | nil=>exact absurd rfl hne
 | cons x l =>
  have e:(Ci (x::l) ⟨#[32]⟩).data.toList=Lib.join (x.data.toList::l.map (fun y=>y.data.toList)) [32]:=by
   simp only[Ci,List.map_cons]
  rw[Adq,e,So 32 _ _ (h x y_) (fun y hy=>by
   obtain ⟨z,hz,rfl⟩:=List.mem_map.1 hy
   exact h z (by simp[hz]))]
  have hm:l.map (mkT ∘ fun y:ByteArray=>y.data.toList)=l:=by
   exact(List.map_congr_left (f:=mkT ∘ fun y:ByteArray=>y.data.toList) (g:=id) (fun a _=>D5 a)).trans (List.map_id l)
  simp[D5,hm]
theorem Wf {n:Net} (hr:Ac n=true) {i:Nat} (hi:i<n.ports.length):0≤(nth n.ports (i:Int)).dev∧(nth n.ports (i:Int)).dev.toNat<n.devices.length:=by
 have e:nth n.ports (i:Int)=n.ports[i]:=Am (l:=n.ports) (i:=((i:Nat):Int)) hi
 rw[e]
 exact Jk hr hi
theorem Ij (n:Net) (i:Int):(Bp n i).data.toList=(nth n.devices (nth n.ports i).dev).name.data.toList++46::(nth n.ports i).name.data.toList:=by
 simp[Bp,ByteArray.data_append]
theorem Hm {n:Net} (hk:NameK n) {d:Int} (hd:0≤d∧d.toNat<n.devices.length):Be (nth n.devices d).name=true∧A7 n (nth n.devices d).name=d:=by
 have:=hk.dev d.toNat hd.2
 rw[Int.toNat_of_nonneg hd.1]at this
 exact this
theorem Aa4 {n:Net} (hk:NameK n) (hr:Ac n=true) {i:Int} (hi:0≤i∧i.toNat<n.ports.length):Aje n (U8 n i)=i:=by
 have hit:((i.toNat:Nat):Int)=i:=Int.toNat_of_nonneg hi.1
 rw[U8,if_pos ⟨⟨hi.1,by omega⟩,hr⟩]
 have e:Aje n (Bp n i)=((i.toNat:Nat):Int):=by
  refine Cg hi.2 (fun k hkl hki=>?_) ?_
  ·cases hc:Agz n (Bp n i) n.ports[k] with
   | false=>rfl
   | true =>
    have e1:nth n.ports (k:Int)=n.ports[k]:=Am (l:=n.ports) (i:=((k:Nat):Int)) hkl
    rw[← e1]at hc
    have h1:Bp n (k:Int)=Bp n i:=(H5 _ _).1 hc
    have h2:=congrArg (fun s:ByteArray=>s.data.toList) h1
    rw[Ij,Ij]at h2
    have dk:=Wf hr hkl
    have di:=Wf hr hi.2
    rw[hit]at di
    have nk:=Hm hk dk
    have ni:=Hm hk di
    obtain ⟨g1,g2⟩:=Wg (En nk.1 j_ j_) (En ni.1 j_ j_) h2
    have g3:(nth n.ports (k:Int)).dev=(nth n.ports i).dev:=by rw[← nk.2,← ni.2,Xl g1]
    have p1:=(hk.prt k hkl).2
    have p2:=(hk.prt i.toNat hi.2).2
    rw[hit]at p2
    rw[g3,Xl g2,p2]at p1
    omega
  ·have e1:nth n.ports i=n.ports[i.toNat]:=Am hi.2
   rw[← e1]
   exact(H5 _ _).2 E
 rw[e,hit]
theorem Hi (n:Net) (i:Int):(Oj n i).data.toList=(nth n.devices (nth n.domains i).dev).name.data.toList++47::(Cn (nth n.domains i).vlan).data.toList:=by
 simp[Oj,Ci,Lib.join_cons,Lib.joinTail]
theorem Aij {v w:Int} (hv:A9 v 1 4094=true) (hw:A9 w 1 4094=true) (h:Cn v=Cn w):v=w:=by
 have h1:=Uy hv
 have h2:=Uy hw
 rw[h,h2]at h1
 exact(Prod.mk.inj h1).1.symm
theorem Qd {n:Net} (hr:Ac n=true) {i:Int} (hi:0≤i∧i.toNat<n.domains.length):(0≤(nth n.domains i).dev∧(nth n.domains i).dev.toNat<n.devices.length)∧A9 (nth n.domains i).vlan 1 4094=true:=by
 have:=Ko hr hi.2
 rw[← Am hi.2]at this
 exact⟨this.1,by simp[A9];exact this.2.1⟩
theorem Vt {n:Net} (hk:NameK n) (hr:Ac n=true) {i:Int} (hi:0≤i∧i.toNat<n.domains.length):Zq n (Ca n i)=i:=by
 have hit:((i.toNat:Nat):Int)=i:=Int.toNat_of_nonneg hi.1
 have hl:(List.range n.domains.length).length=n.domains.length:=List.length_range
 have hf:=L7 (p:=Abq n (Ca n i)) (l:=List.range n.domains.length) (j:=i.toNat) (by rw[hl];exact hi.2) (fun k hkl hki=>?_) ?_
 ·rw[List.getElem_range]at hf
  rw[Zq,hf]
  exact hit
 ·rw[List.getElem_range]
  cases hc:Abq n (Ca n i) k with
  | false=>rfl
  | true =>
   have hkd:0≤(k:Int)∧((k:Nat):Int).toNat<n.domains.length:=⟨by omega,by rw[hl]at hkl;simpa using hkl⟩
   have h1:Ca n (k:Int)=Ca n i:=(H5 _ _).1 hc
   rw[Ca,if_pos ⟨⟨hkd.1,by have:=hkd.2;omega⟩,hr⟩,Ca,if_pos ⟨⟨hi.1,by omega⟩,hr⟩]at h1
   have h2:=congrArg (fun s:ByteArray=>s.data.toList) h1
   rw[Hi,Hi]at h2
   obtain ⟨dk,vk⟩:=Qd hr hkd
   obtain ⟨di,vi⟩:=Qd hr hi
   have nk:=Hm hk dk
   have ni:=Hm hk di
   obtain ⟨g1,g2⟩:=Wg (En nk.1 j_ j_) (En ni.1 j_ j_) h2
   have g3:(nth n.domains (k:Int)).dev=(nth n.domains i).dev:=by rw[← nk.2,← ni.2,Xl g1]
   have g4:=Aij vk vi (Xl g2)
   have o1:=Ac9 hr hkd
   have o2:=Ac9 hr hi
   rw[g3,g4,o2]at o1
   omega
 ·rw[List.getElem_range]
  show (Ca n ((i.toNat:Nat):Int) == Ca n i)=true
  rw[hit]
  exact(H5 _ _).2 E
structure AlikeM (x y:StepM):Prop where
 kind:x.kind=y.kind
 inj:x.kind=1→x.port=y.port∧x.bytes=y.bytes
 pick:x.kind=2∨x.kind=3→x.domain=y.domain∧x.at_=y.at_
 up:x.kind=5→x.up=y.up
def E2 (s:ByteArray):Prop:=(32:UInt8)∉s.data.toList∧(10:UInt8)∉s.data.toList
theorem Acb {n:Net} (hk:NameK n) (hr:Ac n=true) {i:Int} (hi:0≤i∧i.toNat<n.ports.length):E2 (Bp n i):=by
 have hit:((i.toNat:Nat):Int)=i:=Int.toNat_of_nonneg hi.1
 have di:=Wf hr hi.2
 rw[hit]at di
 have h1:=(Hm hk di).1
 have h2:=(hk.prt i.toNat hi.2).1
 rw[hit]at h2
 unfold E2
 rw[Ij]
 have a1:=En h1 (c:=32) j_ j_
 have a2:=En h2 (c:=32) j_ j_
 have b1:=En h1 (c:=10) j_ j_
 have b2:=En h2 (c:=10) j_ j_
 simp[a1,a2,b1,b2]
theorem Ae4 {n:Net} (hk:NameK n) (hr:Ac n=true) {i:Int} (hi:0≤i∧i.toNat<n.domains.length):E2 (Ca n i):=by
 unfold E2
 rw[Ca,if_pos ⟨⟨hi.1,by omega⟩,hr⟩,Hi]
 obtain ⟨di,vi⟩:=Qd hr hi
 have h1:=(Hm hk di).1
 have a1:=En h1 (c:=32) j_ j_
 have b1:=En h1 (c:=10) j_ j_
 have hv:0≤(nth n.domains i).vlan:=by have:=(within_iff.1 vi).1;omega
 have a2:=Wn (nth n.domains i).vlan hv 32 (.inl j_)
 have b2:=Wn (nth n.domains i).vlan hv 10 (.inl j_)
 simp[a1,a2,b1,b2]
theorem Ae2 {v:Int} (h:0≤v):E2 (Cn v):=⟨Wn v h 32 (.inl j_),Wn v h 10 (.inl j_)⟩
theorem Abt:∀ k:Fin 16,E9 (Ip k.1)=(k.1:Int)∧Ip k.1≠32∧Ip k.1≠10∧Ip k.1≠45:=by decide +kernel
theorem K0 {k:Nat} (h:k<16):E9 (Ip k)=(k:Int)∧Ip k≠32∧Ip k≠10∧Ip k≠45:=Abt ⟨k,h⟩
theorem Wz:∀ (l:List UInt8) {c:UInt8},(c=32∨c=10)→c∉I1 l
 | [],_,_=>by simp[I1]
 | x::l,c,hc=>by
  have hx:=x.toNat_lt
  have h1:=K0 (k:=x.toNat / 16) q_
  have h2:=K0 (k:=x.toNat % 16) q_
  have ih:=Wz l hc
  show c∉Ip (x.toNat / 16)::Ip (x.toNat % 16)::I1 l
  intro hm
  rcases List.mem_cons.1 hm with e | hm
  ·rcases hc with rfl | rfl
   ·exact h1.2.1 e.symm
   ·exact h1.2.2.1 e.symm
  rcases List.mem_cons.1 hm with e | hm
  ·rcases hc with rfl | rfl
   ·exact h2.2.1 e.symm
   ·exact h2.2.2.1 e.symm
  exact ih hm
theorem Ae3 (l:List UInt8):E2 (L5 l):=by
 rw[L5]
 split
 ·unfold E2;decide
 ·unfold E2
  rw[B9]
  exact⟨Wz l (.inl E),Wz l (.inr E)⟩
theorem Xj (l:List Bool):E2 (Bj l):=by
 rw[Bj]
 split
 ·unfold E2;decide
 ·unfold E2
  rw[B9]
  constructor <;>
  ·intro hm
   obtain ⟨b,_,hb⟩:=List.mem_map.1 hm
   cases b<;>cases hb
theorem Vj:∀ (r:List (List UInt8)) (x:List UInt8),(10:UInt8)∉x→(∀ y∈r,(10:UInt8)∉y)→(10:UInt8)∉Lib.join (x::r) [32]
 | [],x,h,_=>by rw[Lib.join_one];exact h
 | y::r,x,h,h2=>by
  have ih:=Vj r y (h2 y y_) (fun z hz=>h2 z (by simp[hz]))
  have e:Lib.join (x::y::r) [32]=x++32::Lib.join (y::r) [32]:=by
   rw[Lib.join_cons,Lib.join_cons,Lib.joinTail,Lib.joinTail]
   simp
  rw[e]
  intro hm
  rcases List.mem_append.1 hm with hm | hm
  ·exact h hm
  rcases List.mem_cons.1 hm with hm | hm
  ·cases hm
  ·exact ih hm
theorem Qe {l:List ByteArray} (hne:l≠[]) (h:∀ x∈l,E2 x):A2 32 (Ci l ⟨#[32]⟩)=l∧(10:UInt8)∉(Ci l ⟨#[32]⟩).data.toList:=by
 refine⟨Xz l hne (fun x hx=>(h x hx).1),?_⟩
 cases l with
 | nil=>exact absurd rfl hne
 | cons x l =>
  have e:(Ci (x::l) ⟨#[32]⟩).data.toList=Lib.join (x.data.toList::l.map (fun y=>y.data.toList)) [32]:=by
   simp only[Ci,List.map_cons]
  rw[e]
  exact Vj _ _ (h x y_).2 (fun y hy=>by
   obtain ⟨z,hz,rfl⟩:=List.mem_map.1 hy
   exact(h z (by simp[hz])).2)
theorem Va:∀ l:List UInt8,Bl (I1 l)=some l
 | []=>rfl
 | x::l=>by
  have hx:=x.toNat_lt
  have h1:=(K0 (k:=x.toNat / 16) q_).1
  have h2:=(K0 (k:=x.toNat % 16) q_).1
  show Bl (Ip (x.toNat / 16)::Ip (x.toNat % 16)::I1 l)=_
  rw[Bl,if_pos ⟨by rw[h1];omega,by rw[h2];omega⟩,Va l,Option.map_some]
  congr 2
  rw[hexV,h1,h2,Int.toNat_natCast,Int.toNat_natCast,show x.toNat / 16 * 16+x.toNat % 16=x.toNat by omega]
  simp
theorem Za:∀ l:List UInt8,(I1 l).length=2 * l.length
 | []=>rfl
 | x::l=>by
  show (Ip (x.toNat / 16)::Ip (x.toNat % 16)::I1 l).length=_
  rw[List.length_cons,List.length_cons,Za l,List.length_cons];omega
theorem Afv (l:List UInt8) (h:l.length≤1600):Eg (L5 l)=(l,true):=by
 rw[L5]
 by_cases h0:l=[]
 ·rw[if_pos h0,Eg,if_pos rfl,h0]
 ·rw[if_neg h0]
  have hl:=Za l
  have hp:0<l.length:=List.length_pos_iff.2 h0
  have hs:(mkT (I1 l)).size=2 * l.length:=by rw[Cf,hl]
  have h45:¬ (mkT (I1 l)).data.toList=[45]:=fun e=>by
   rw[B9]at e
   have:=congrArg List.length e
   rw[hl]at this
   simp at this
   omega
  rw[Eg,if_neg h45,if_neg (by rw[hs];omega),B9,Va]
theorem T6:∀ l:List Bool,(Dd l).map Jp=l
 | []=>rfl
 | b::l=>by
  show Jp (if b=true then 49 else 48)::(Dd l).map Jp=b::l
  rw[T6 l]
  cases b<;>rfl
theorem Ye (l:List Bool):upL (Bj l)=l∧Wm l.length (Bj l)=true:=by
 have h1:upL (Bj l)=l:=by
  rw[Bj]
  by_cases h0:l=[]
  ·rw[if_pos h0,h0];rfl
  ·rw[if_neg h0,upL,B9,if_neg,T6]
   intro e
   match l,h0 with
   | b::l,_ =>
    have:(if b=true then (49:UInt8) else 48)=45:=(List.cons.inj e).1
    cases b<;>cases this
 refine⟨h1,?_⟩
 rw[Wm,h1]
 have h2:(Bj l == ⟨#[]⟩)=false:=by
  cases hb:(Bj l == ⟨#[]⟩) with
  | false=>rfl
  | true =>
   have e:=(H5 _ _).1 hb
   rw[Bj]at e
   split at e
   ·cases e
   ·rename_i h0
    have e2:=congrArg (fun s:ByteArray=>s.data.toList.length) e
    dsimp only at e2
    rw[B9,Dd,List.length_map]at e2
    exact absurd (List.eq_nil_of_length_eq_zero e2) h0
 rw[h2,(H5 _ _).2 rfl,decide_eq_true rfl]
 rfl
theorem Yk {n:Net} (hk:NameK n) (hr:Ac n=true) {i:Int} (hi:0≤i∧i.toNat<n.ports.length):Bc (Js n (Bp n i)) n.ports=i:=by
 have h:=Aa4 hk hr hi
 rw[U8,if_pos ⟨⟨hi.1,by omega⟩,hr⟩]at h
 exact h
theorem Zh {n:Net} (hk:NameK n) (hr:Ac n=true) {i:Int} (hi:0≤i∧i.toNat<n.domains.length):((I3 n (Ca n i):Nat):Int)=i:=by
 have hit:((i.toNat:Nat):Int)=i:=Int.toNat_of_nonneg hi.1
 have e:I3 n (Ca n i)=i.toNat:=by
  refine Ab1 hi.2 (fun k hk2=>?_) ?_
  ·cases hc:(Ca n (k:Int) == Ca n i) with
   | false=>rfl
   | true =>
    have h1:=(H5 _ _).1 hc
    have h2:=Vt hk hr (i:=(k:Int)) ⟨by omega,by simpa using Nat.lt_trans hk2 hi.2⟩
    rw[h1,Vt hk hr hi]at h2
    omega
  ·rw[hit]
   exact(H5 _ _).2 E
 rw[e,hit]
theorem Agw:kindI vInject=1:=by decide +kernel
theorem k_pick:kindI vPick=2:=by decide +kernel
theorem k_drop:kindI vDrop=3:=by decide +kernel
theorem k_tick:kindI H8=4:=by decide +kernel
theorem Aio:kindI vLinks=5:=by decide +kernel
theorem X6 {n:Net} (hk:NameK n) (hr:Ac n=true) {x:StepM} (hx:(siteRowT n x).2=true) (hb:x.bytes.length≤1600) :
  (10:UInt8)∉(siteRowT n x).1.data.toList∧∃ y,stepT n (siteRowT n x).1=(y,0)∧AlikeM x y:=by
 have step3:∀ {w:List ByteArray} {a b c:ByteArray} ,w=[a,b,c]→nth w 0=a∧nth w 1=b∧nth w 2=c∧w.length=3:=by
  rintro w a b c rfl
  exact⟨E,E,E,E⟩
 rw[siteRowT]at hx ⊢
 by_cases h1:x.kind=1
 ·rw[if_pos h1]at hx ⊢
  split at hx
  ·rename_i hp
   rw[if_pos hp]
   have hpp:0≤x.port∧x.port.toNat<n.ports.length:=by
    simp only[Ah,Bool.and_eq_true,decide_eq_true_eq]at hp
    omega
   obtain ⟨c1,c2⟩:=Qe (l:=[vInject,Bp n x.port,L5 x.bytes]) y_ (by
    intro w hw
    simp only[List.mem_cons,List.not_mem_nil,or_false]at hw
    rcases hw with rfl | rfl | rfl
    ·unfold E2;decide
    ·exact Acb hk hr hpp
    ·exact Ae3 _)
   refine⟨c2,⟨1,x.port,0,0,x.bytes,[]⟩,?_,⟨h1,fun _=>⟨E,E⟩,fun h=>by omega,fun h=>by omega⟩⟩
   dsimp only
   rw[stepT,c1]
   obtain ⟨w0,w1,w2,wl⟩:=step3 (w:=[vInject,Bp n x.port,L5 x.bytes]) rfl
   generalize [vInject,Bp n x.port,L5 x.bytes]=w at *
   rw[w0,w1,w2,wl,Agw,Yk hk hr hpp,Afv _ hb]
   rw[if_neg j_,if_neg j_,if_pos rfl,if_neg q_]
   rfl
  ·cases hx
 rw[if_neg h1]at hx ⊢
 have pd:∀ (verb:ByteArray) (k:Int),E2 verb→kindI verb=k→(k=2∨k=3)→x.kind=k→(!(Ca n x.domain == ⟨#[]⟩) && Zw x.at_)=true →
   (10:UInt8)∉(Ci [verb,Ca n x.domain,Cn x.at_] ⟨#[32]⟩).data.toList∧∃ y,stepT n (Ci [verb,Ca n x.domain,Cn x.at_] ⟨#[32]⟩)=(y,0)∧AlikeM x y:=by
  intro verb k hc hkk hk2 hxk hok
  rw[Bool.and_eq_true]at hok
  have hdd:0≤x.domain∧x.domain.toNat<n.domains.length:=by
   have h:=hok.1
   rw[Ca]at h
   split at h
   ·rename_i hh;have:=hh.1;omega
   ·rw[(H5 _ _).2 rfl]at h;cases h
  have hat:0≤x.at_∧x.at_≤999999999:=by simpa [Zw] using hok.2
  obtain ⟨c1,c2⟩:=Qe (l:=[verb,Ca n x.domain,Cn x.at_]) y_ (by
   intro w hw
   simp only[List.mem_cons,List.not_mem_nil,or_false]at hw
   rcases hw with rfl | rfl | rfl
   ·exact hc
   ·exact Ae4 hk hr hdd
   ·exact Ae2 hat.1)
  refine⟨c2,⟨k,0,x.domain,x.at_,[],[]⟩,?_,⟨hxk,fun h=>by omega,fun _=>⟨E,E⟩,fun h=>by omega⟩⟩
  have hf:=Zh hk hr hdd
  have hf2:I3 n (Ca n x.domain)≠n.domains.length:=by omega
  rw[stepT,c1]
  obtain ⟨w0,w1,w2,wl⟩:=step3 (w:=[verb,Ca n x.domain,Cn x.at_]) rfl
  generalize [verb,Ca n x.domain,Cn x.at_]=w at *
  rw[w0,w1,w2,wl,hkk,Vc (lo:=0) (hi:=999999999) hat.1 q_ hat.1 hat.2,hf]
  rw[if_neg q_,if_neg (by rcases hk2 with rfl | rfl<;>decide),if_neg q_,if_pos hk2,if_neg hf2,if_neg y_]
 by_cases h2:x.kind=2
 ·rw[if_pos h2]at hx ⊢
  exact pd vPick 2 (by unfold E2;decide) k_pick (.inl E) h2 hx
 rw[if_neg h2]at hx ⊢
 by_cases h3:x.kind=3
 ·rw[if_pos h3]at hx ⊢
  exact pd vDrop 3 (by unfold E2;decide) k_drop (.inr E) h3 hx
 rw[if_neg h3]at hx ⊢
 by_cases h4:x.kind=4
 ·rw[if_pos h4]at hx ⊢
  refine⟨by decide,⟨4,0,0,0,[],[]⟩,?_,⟨h4,fun h=>by omega,fun h=>by omega,fun h=>by omega⟩⟩
  have hs:A2 32 H8=[H8]:=by decide +kernel
  have w0:nth [H8] 0=H8:=rfl
  dsimp only
  rw[stepT,hs,w0,k_tick]
  rfl
 rw[if_neg h4]at hx ⊢
 by_cases h5:x.kind=5
 ·rw[if_pos h5]at hx ⊢
  have hul:x.up.length=n.links.length:=of_decide_eq_true hx
  obtain ⟨c1,c2⟩:=Qe (l:=[vLinks,Bj x.up]) y_ (by
   intro w hw
   simp only[List.mem_cons,List.not_mem_nil,or_false]at hw
   rcases hw with rfl | rfl
   ·unfold E2;decide
   ·exact Xj _)
  refine⟨c2,⟨5,0,0,0,[],x.up⟩,?_,⟨h5,fun h=>by omega,fun h=>by omega,fun _=>rfl⟩⟩
  obtain ⟨u1,u2⟩:=Ye x.up
  rw[hul]at u2
  dsimp only
  rw[stepT,c1]
  have w0:nth [vLinks,Bj x.up] 0=vLinks:=rfl
  have w1:nth [vLinks,Bj x.up] 1=Bj x.up:=rfl
  have wl:[vLinks,Bj x.up].length=2:=rfl
  generalize [vLinks,Bj x.up]=w at *
  rw[w0,w1,wl,Aio,u1,u2]
  rfl
 ·rw[if_neg h5]at hx;cases hx
theorem U3:∀ (p cur r:List UInt8),(10:UInt8)∉p→B8 cur (p++10::r)=mkT (cur++p)::B8 [] r
 | [],cur,r,_=>by rw[List.nil_append,B8,if_pos rfl,List.append_nil]
 | c::p,cur,r,h=>by
  rw[List.cons_append,B8,if_neg (fun e=>h (by simp[e])),U3 p (cur++[c]) r (fun hm=>h (by simp[hm])),List.append_assoc]
  rfl
theorem Sr {n:Net}:∀ l:List StepM,(∀ x∈l,(10:UInt8)∉(siteRowT n x).1.data.toList)→B8 [] (Dm n l)=l.map (fun x=>(siteRowT n x).1)
 | [],_=>rfl
 | x::l,h=>by
  have e:Dm n (x::l)=(siteRowT n x).1.data.toList++10::Dm n l:=by
   rw[Dm,List.flatMap_cons,Aib,List.append_assoc];rfl
  rw[e,U3 _ _ _ (h x y_),Sr l (fun y hy=>h y (by simp[hy])),List.nil_append,D5]
  rfl
theorem Sx {n:Net} (hk:NameK n) (hr:Ac n=true):∀ (l:List StepM) (i:Nat) (out:List StepM),(∀ x∈l,(siteRowT n x).2=true∧x.bytes.length≤1600) →
  ∃ m,Bk n i out (l.map (fun x=>(siteRowT n x).1))=(out++m,0,0)∧m.length=l.length∧∀ (j:Nat) (h1:j<l.length) (h2:j<m.length),AlikeM l[j] m[j]
 | [],i,out,_=>⟨[],by simp[Bk],rfl,fun j h1 _=>by cases h1⟩
 | x::l,i,out,h=>by
  obtain ⟨_,y,hy,ha⟩:=X6 hk hr (h x y_).1 (h x y_).2
  obtain ⟨m,h1,h2,h3⟩:=Sx hk hr l (i+1) (out++[y]) (fun z hz=>h z (by simp[hz]))
  refine⟨y::m,?_,by rw[List.length_cons,List.length_cons,h2],fun j k1 k2=>?_⟩
  ·rw[List.map_cons,Bk,hy,if_pos rfl,h1,List.append_assoc]
   rfl
  ·cases j with
   | zero=>exact ha
   | succ j=>exact h3 j (by simpa using k1) (by simpa using k2)
theorem Sv {n:Net} (hk:NameK n) {l:List StepM} (hb:∀ x∈l,x.bytes.length≤1600) (h:(printT n l).2=0) :
  ∃ m,parseT n (printT n l).1=(m,0,0)∧m.length=l.length∧∀ (j:Nat) (h1:j<l.length) (h2:j<m.length),AlikeM l[j] m[j]:=by
 rw[printT]at h ⊢
 split at h
 ·cases h
 rename_i hr
 rw[if_neg hr]
 have hr:Ac n=true:=by simpa using hr
 split at h
 ·cases h
 rename_i hall
 rw[if_neg hall]
 have hall:∀ x∈l,(siteRowT n x).2=true:=by
  have:l.all (S3 n)=true:=by simpa using hall
  exact fun x hx=>List.all_eq_true.1 this x hx
 split at h
 ·cases h
 rename_i hfew
 rw[if_neg hfew]
 have hrows:=Sr (n:=n) l (fun x hx=>(X6 hk hr (hall x hx) (hb x hx)).1)
 obtain ⟨m,h1,h2,h3⟩:=Sx hk hr l 0 [] (fun x hx=>⟨hall x hx,hb x hx⟩)
 refine⟨m,?_,h2,h3⟩
 dsimp only
 have hrt:rowsT (Dm n l)=(l.map (fun x=>(siteRowT n x).1),0):=by
  rw[rowsT,if_neg (fun h=>hfew (.inr h)),hrows,if_neg (by rw[List.length_map];exact fun h=>hfew (.inl h))]
 rw[parseT,if_neg (by rw[hr];decide),hrt,if_neg (fun h=>h rfl),h1]
 rfl
theorem Ah8 {n:Net} (hr:Ac n=true) {s:ByteArray} (h:(stepT n s).2=0):(siteRowT n (stepT n s).1).2=true∧(stepT n s).1.bytes.length≤1600:=by
 rw[stepT]at h ⊢
 generalize A2 32 s=w at *
 split at h
 ·cases h
 rename_i h1
 rw[if_neg h1]
 split at h
 ·cases h
 rename_i h2
 rw[if_neg h2]
 split at h
 ·rename_i k1
  rw[if_pos k1]
  split at h
  ·cases h
  rename_i h3
  rw[if_neg h3]
  split at h
  ·cases h
  rename_i h4
  rw[if_neg h4]
  dsimp only
  have hlt:=M6 (Js n (nth w 1)) n.ports
  have hpl:Ah (Bc (Js n (nth w 1)) n.ports) n.ports.length=true:=by
   simp only[Ah,Bool.and_eq_true,decide_eq_true_eq]
   omega
  refine⟨by rw[siteRowT,if_pos E,if_pos hpl],?_⟩
  have h4:(Eg (nth w 2)).2=true:=by simpa using h4
  rw[Eg]at h4 ⊢
  split
  ·simp
  rename_i g1
  rw[if_neg g1]at h4
  split
  ·simp
  rename_i g2
  rw[if_neg g2]at h4
  cases hp:Bl (nth w 2).data.toList with
  | none=>simp
  | some b =>
   have:=Ee _ _ (Nat.le_refl _) b hp
   have e:(nth w 2).data.toList.length=(nth w 2).size:=rfl
   dsimp only
   omega
 rename_i k1
 rw[if_neg k1]
 split at h
 ·rename_i k2
  rw[if_pos k2]
  split at h
  ·cases h
  rename_i h3
  rw[if_neg h3]
  split at h
  ·cases h
  rename_i h4
  rw[if_neg h4]
  dsimp only
  refine⟨?_,by simp⟩
  have hlt:I3 n (nth w 1)<n.domains.length:=by
   have:I3 n (nth w 1)≤(List.range n.domains.length).length:=List.findIdx_le_length
   rw[List.length_range]at this
   omega
  have hdt:(Ca n ((I3 n (nth w 1):Nat):Int) == ⟨#[]⟩)=false:=by
   cases hc:(Ca n ((I3 n (nth w 1):Nat):Int) == ⟨#[]⟩) with
   | false=>rfl
   | true =>
    have e:=congrArg (fun s:ByteArray=>s.data.toList) ((H5 _ _).1 hc)
    dsimp only at e
    rw[Ca,if_pos ⟨⟨by omega,by omega⟩,hr⟩,Hi]at e
    have e2:=congrArg List.length e
    rw[List.length_append,List.length_cons]at e2
    simp at e2
  have h4:(numR (nth w 2) 0 999999999).2=true:=by simpa using h4
  have hat:Zw (numR (nth w 2) 0 999999999).1=true:=by
   rw[numR]at h4 ⊢
   split at h4
   ·cases h4
   rename_i g1
   rw[if_neg g1]
   split at h4
   ·cases h4
   rename_i g2
   rw[if_neg g2]
   split at h4
   ·cases h4
   rename_i g3
   rw[if_neg g3]
   split at h4
   ·rename_i g4
    rw[if_pos g4]
    simp only[Zw,Bool.and_eq_true,decide_eq_true_eq]
    omega
   ·cases h4
  rw[siteRowT]
  dsimp only
  rw[if_neg k1]
  rcases k2 with e | e
  ·rw[if_pos e,hdt,hat];rfl
  ·rw[if_neg q_,if_pos e,hdt,hat];rfl
 rename_i k2
 rw[if_neg k2]
 split at h
 ·rename_i k3
  rw[if_pos k3]
  exact⟨E,by simp⟩
 rename_i k3
 rw[if_neg k3]
 split at h
 ·cases h
 rename_i k4
 rw[if_neg k4]
 dsimp only
 refine⟨?_,by simp⟩
 have k4:Wm n.links.length (nth w 1)=true:=by simpa using k4
 rw[Wm]at k4
 simp only[Bool.and_eq_true]at k4
 exact k4.2
theorem S0 {n:Net} (hr:Ac n=true):∀ (rs:List ByteArray) (i:Nat) (out:List StepM),(∀ x∈out,(siteRowT n x).2=true∧x.bytes.length≤1600) →
  ((Bk n i out rs).2.2=0→∀ x∈(Bk n i out rs).1,(siteRowT n x).2=true∧x.bytes.length≤1600)∧((Bk n i out rs).2.2≠0→(Bk n i out rs).1=[]∧0<(Bk n i out rs).2.1)
 | [],i,out,h=>⟨fun _=>h,fun hne=>absurd rfl hne⟩
 | r::rs,i,out,h=>by
  rw[Bk]
  by_cases he:(stepT n r).2=0
  ·rw[if_pos he]
   exact S0 hr rs (i+1) _ (fun x hx=>by
    rcases List.mem_append.1 hx with hx | hx
    ·exact h x hx
    ·rw[List.mem_singleton.1 hx];exact Ah8 hr he)
  ·rw[if_neg he]
   exact⟨fun h0=>absurd h0 he,fun _=>⟨E,by dsimp only;omega⟩⟩
theorem Ym {n:Net} (hr:Ac n=true) (b:List UInt8) :
  ((parseT n b).2.2≠0→(parseT n b).1=[]∧(0<(parseT n b).2.1∨(parseT n b).2.2=3)) ∧
  ((parseT n b).2.2=0→(∀ x∈(parseT n b).1,x.bytes.length≤1600)∧((printT n (parseT n b).1).2=3∨(printT n (parseT n b).1).2=0)):=by
 rw[parseT,if_neg (by rw[hr];decide)]
 by_cases h:(rowsT b).2≠0
 ·rw[if_pos h]
  refine⟨fun _=>⟨E,.inr ?_⟩,fun h0=>absurd h0 h⟩
  dsimp only
  rw[rowsT]at h ⊢
  split
  ·rfl
  rename_i g1
  rw[if_neg g1]at h
  split
  ·rfl
  rename_i g2
  rw[if_neg g2]at h
  exact absurd E h
 ·rw[if_neg h]
  obtain ⟨p1,p2⟩:=S0 hr (rowsT b).1 0 [] (fun x hx=>by cases hx)
  refine⟨fun hne=>⟨(p2 hne).1,.inl (p2 hne).2⟩,fun h0=>?_⟩
  have p1:=p1 h0
  refine⟨fun x hx=>(p1 x hx).2,?_⟩
  generalize (Bk n 0 [] (rowsT b).1).1=m at *
  rw[printT,if_neg (by rw[hr];decide),if_neg]
  ·split
   ·exact .inl E
   ·exact .inr E
  ·have:m.all (S3 n)=true:=List.all_eq_true.2 (fun x hx=>(p1 x hx).1)
   rw[this];decide
end Go.Sy.YtjenpnjajjplkaaGreatDoor
namespace Go.Sy
theorem Ag9 {P:Program} {o:Oper} {s:SS} {x y:Operand} {at_:Array TypeId} {k k':IntKind} {m n:Int} (h:o.op=.call ⟨.builtin .max,#[x,y],at_⟩)
  (hx:ev s x=.val (.int k m)) (hy:ev s y=.val (.int k' n)):Good P o s ⟨.val (.int k (if n>m then n else m)),[],[]⟩ :=
 Good.pure fun κ a w _ hr ho=>by
  have h1:=hr x (by simp[h,Op.operands,Call.operands])
  have h2:=hr y (by simp[h,Op.operands,Call.operands])
  rw[hx]at h1
  rw[hy]at h2
  refine⟨.int k (if n>m then n else m),?_,by simp[Rd]⟩
  simp[execOp,h,resolve,invoke,builtin,Builtin.max_,Builtin.max2,h1.val,h2.val]
end Go.Sy
namespace Go.Sy.YtjenpnjajjplkaaGreatDoor
open Go.Proofs
attribute [local irreducible] Go.Sy.G Go.Sy.DR
set_option maxRecDepth 100000
set_option maxHeartbeats 4000000
theorem Dh {f:List Int} (hf:Bw f) {i:Int} (h0:0≤i) (hi:i.toNat<f.length):0≤nth f i∧nth f i≤i:=by
 rw[Am hi]
 have:=hf i.toNat hi
 omega
theorem Hz {f:List Int} (hf:Bw f) {i:Nat} (_hi:i<f.length) {x:Int} (h0:0≤x) (hx:x≤i):Bw (f.set i x):=by
 intro k hk
 rw[List.length_set]at hk
 rw[List.getElem_set]
 split
 ·rename_i e;subst e;exact⟨h0,hx⟩
 ·exact hf k hk
theorem U0:∀ (m k k':Nat) (f:List Int) (i:Int),Bw f→0≤i→i.toNat<f.length→i.toNat≤m→i.toNat+1≤k→i.toNat+1≤k'→Xu k f i=Xu k' f i
 | m,0,_,_,_,_,_,_,_,h,_=>by omega
 | m,_+1,0,_,_,_,_,_,_,_,h=>by omega
 | m,k+1,k'+1,f,i,hf,h0,hi,hm,h1,h2=>by
  rw[Xu,Xu]
  by_cases e:nth f i=i
  ·rw[if_pos e,if_pos e]
  ·rw[if_neg e,if_neg e]
   obtain ⟨a1,a2⟩:=Dh hf h0 hi
   obtain ⟨b1,b2⟩:=Dh hf a1 (by omega:(nth f i).toNat<f.length)
   match m with
   | 0=>omega
   | m+1 =>
    exact U0 m k k' _ _ (Hz hf hi b1 q_) b1 (by rw[List.length_set];omega) q_ q_ q_
theorem Acn {f:List Int} {i:Int} (h:nth f i=i):E3 f i=(f,i):=by rw[E3,Xu,if_pos h]
theorem Xt {f:List Int} {i:Int} (hf:Bw f) (h0:0≤i) (hi:i.toNat<f.length) (h:nth f i≠i):E3 f i=E3 (f.set i.toNat (nth f (nth f i))) (nth f (nth f i)):=by
 obtain ⟨a1,a2⟩:=Dh hf h0 hi
 obtain ⟨b1,b2⟩:=Dh hf a1 (by omega:(nth f i).toNat<f.length)
 rw[E3,Xu,if_neg h,E3]
 exact U0 i.toNat _ _ _ _ (Hz hf hi b1 q_) b1 (by rw[List.length_set];omega) q_ q_ q_
theorem Iu:∀ (m:Nat) (f:List Int) (i:Int),Bw f→0≤i→i.toNat<f.length→i.toNat≤m→Bw (E3 f i).1∧(E3 f i).1.length=f.length∧0≤(E3 f i).2∧(E3 f i).2≤i
 | m,f,i,hf,h0,hi,hm=>by
  by_cases e:nth f i=i
  ·rw[Acn e];exact⟨hf,rfl,h0,Int.le_refl _⟩
  ·obtain ⟨a1,a2⟩:=Dh hf h0 hi
   obtain ⟨b1,b2⟩:=Dh hf a1 (by omega:(nth f i).toNat<f.length)
   rw[Xt hf h0 hi e]
   match m with
   | 0=>omega
   | m+1 =>
    obtain ⟨c1,c2,c3,c4⟩:=Iu m _ _ (Hz hf hi b1 q_) b1 (by rw[List.length_set];omega:(nth f (nth f i)).toNat<(f.set i.toNat (nth f (nth f i))).length) q_
    exact⟨c1,by rw[c2,List.length_set],c3,by omega⟩
theorem Tg {f:List Int} {a b:Int} (hf:Bw f) (ha:0≤a∧a.toNat<f.length) (hb:0≤b∧b.toNat<f.length):Bw (Lu f a b).1∧(Lu f a b).1.length=f.length:=by
 obtain ⟨a1,a2,a3,a4⟩:=Iu a.toNat f a hf ha.1 ha.2 (Nat.le_refl _)
 obtain ⟨b1,b2,b3,b4⟩:=Iu b.toNat (E3 f a).1 b a1 hb.1 q_ (Nat.le_refl _)
 unfold Lu
 dsimp only
 generalize E3 (E3 f a).1 b=y at *
 generalize E3 f a=x at *
 refine⟨Hz b1 q_ q_ q_,by rw[List.length_set];omega⟩
theorem Xn (k:Nat):Bw (H6 k)∧(H6 k).length=k:=by
 refine⟨fun i hi=>?_,by simp[H6]⟩
 simp[H6]
def alJ (k j:Nat):List Int:=(List.range j).map (fun i:Nat=>(i:Int))++List.replicate (k-j) 0
theorem Aht (k:Nat):alJ k 0=List.replicate k 0:=by simp[alJ]
theorem Ai5 (k j:Nat) (h:j≤k):(alJ k j).length=k:=by simp[alJ];omega
theorem Ahu (k j:Nat) (h:j<k):(alJ k j).set ((j:Nat):Int).toNat (j:Int)=alJ k (j+1):=by
 have hl:((List.range j).map (fun i:Nat=>(i:Int))).length=j:=by simp
 rw[Int.toNat_natCast,alJ,alJ,List.set_append_right _ _ q_,hl,Nat.sub_self,show k-j=(k-(j+1))+1 by omega,List.replicate_succ,List.set_cons_zero,List.range_succ,List.map_append,List.append_assoc]
 rfl
theorem aloneS (k:Nat) (hk:k≤100000):Sy.Spec Tryz.prog 65 [Aa k] [] (.osl 900) [(900,.row 1 Aa (H6 k))]:=cT F65 Tryz.ntmps65 fun F hF=>by
 have hfull:alJ k k=H6 k:=by simp[alJ,H6]
 refine T ?_
 refine X (Kl Γ.toTy (d:=6) (n:=k) Aa 0 E E E E E E E E q_ q_ E E E) ?_
 refine T ?_
 refine B0 (fun j:Nat=>j≤k) (fun j=>[(3,.osl 1000),(8,Aa k),(9,Aa j)]) (fun j=>[(1000,.row 1 Aa (alJ k j))]) (fun j=>k-j) 0 [(1000,6)] q_ ⟨⟨E,E,congrArg Aa (by rw[List.length_replicate]),E,E,E,Y⟩,⟨.inl (congrArg (Ob.row 1 Aa) (Aht k)),E,Y⟩,E,E⟩ ?_
 intro j hj
 have hl:=Ai5 k j hj
 refine T ?_
 refine⟨fun h=>?_,fun h=>?_⟩
 ·have hlt:j<k:=qA h
  clear h
  have hne:alJ k j≠[]:=fun e=>by rw[e]at hl;simp at hl;omega
  have hnx:=Ahu k j hlt
  refine T ?_
  refine⟨(j:Int),E,E,?_⟩
  refine T ?_
  exact A4 (j+1) [] hlt q_ ⟨⟨E,E,E,E,E,E,Y⟩,⟨.inl (congrArg (Ob.row 1 Aa) hnx.symm),E,Y⟩,E,E⟩
 ·have hje:j=k:=qB h
  clear h
  subst hje
  rw[hfull]
  refine T ?_
  exact done E (.cons .tmp .nil) [(900,1000)] [(900,.row 1 Aa (H6 j))] (fun _ h=>h) E E U
theorem Ads (l:List Int) (h0:0<l.length) (hl:l.length<2147483648):Sy.Spec Tryz.prog 67 [.sl 1 Aa l] [] (Aa (Yv l)) []:=cT F67 Tryz.ntmps67 fun F hF=>by
 have f0:decide ((l.length:Int)<1)=false:=decide_eq_false q_
 have hz:(0:Int).toNat<l.length:=h0
 have hst:Yv l=Uj (l[(0:Int).toNat]'hz) (l.drop 1):=by rw[Yv,Am hz]
 refine T ?_
 refine B0 (fun x:Nat × Int=>1≤x.1∧x.1≤l.length∧Yv l=Uj x.2 (l.drop x.1)) (fun x=>[(0,.sl 1 Aa l),(3,Aa x.2),(4,Aa x.1)]) (fun _=>[]) (fun x=>l.length-x.1) (1,l[(0:Int).toNat]'hz) [] ⟨by omega,by omega,hst⟩ U ?_
 rintro ⟨i,m⟩ ⟨h1,h2,hI⟩
 dsimp only at h1 h2 hI ⊢
 refine T ?_
 refine⟨fun h=>?_,fun h=>?_⟩
 ·have hlt:i<l.length:=qA h
  have hlt0:((i:Nat):Int).toNat<l.length:=hlt
  clear h
  rw[List.drop_eq_getElem_cons hlt,Uj]at hI
  refine T ?_
  refine X (Oa E E E) ?_
  exact A4 (i+1,min m l[i]) [] ⟨by dsimp only;omega,hlt,hI⟩ (by dsimp only;omega) ⟨⟨E,E,congrArg Aa (by dsimp only;show min m l[i]=if l[i]<m then l[i] else m;omega),E,E,E,Y⟩,Y,E,E⟩
 ·have hie:i=l.length:=qB h
  clear h
  rw[hie,List.drop_length,Uj]at hI
  rw[hI]
  refine T ?_
  exact D
theorem topS (f:List Int) (i:Int) (hf:Bw f) (h0:0≤i) (hi:i.toNat<f.length) (hl:f.length≤100000):Sy.Spec Tryz.prog 169 [.osl 900,Aa i] [(900,.row 1 Aa f)] (Aa (E3 f i).2) [(900,.row 1 Aa (E3 f i).1)]:=cT F169 Tryz.ntmps169 fun F hF=>by
 refine T ?_
 refine B0 (fun x:List Int × Int=>Bw x.1∧x.1.length=f.length∧0≤x.2∧x.2.toNat<f.length∧E3 f i=E3 x.1 x.2) (fun x=>[(0,.osl 900),(1,Aa x.2)]) (fun x=>[(900,.row 1 Aa x.1)]) (fun x=>x.2.toNat) (f,i) [] ⟨hf,E,h0,hi,E⟩ U ?_
 rintro ⟨g,k⟩ ⟨h1,h2,h3,h4,hI⟩
 dsimp only at h1 h2 h3 h4 hI ⊢
 have hk0:k.toNat<g.length:=by omega
 have hn:=Am hk0
 by_cases e:nth g k=k
 ·have hb:(g[k.toNat] == k)=true:=by rw[← hn];exact beq_iff_eq.mpr e
  have hb':(!(g[k.toNat] == k))=false:=by rw[hb];rfl
  rw[hI,Acn e]
  refine T ?_
  exact done E (.cons .tmp .nil) [(900,900)] [(900,.row 1 Aa g)] (fun _ h=>h) E E U
 ·obtain ⟨a1,a2⟩:=Dh h1 h3 hk0
  obtain ⟨b1,b2⟩:=Dh h1 a1 (by omega:(nth g k).toNat<g.length)
  have hk1:(g[k.toNat]'hk0).toNat<g.length:=by omega
  have hn1:nth g (nth g k)=g[(g[k.toNat]'hk0).toNat]'hk1:=by rw[hn];exact Am hk1
  have hs:=Xt h1 h3 hk0 e
  have hb:(g[k.toNat] == k)=false:=by rw[← hn];exact beq_eq_false_iff_ne.mpr e
  have hb':(!(g[k.toNat] == k))=true:=by rw[hb];rfl
  refine T ?_
  refine⟨nth g (nth g k),congrArg (fun x=>cellsOf (Aa x)) hn1,E,?_⟩
  have hk2:k.toNat<(g.set k.toNat (nth g (nth g k))).length:=by rw[List.length_set];exact hk0
  have hn2:(g.set k.toNat (nth g (nth g k)))[k.toNat]'hk2=nth g (nth g k):=List.getElem_set_self _
  refine T ?_
  refine A4 (g.set k.toNat (nth g (nth g k)),nth g (nth g k)) [] ⟨Hz h1 hk0 b1 q_,by dsimp only;rw[List.length_set];exact h2,b1,by dsimp only;omega,by dsimp only;rw[hI,hs]⟩ (by dsimp only;omega) ⟨⟨E,E,congrArg Aa hn2.symm,E,Y⟩,⟨.inl E,E,Y⟩,E,E⟩
theorem Ajg (f:List Int) (a b:Int) (hf:Bw f) (ha:0≤a∧a.toNat<f.length) (hb:0≤b∧b.toNat<f.length) (hl:f.length≤100000):Sy.Spec Tryz.prog 68 [.osl 900,Aa a,Aa b] [(900,.row 1 Aa f)] (Ab (Lu f a b).2) [(900,.row 1 Aa (Lu f a b).1)]:=cT F68 Tryz.ntmps68 fun F hF=>by
 obtain ⟨a1,a2,a3,a4⟩:=Iu a.toNat f a hf ha.1 ha.2 (Nat.le_refl _)
 obtain ⟨b1,b2,b3,b4⟩:=Iu b.toNat (E3 f a).1 b a1 hb.1 q_ (Nat.le_refl _)
 have F1:=topS f a hf ha.1 ha.2 hl
 have F2:=topS (E3 f a).1 b a1 hb.1 q_ q_
 rw[Lu]
 dsimp only
 generalize hy:E3 (E3 f a).1 b=y at *
 generalize hx:E3 f a=x at *
 have hm:(if y.2>x.2 then y.2 else x.2).toNat<y.1.length:=by split<;>omega
 have hm0:0≤(if y.2>x.2 then y.2 else x.2):=by split<;>omega
 have e1:(max x.2 y.2).toNat=(if y.2>x.2 then y.2 else x.2).toNat:=by rw[Int.max_def];split<;>split<;>omega
 have e2:(min x.2 y.2)=(if y.2<x.2 then y.2 else x.2):=by rw[Int.min_def];split<;>split<;>omega
 rw[e1,e2]
 refine T ?_
 refine X (Ad [(900,900)] E F169 F1 E W E V) ?_
 refine T ?_
 refine X (Ad [(900,900)] E F169 F2 E W E V) ?_
 refine T ?_
 refine X (Ag9 E E E) ?_
 refine T ?_
 refine X (Oa E E E) ?_
 refine T ?_
 refine⟨_,E,E,?_⟩
 refine T ?_
 exact done E (.cons .tmp .nil) [(900,900)] [(900,.row 1 Aa (y.1.set (if y.2>x.2 then y.2 else x.2).toNat (if y.2<x.2 then y.2 else x.2)))] (fun _ h=>h) E E U
theorem M3 {n:Net} {i:Nat} {v:Int} (h:(linkDomT n i v).2=true) (hi:i<n.ports.length):Co n.ports[i] v=true:=by
 have e:nth n.ports ((i:Nat):Int)=n.ports[i]:=Am (l:=n.ports) (i:=((i:Nat):Int)) hi
 unfold linkDomT at h
 split at h
 ·rename_i h3
  unfold crossT at h3
  split at h3
  ·rename_i h4
   rw[e]at h4
   exact h4.2.1
  ·cases h3
 ·cases h
theorem Lp {n:Net} (hr:Ac n=true) {f:List Int} {i:Nat} (hi:i<n.ports.length) {v:Int} (hf:Bw f) (hl:n.domains.length≤f.length):Bw (B7 n f i v)∧(B7 n f i v).length=f.length:=by
 unfold B7
 split
 ·rename_i h
  have h2:=Kd h
  have hm:Co n.ports[i] v=true:=M3 h hi
  have h3:=Tv hr hi hm
  have e:nth n.ports ((i:Nat):Int)=n.ports[i]:=Am (l:=n.ports) (i:=((i:Nat):Int)) hi
  rw[e]
  exact Tg hf ⟨h3.1,by omega⟩ ⟨h2.1,by omega⟩
 ·exact⟨hf,E⟩
theorem Ey {α:Type} {g:List Int→α→List Int} {k:Nat}:∀ {l:List α} {f:List Int},(∀ a∈l,∀ f,Bw f→k≤f.length→Bw (g f a)∧(g f a).length=f.length)→Bw f→k≤f.length→Bw (l.foldl g f)∧(l.foldl g f).length=f.length
 | [],_,_,h,_=>⟨h,rfl⟩
 | a::l,f,hg,h,hk=>by
  obtain ⟨h1,h2⟩:=hg a y_ f h hk
  obtain ⟨h3,h4⟩:=Ey (l:=l) (fun b hb=>hg b (by simp[hb])) h1 (by omega:k≤(g f a).length)
  exact⟨h3,by rw[List.foldl_cons,h4,h2]⟩
theorem Kc {n:Net} (hr:Ac n=true) {f:List Int} {i:Nat} (hi:i<n.ports.length) (hf:Bw f) (hl:n.domains.length≤f.length):Bw (Dr n f i)∧(Dr n f i).length=f.length :=
 Ey (fun _ _ _ h1 h2=>Lp hr hi h1 h2) hf hl
theorem Wv {n:Net} (hr:Ac n=true) {f:List Int} (hf:Bw f) (hl:n.domains.length≤f.length):Bw (Kx n f)∧(Kx n f).length=f.length :=
 Ey (fun i hi _ h1 h2=>Kc hr (by simpa using hi) h1 h2) hf hl
theorem Xh (l:List Int) (hl:l.length<2147483648):Sy.Spec Tryz.prog 159 [.sl 1 Aa l] [] (.osl 0) [(0,.row 1 Aa l)]:=cT F159 Tryz.ntmps159 fun F hF=>by
 ((conv=>whnf);repeat((first|refine aF ?_|refine aT ?_);(first|refine rG Γ hm ?_|refine rD Γ hm z_ ?_);conv=>whnf))
 refine D3 E (.inl E) E E E .sl E E ?_
 intro b hb
 cases b
 ·((first|refine rG Γ hm ?_|refine rD Γ hm z_ ?_);(conv=>whnf);repeat((first|refine aF ?_|refine aT ?_);(first|refine rG Γ hm ?_|refine rD Γ hm z_ ?_);conv=>whnf))
  refine Aw (Al Γ.toTy 7 E E E E E (.lit (e:=Aa) (l:=[]) E E) .sl y_ (by simp;omega) (by simp;omega)) E E ?_
  ((first|refine rG Γ hm ?_|refine rD Γ hm z_ ?_);(conv=>whnf);repeat((first|refine aF ?_|refine aT ?_);(first|refine rG Γ hm ?_|refine rD Γ hm z_ ?_);conv=>whnf))
  exact done E (.cons .tmp .nil) [(0,7)] [(0,.row 1 Aa l)] (fun _ h=>h) E E ⟨Y,⟨.inl E,E,Y⟩,E,E⟩
 ·have h0:l=[]:=List.eq_nil_of_length_eq_zero (hb rfl)
  subst h0
  ((first|refine rG Γ hm ?_|refine rD Γ hm z_ ?_);(conv=>whnf);repeat((first|refine aF ?_|refine aT ?_);(first|refine rG Γ hm ?_|refine rD Γ hm z_ ?_);conv=>whnf))
  refine Cb 2 1000 1 Aa E E ?_
  exact done E (.cons .tmp .nil) [(0,1000)] [(0,.row 1 Aa [])] (fun _ h=>h) E E ⟨Y,⟨.inl E,E,Y⟩,E,E⟩
theorem Aim (n:Net) (f:List Int) (hn:n.Fin) (hr:Ac n=true) (hf:Bw f) (hl:n.domains.length≤f.length) (hl2:f.length≤100000):Sy.Spec Tryz.prog 66 [Aj n,.osl 900] [(900,.row 1 Aa f)] (.tup []) [(900,.row 1 Aa (Kx n f))]:=cT F66 Tryz.ntmps66 fun F hF=>by
 have hp:n.ports.length<2147483648:=hn.ports
 refine T ?_
 refine A6 2 8 (Aj n) E E E ?_
 refine T ?_
 refine Dk n.ports.length (fun j=>[(1,.osl 900),(2,.ref 8 (Aj n) 0),(11,.sl 7 Au n.ports),(12,Aa n.ports.length),(13,Aa j)]) (fun j=>[(900,.row 1 Aa ((List.range j).foldl (Dr n) f))]) [] U ?_
 intro j hj
 refine T ?_
 refine⟨fun h=>?_,fun h=>?_⟩
 ·have hlt:j<n.ports.length:=qA h
  have hj0:((j:Nat):Int).toNat<n.ports.length:=hlt
  clear h
  have htag:n.ports[((j:Nat):Int).toNat].tagged.length<2147483648:=hn.tagged _ (List.getElem_mem hj0)
  have htag2:n.ports[j].tagged.length<2147483648:=htag
  have hnp:nth n.ports ((j:Nat):Int)=n.ports[((j:Nat):Int).toNat]:=Am hj0
  obtain ⟨g1,g2⟩:Bw ((List.range j).foldl (Dr n) f)∧((List.range j).foldl (Dr n) f).length=f.length:=Ey (fun i hi _ h1 h2=>Kc hr (by have:=List.mem_range.1 hi;omega) h1 h2) hf hl
  refine T ?_
  refine Xd (Ad [(0,60)] E F159 (Xh n.ports[((j:Nat):Int).toNat].tagged htag) E Y E ⟨.inr E,Y⟩) ?_
  refine T ?_
  refine Xd (Al Γ.toTy 61 rfl rfl rfl rfl rfl (.row rfl) (.lit (e:=Aa) (l:=[n.ports[((j:Nat):Int).toNat].native]) rfl rfl) (by intro k hk;cases hk;decide) (by simp;omega) (by simp;omega)) ?_
  refine T ?_
  refine A6 5 7 (Au n.ports[((j:Nat):Int).toNat]) E E E ?_
  have hlen:(n.ports[((j:Nat):Int).toNat].tagged++[n.ports[((j:Nat):Int).toNat].native]).length=n.ports[((j:Nat):Int).toNat].tagged.length+1:=by simp
  refine T ?_
  obtain ⟨vl,hvl⟩:∃ vl,n.ports[((j:Nat):Int).toNat].tagged++[n.ports[((j:Nat):Int).toNat].native]=vl:=⟨_,rfl⟩
  have hvlen:vl.length<2147483649:=by rw[← hvl,hlen];omega
  obtain ⟨fj,hfj⟩:∃ fj,(List.range j).foldl (Dr n) f=fj:=⟨_,rfl⟩
  rw[hfj]at g1 g2
  refine Dk vl.length (fun i=>[(1,.osl 900),(2,.ref 8 (Aj n) 0),(4,Aa j),(5,.ref 7 (Au n.ports[((j:Nat):Int).toNat]) 0),(11,.sl 7 Au n.ports),(12,Aa n.ports.length),(13,Aa j),(24,.osl 1000),(25,Aa vl.length),(26,Aa i)])
   (fun i=>[(900,.row 1 Aa ((vl.take i).foldl (fun f v=>B7 n f j v) fj)),(1000,.row 1 Aa vl)]) [(1000,61)] ⟨⟨rfl,rfl,rfl,rfl,rfl,rfl,rfl,rfl,rfl,rfl,rfl,rfl,rfl,rfl,rfl,rfl,congrArg (fun l:List Int=>Aa l.length) hvl.symm,rfl,rfl,rfl,trivial⟩,⟨.inl (congrArg (Ob.row 1 Aa) hfj.symm),rfl,.inl (congrArg (Ob.row 1 Aa) hvl.symm),rfl,trivial⟩,rfl,rfl⟩ ?_
  intro i hi
  refine T ?_
  refine⟨fun h=>?_,fun h=>?_⟩
  ·have hit:i<vl.length:=qA h
   have hi0:((i:Nat):Int).toNat<vl.length:=hit
   clear h
   obtain ⟨e1,e2⟩:Bw ((vl.take i).foldl (fun f v=>B7 n f j v) fj)∧((vl.take i).foldl (fun f v=>B7 n f j v) fj).length=fj.length:=Ey (fun _ _ _ h1 h2=>Lp hr hlt h1 h2) g1 q_
   have hnx:(vl.take (i+1)).foldl (fun f v=>B7 n f j v) fj=B7 n ((vl.take i).foldl (fun f v=>B7 n f j v) fj) j (vl[((i:Nat):Int).toNat]'hi0):=by
    rw[List.take_succ_eq_append_getElem hit,List.foldl_append];rfl
   have q:=Wu n hn j (vl[((i:Nat):Int).toNat]'hi0)
   refine T ?_
   refine C q F167 ?_
   cases hb:(linkDomT n j (vl[((i:Nat):Int).toNat]'hi0)).2
   ·have hz:B7 n ((vl.take i).foldl (fun f v=>B7 n f j v) fj) j (vl[((i:Nat):Int).toNat]'hi0)=(vl.take i).foldl (fun f v=>B7 n f j v) fj:=by rw[B7,if_neg (by rw[hb];decide)]
    rw[hz]at hnx
    refine T ?_
    exact Dx [] q_ ⟨⟨E,E,E,E,E,E,E,E,E,E,E,E,E,E,E,E,E,E,E,E,Y⟩,⟨.inl (congrArg (Ob.row 1 Aa) hnx),E,.inl E,E,Y⟩,E,E⟩
   ·have hin:=Kd hb
    have hm:Co (n.ports[((j:Nat):Int).toNat]'hj0) (vl[((i:Nat):Int).toNat]'hi0)=true:=M3 hb hlt
    have hdm:=Tv hr hlt hm
    have q2:=Em n hn hr (n.ports[((j:Nat):Int).toNat]'hj0).dev (vl[((i:Nat):Int).toNat]'hi0)
    have hz:B7 n ((vl.take i).foldl (fun f v=>B7 n f j v) fj) j (vl[((i:Nat):Int).toNat]'hi0)=(Lu ((vl.take i).foldl (fun f v=>B7 n f j v) fj) (Bz n (n.ports[((j:Nat):Int).toNat]'hj0).dev (vl[((i:Nat):Int).toNat]'hi0)) (linkDomT n j (vl[((i:Nat):Int).toNat]'hi0)).1).1:=by rw[B7,if_pos hb,hnp]
    rw[hz]at hnx
    have q3:=Ajg ((vl.take i).foldl (fun f v=>B7 n f j v) fj) (Bz n (n.ports[((j:Nat):Int).toNat]'hj0).dev (vl[((i:Nat):Int).toNat]'hi0)) (linkDomT n j (vl[((i:Nat):Int).toNat]'hi0)).1 e1 ⟨hdm.1,Nat.lt_of_lt_of_le hdm.2 q_⟩ ⟨hin.1,by omega⟩ q_
    refine T ?_
    refine C q2 F168 ?_
    refine T ?_
    refine X (Ad [(900,900)] E F68 q3 E W E V) ?_
    refine T ?_
    exact Dx [] q_ ⟨⟨E,E,E,E,E,E,E,E,E,E,E,E,E,E,E,E,E,E,E,E,Y⟩,⟨.inl (congrArg (Ob.row 1 Aa) hnx),E,.inl E,E,Y⟩,E,E⟩
  ·have hie:i=vl.length:=qB h
   clear h
   subst hie
   have hnx:(List.range (j+1)).foldl (Dr n) f=(vl.take vl.length).foldl (fun f v=>B7 n f j v) fj:=by
    rw[List.range_succ,List.foldl_append,hfj,List.take_length,← hvl]
    show Dr n fj j=_
    rw[Dr,hnp]
   refine T ?_
   exact Dx [] q_ ⟨⟨E,E,E,E,E,E,E,E,E,E,Y⟩,⟨.inl (congrArg (Ob.row 1 Aa) hnx),E,Y⟩,E,E⟩
 ·have hje:j=n.ports.length:=qB h
  clear h
  subst hje
  refine T ?_
  exact Ez E .nil [(900,900)] [(900,.row 1 Aa (Kx n f))] (fun _ h=>h) E E U
end Go.Sy.YtjenpnjajjplkaaGreatDoor
namespace Go.Sy.YtjenpnjajjplkaaGreatDoor
open Go.Proofs
attribute [local irreducible] Go.Sy.G Go.Sy.DR
set_option maxRecDepth 100000
set_option maxHeartbeats 4000000
theorem Acu:∀ (l:List Int) (m:Int),Uj m l=m∨Uj m l∈l
 | [],_=>.inl rfl
 | x::l,m=>by
  rw[Uj]
  rcases Acu l (min m x) with h | h
  ·rw[h,Int.min_def]
   split
   ·exact .inl E
   ·exact .inr y_
  ·exact .inr (by simp[h])
theorem Ail {l:List Int} (h:l≠[]):Yv l∈l:=by
 match l,h with
 | x::l,_ =>
  show Uj (nth (x::l) 0) l∈x::l
  rw[show nth (x::l) 0=x from rfl]
  rcases Acu l x with h | h
  ·rw[h];simp
  ·simp[h]
theorem loopS (n:Net) (hn:n.Fin):Sy.Spec Tryz.prog 24 [Aj n] [] (.tup [Aa (loopT n).1,Ab (loopT n).2]) []:=cT F24 Tryz.ntmps24 fun F hF=>by
 have qn:=Bd n hn
 have hT:=loopT.eq_1 n
 generalize loopT n=res at *
 cases hr:Ac n with
 | false =>
  rw[hr]at qn
  rw[hr,if_pos rfl]at hT
  subst hT
  refine T ?_
  refine C qn F25 ?_
  refine T ?_
  exact D
 | true =>
 rw[hr]at qn
 rw[hr,if_neg y_]at hT
 obtain ⟨_,_,_,hmany,_⟩:=Ac8 hr
 obtain ⟨fa1,fa2⟩:=Xn (2 * n.domains.length)
 have fl:=Wv hr fa1 q_
 have q1:=aloneS (2 * n.domains.length) q_
 rw[show ((2 * n.domains.length:Nat):Int)=2 * (n.domains.length:Int) from by omega]at q1
 have q2:=Aim n (H6 (2 * n.domains.length)) hn hr fa1 q_ q_
 refine T ?_
 refine C qn F25 ?_
 refine A6 1 8 (Aj n) E E E ?_
 refine T ?_
 refine X (Ad [(900,700)] E F65 q1 E W E V) ?_
 refine T ?_
 refine X (Ad [(900,700)] E F66 q2 E W E V) ?_
 refine T ?_
 refine B0 (fun x:Nat × List Int=>x.1≤n.domains.length∧Bw x.2∧x.2.length=2 * n.domains.length∧res=Je n x.2 x.1 (n.domains.drop x.1)) (fun x=>[(1,.ref 8 (Aj n) 0),(4,Aa n.domains.length),(5,.osl 1000),(22,.sl 6 Af n.domains),(23,Aa n.domains.length),(24,Aa x.1)])
  (fun x=>[(1000,.row 1 Aa x.2)]) (fun x=>n.domains.length-x.1) (0,Kx n (H6 (2 * n.domains.length))) [(1000,700)] ⟨by omega,fl.1,by dsimp only;rw[fl.2,fa2],hT⟩ U ?_
 rintro ⟨i,f⟩ ⟨h1,h2,h3,hI⟩
 dsimp only at h1 h2 h3 hI ⊢
 refine T ?_
 refine⟨fun h=>?_,fun h=>?_⟩
 ·have hlt:i<n.domains.length:=qA h
  have hi0:((i:Nat):Int).toNat<n.domains.length:=hlt
  clear h
  rw[List.drop_eq_getElem_cons hlt,Je]at hI
  have hpl:n.domains[((i:Nat):Int).toNat].peers.length<2147483648:=hn.peers _ (List.getElem_mem hi0)
  refine T ?_
  refine⟨fun h=>?_,fun h=>?_⟩
  ·have hpe:n.domains[i].peers=[]:=List.eq_nil_of_length_eq_zero (by have:=eq_of_beq h;have e:(n.domains[((i:Nat):Int).toNat]'hi0).peers.length=n.domains[i].peers.length:=rfl;omega)
   clear h
   rw[if_pos hpe]at hI
   refine T ?_
   exact A4 (i+1,f) [] ⟨hlt,h2,h3,hI⟩ (by dsimp only;omega) ⟨⟨E,E,E,E,E,E,E,E,E,E,E,E,Y⟩,⟨.inl E,E,Y⟩,E,E⟩
  have hpe:n.domains[i].peers≠[]:=fun e=>by
   have e2:(n.domains[((i:Nat):Int).toNat]'hi0).peers=[]:=e
   rw[e2]at h
   cases h
  clear h
  rw[if_neg hpe]at hI
  dsimp only at hI
  have hpm:=Ahf hr hlt (Ail hpe)
  have qm:=Ads (n.domains[((i:Nat):Int).toNat]'hi0).peers (by have:=List.length_pos_iff.2 hpe;exact this) hpl
  obtain ⟨m,hm⟩:∃ m,Yv (n.domains[((i:Nat):Int).toNat]'hi0).peers=m:=⟨_,rfl⟩
  have hm':Yv n.domains[i].peers=m:=hm
  have emin:min (i:Int) m=if m<(i:Int) then m else (i:Int):=by rw[Int.min_def];split<;>split<;>omega
  rw[hm]at qm
  rw[hm']at hI hpm
  rw[emin]at hI
  have hmb:0≤(if m<(i:Int) then m else (i:Int))∧(if m<(i:Int) then m else (i:Int))<n.domains.length:=by split<;>omega
  have q3:=Ajg f i ((n.domains.length:Int)+(if m<(i:Int) then m else (i:Int))) h2 ⟨by omega,by omega⟩ ⟨by omega,by omega⟩ q_
  have q3f:=Tg h2 (⟨by omega,by omega⟩:0≤(i:Int)∧(i:Int).toNat<f.length) (⟨by omega,by omega⟩:0≤(n.domains.length:Int)+(if m<(i:Int) then m else (i:Int))∧((n.domains.length:Int)+(if m<(i:Int) then m else (i:Int))).toNat<f.length)
  have hb48:(n.domains.length:Int)+(if m<(i:Int) then m else (i:Int))<100:=by omega
  generalize (Lu f i ((n.domains.length:Int)+(if m<(i:Int) then m else (i:Int))))=r at *
  obtain ⟨g,ok⟩:=r
  dsimp only at hI q3f
  refine T ?_
  refine C qm F67 ?_
  refine T ?_
  refine X (Oa E E E) ?_
  refine T ?_
  refine X (Ad [(900,1000)] E F68 q3 E W E V) ?_
  cases ok with
  | false =>
   rw[if_pos rfl]at hI
   rw[hI]
   refine T ?_
   exact D
  | true =>
   rw[if_neg j_]at hI
   refine T ?_
   exact A4 (i+1,g) [] ⟨hlt,q3f.1,by dsimp only;omega,hI⟩ (by dsimp only;omega) ⟨⟨E,E,E,E,E,E,E,E,E,E,E,E,Y⟩,⟨.inl E,E,Y⟩,E,E⟩
 ·have hie:i=n.domains.length:=qB h
  clear h
  rw[hie,List.drop_length,Je]at hI
  rw[hI]
  refine T ?_
  exact D
def Mi (dn lk:Int) (M:List LineM) (n:Net) (row e:Int):List SV:=[.val (.int .u32 dn),.val (.int .i32 lk),.val (.int .u32 0),.sl 17 Ap M]++B5 n++[Aa row,Aa e]
def C8 (dn lk:Int) (M:List LineM) (x:Net × Int × Int):Obs:=[(0,.box (Mi dn lk M x.1 x.2.1 x.2.2))]
theorem Agl {n:Net} (h:(meshNT n).2.2=0):(meshNT n).2.1=0:=by
 unfold meshNT at h ⊢
 split
 ·rfl
 rename_i h1
 rw[if_neg h1]at h
 split at h
 ·cases h
 ·rename_i h2
  split at h
  ·cases h
  ·rename_i h3
   rw[if_neg h3]
theorem Aau (M:List LineM) (hM:∀ l∈M,LineW l) (hl:M.length<2147483648) (dn lk:Int):Sy.Spec Tryz.prog 112 [.ptr 0 0] (C8 dn lk M (emptyN,0,0)) (.tup []) (C8 dn lk M (B6 M)):=cT F112 Tryz.ntmps112 fun F hF=>by
 refine T ?_
 refine B0 (fun x:Nat × Net=>x.1≤M.length∧x.2.Fin∧D0 x.2∧B6 M=Bn x.2 (M.drop x.1)) (fun x=>[(0,.ptr 0 0),(9,.sl 17 Ap M),(10,Aa M.length),(11,Aa x.1)]) (fun x=>C8 dn lk M (x.2,0,0)) (fun x=>M.length-x.1) (0,emptyN) [] ⟨by omega,Hl,(fun x hx=>by cases hx),rfl⟩ U ?_
 rintro ⟨j,n⟩ ⟨hj,hn,ha,hI⟩
 dsimp only at hj hn ha hI ⊢
 refine T ?_
 refine⟨fun h=>?_,fun h=>?_⟩
 ·have hlt:j<M.length:=qA h
  have hj0:((j:Nat):Int).toNat<M.length:=hlt
  clear h
  have hw:=hM _ (List.getElem_mem hj0)
  have q:=Aik n hn ha _ hw
  have hp:=Acq hn ha hw
  rw[List.drop_eq_getElem_cons hlt,Bn]at hI
  refine T ?_
  refine cD q F206 ?_
  refine T ?_
  refine⟨fun h=>?_,fun h=>?_⟩
  ·have hne:(putT n (M[((j:Nat):Int).toNat]'hj0)).2≠0:=by intro e;rw[e]at h;cases h
   have he:=hp.none hne
   have hI2:B6 M=(emptyN,(M[((j:Nat):Int).toNat]'hj0).row,(putT n (M[((j:Nat):Int).toNat]'hj0)).2):=hI.trans (if_pos hne)
   rw[hI2,← he]
   clear h
   refine T ?_
   exact done E .nil [] (C8 dn lk M ((putT n (M[((j:Nat):Int).toNat]'hj0)).1,(M[((j:Nat):Int).toNat]'hj0).row,(putT n (M[((j:Nat):Int).toNat]'hj0)).2)) (fun _ h=>h) E E U
  ·have he:(putT n (M[((j:Nat):Int).toNat]'hj0)).2=0:=by simpa using h
   have hI2:B6 M=Bn (putT n (M[((j:Nat):Int).toNat]'hj0)).1 (M.drop (j+1)):=hI.trans (if_neg (fun hh=>hh he))
   clear h
   refine T ?_
   exact A4 (j+1,(putT n (M[((j:Nat):Int).toNat]'hj0)).1) [] ⟨hlt,hp.fin,hp.addrs,hI2⟩ (by dsimp only;omega) ⟨⟨E,E,E,E,E,E,E,E,Y⟩,⟨.inl (congrArg (fun e:Int=>Ob.box (Mi dn lk M (putT n (M[((j:Nat):Int).toNat]'hj0)).1 0 e)) he.symm),E,Y⟩,E,E⟩
 ·have hje:j=M.length:=qB h
  clear h
  rw[hje,List.drop_length,Bn]at hI
  rw[hI]
  have qm:=meshS n hn
  have hf:=finishT.eq_1 n
  refine T ?_
  refine C qm F23 ?_
  refine T ?_
  refine⟨fun h=>?_,fun h=>?_⟩
  ·have hne:(meshNT n).2.2≠0:=by intro e;rw[e]at h;cases h
   rw[if_pos hne]at hf
   rw[hf]
   clear h
   refine T ?_
   exact done E .nil [] (C8 dn lk M (meshNT n)) (fun _ h=>h) E E U
  have he:(meshNT n).2.2=0:=by simpa using h
  clear h
  have hrow:(meshNT n).2.1=0:=Agl he
  rw[if_neg (by rw[he];decide)]at hf
  have ql:=loopS (meshNT n).1 (Ve hn)
  refine T ?_
  refine C ql F24 ?_
  refine T ?_
  refine⟨fun h=>?_,fun h=>?_⟩
  ·rw[if_pos h]at hf
   rw[hf]
   clear h
   refine T ?_
   refine Ag 0 (Mi dn lk M emptyN (loopT (meshNT n).1).1 38) E (.cons (.refl _) (.cons (.refl _) (.cons (.refl _) (.cons (.refl _) (.cons .nil (.cons .nil (.cons .nil (.cons .nil (.cons .nil (.cons .nil (.cons .nil (.cons .nil (.cons (.refl _) (.cons (.refl _) .nil)))))))))))))) ?_
   exact Ez E .nil [] (C8 dn lk M (emptyN,(loopT (meshNT n).1).1,38)) (fun _ h=>h) E E U
  ·rw[if_neg (by rw[h];decide)]at hf
   rw[hf]
   clear h
   refine T ?_
   exact Ez E .nil [] (C8 dn lk M ((meshNT n).1,0,0)) (fun _ h=>h) E E ⟨Y,⟨.inl (congrArg (fun a:Int × Int=>Ob.box (Mi dn lk M (meshNT n).1 a.1 a.2)) (Prod.ext hrow.symm he.symm:((0:Int),(0:Int))=(meshNT n).2)),E,Y⟩,E,E⟩
theorem Acw (a:Addr) (x:Int) (w:World) (hc:w.cell? a=some (.int .u32 x)):(callFunc 276 #[.pointer (some a)]).run Tryz.prog w=.ok (.value (.int .u32 x)) w :=
 run_call_load Tryz.func276 z_ z_ z_ .u32 z_ hc
theorem Lj (w:World):(callFunc 396 #[]).run Tryz.prog w=.ok (.value (.tuple #[])) w:=run_call_mark0 Tryz.func396 z_ z_ z_ .disable z_ w
theorem Mr (w:World):(callFunc 398 #[]).run Tryz.prog w=.ok (.value (.tuple #[])) w:=run_call_mark0 Tryz.func398 z_ z_ z_ .enable z_ w
theorem Uf (a:Addr) (w:World):(callFunc 399 #[.pointer (some a)]).run Tryz.prog w=.ok (.value (.tuple #[])) w:=run_call_marked Tryz.func399 z_ z_ z_ .acquire z_ a w
theorem Ue (a:Addr) (w:World):(callFunc 401 #[.pointer (some a)]).run Tryz.prog w=.ok (.value (.tuple #[])) w:=run_call_marked Tryz.func401 z_ z_ z_ .releaseMerge z_ a w
theorem Q9 (a:Addr) (x:Value) (u:FrameMode) (w:World) (hc:w.cell? a=some x) (hz:w.frozen? a=false) :
  CallsD Tryz.prog 279 #[.pointer (some a),.bool true] u w fun e u' w'=>u'=u∧(e=.returned (.tuple #[])∧w'=w.drew.setCell a (.int .u32 1)):=by
 have hc':w.drew.cell? a=some x:=by go_simp
 have hz':w.drew.frozen? a=false:=by go_simp
 have hst:=run_call_store (P:=Tryz.prog) Tryz.func335 z_ z_ z_ z_ (k:=.u32) (y:=1) hc' hz'
 go_enter_d Tryz.func279,Tryz.ntmps279
 go_wp2
 go_region_calls
 all_goals (go_end0;exact⟨rfl,rfl⟩)
theorem Oy (a:Addr) (u:FrameMode) (w:World) (hc:w.cell? a=some (.int .i32 1)) (hz:w.frozen? a=false) :
  CallsD Tryz.prog 278 #[.pointer (some a)] u w fun e u' w'=>u'=u∧(e=.returned (.tuple #[])∧w'=w.setCell a (.int .i32 0)):=by
 have hd:=Lj
 have he:=Mr
 have hr:=Ue
 have hadd:=run_call_add (P:=Tryz.prog) Tryz.func402 z_ z_ z_ .i32 z_ (y:=-1) (s:=0) hc hz (by simp[go_sem];rfl)
 have hcv:=run_convert_to_unsafe (P:=Tryz.prog) (src:=388) (dst:=380) Tryz.underlying388 Tryz.underlying380 z_ hc
 go_enter_d Tryz.func278,Tryz.ntmps278
 go_wp2
 go_end0
 go_wp2
 go_end0
 exact⟨E,E⟩
theorem Abk (a:Addr) (w:World) (hc:w.cell? a=some (.int .i32 0)) (hz:w.frozen? a=false) :
  Calls Tryz.prog 277 #[.pointer (some a)] w fun e w'=>e=.returned (.tuple #[])∧w'=w.setCell a (.int .i32 1):=by
 have hd:=Lj
 have he:=Mr
 have ha:=Uf
 have hcas:=run_call_cas_hit (P:=Tryz.prog) Tryz.func397 z_ z_ z_ .i32 z_ (y:=1) hc hz
 have hc':(w.setCell a (.int .i32 1)).cell? a=some (.int .i32 1):=World.cell?_setCell_same w a _ hc
 have hcv:=run_convert_to_unsafe (P:=Tryz.prog) (src:=388) (dst:=380) Tryz.underlying388 Tryz.underlying380 z_ hc'
 go_enter Tryz.func277,Tryz.ntmps277
 go_wp2
 first | go_end0 | (simp only[Exit.inBlock,Exit.then];refine bodyPost_ret (results_none rfl _ _ _) rfl ?_) | refine bodyPost_ret (results_none rfl _ _ _) rfl ?_
 go_wp2
 go_end0
 exact⟨E,E⟩
theorem Ctx.behindN {K:Nat→Prop} {κ κ2:Ka} {w w1 w2:World} (s:Step K κ w κ w1) (c:Ctx ⟨w1,κ,[]⟩ κ2 w2):Ctx ⟨w,κ,[]⟩ κ2 w2 where
 size:=Nat.le_trans s.size c.size
 os:=c.os.trans s.os
 tape:=c.tape.trans s.tape
 output:=c.output.trans s.output
 M:=c.M
 old:=fun b hb h=>by
  refine(c.old b (Nat.lt_of_lt_of_le hb s.size) h).trans ?_
  by_cases hm:κ.M b
  ·exact s.mkeep b hm
  ·exact s.blk b hb (fun ho=>by
    rcases ho with ⟨k,hk⟩ | ho
    ·exact h k hk
    ·exact hm ho)
 own:=fun k b hk=>by
  rcases c.own k b hk with h | h
  ·exact .inl (Nat.le_trans s.size h)
  ·exact .inr h
 nam:=c.nam
theorem Ab6 {κ:Ka} {w:World} (hi:Inv κ w):Step (fun _=>False) κ w κ w.drew∧Inv κ w.drew:=by
 have g:=Grew.drew w
 exact⟨⟨g.size,g.os,g.tape,g.output,E,fun b _=>rfl,fun b _ _=>rfl,fun _ _ _ _=>rfl,fun _ _=>rfl,fun _ h=>h.elim,fun _ h=>.inl h⟩,⟨hi.inj,hi.bnd,hi.apart,hi.mbnd⟩⟩
theorem Adu (M:List LineM) (hM:∀ l∈M,LineW l) (hl:M.length<2147483648) :
  Sy.Spec Tryz.prog 205 [.ptr 0 0,.clo (.func 112) [.ptr 0 0] []] (C8 0 0 M (emptyN,0,0)) (.tup []) (C8 1 0 M (B6 M)):=by
 intro κ w vs hi hnew hvs hok
 have o1:=hok (0,.box (Mi 0 0 M emptyN 0 0)) (by simp[C8])
 obtain ⟨b,e1,c1,c2,st1,inv1,ob1⟩:=Ih (off:=1) (x:=.val (.int .i32 1)) (v:=.int .i32 1) hi o1 rfl (fun _ _=>by simp only[Rd]) rfl
 simp only[RdL,Rd,e1]at hvs
 obtain ⟨v0,r0,rfl,rfl,v1,r1,rfl,⟨fs,cs,rfl,hfs,hcs⟩,rfl⟩:=hvs
 obtain ⟨p3,q3,rfl,rfl,rfl⟩:=hfs
 subst hcs
 have hcl:=Aau M hM hl 0 1 κ (w.setCell ⟨b,1,none⟩ (.int .i32 1)) [.pointer (some ⟨b,0,none⟩)] inv1 hnew (by simp only[RdL,Rd,e1];exact⟨_,_,rfl,rfl,rfl⟩) (fun p hp=>by
  simp only[C8,List.mem_cons,List.not_mem_nil,or_false]at hp
  rw[hp]
  exact ob1)
 obtain ⟨u1,hu1,hr1⟩:=c1 0 (.val (.int .u32 0)) rfl
 obtain ⟨u2,hu2,hr2⟩:=c1 1 (.val (.int .i32 0)) rfl
 rw[hr1.val]at hu1
 rw[hr2.val]at hu2
 have f1:=c2 0 (show 0<14 by decide)
 have f2:=c2 1 (show 1<14 by decide)
 have hl:=Acw ⟨b,0,none⟩ 0 (w.setCell ⟨b,1,none⟩ (.int .i32 1)) ((World.cell?_setCell_other _ ⟨b,1,none⟩ ⟨b,0,none⟩ _ y_).trans hu1)
 have hnot:∀ (x:Bool) (w:World),(Op.unary .not (.bool x)).run Tryz.prog w=.ok (.bool (!x)) w:=fun _ _=>rfl
 go_enter_defers Tryz.func205,Tryz.ntmps205
 go_wp2_with (first | (go_at_call 277;refine(Abk ⟨b,1,none⟩ _ (by assumption) (by assumption)).mono ?_;rintro e w' ⟨rfl,rfl⟩) | (go_at_call 112;refine hcl.mono ?_;rintro e w' ⟨v,κ2,rfl,hc2,hi2,hv2,ok2⟩) | (go_at_call 204;go_in))
 have p1:=ok2 (0,.box (Mi 0 1 M (B6 M).1 (B6 M).2.1 (B6 M).2.2)) (by simp[C8])
 have k1:κ2 0=.blk b:=by
  obtain ⟨bb,_,_,_,q1,_⟩:=id p1
  rcases hc2.nam 0 (by rw[e1];intro h;cases h) with h | h
  ·rw[h];exact e1
  ·rw[h]at q1;cases q1
 obtain ⟨ba,a1,a2,a3,_,_,_⟩:=Ih (off:=0) (x:=.val (.int .u32 1)) (v:=.int .u32 1) hi2 p1 rfl (fun _ _=>by simp only[Rd]) rfl
 rw[k1]at a1
 cases a1
 obtain ⟨std,invd⟩:=Ab6 hi2
 have p2:=ObOK.step std (k:=0) (fun h=>h) _ p1
 obtain ⟨ba,a1,_,_,st3,inv3,ob3⟩:=Ih (off:=0) (x:=.val (.int .u32 1)) (v:=.int .u32 1) invd p2 rfl (fun _ _=>by simp only[Rd]) rfl
 rw[k1]at a1
 cases a1
 have ob3:ObOK κ2 (w'.drew.setCell ⟨b,0,none⟩ (.int .u32 1)) 0 (.box (Mi 1 1 M (B6 M).1 (B6 M).2.1 (B6 M).2.2)):=ob3
 obtain ⟨ba,a1,a4,a5,st4,inv4,ob4⟩:=Ih (off:=1) (x:=.val (.int .i32 0)) (v:=.int .i32 0) inv3 ob3 rfl (fun _ _=>by simp only[Rd]) rfl
 rw[k1]at a1
 cases a1
 have ob4:ObOK κ2 ((w'.drew.setCell ⟨b,0,none⟩ (.int .u32 1)).setCell ⟨b,1,none⟩ (.int .i32 0)) 0 (.box (Mi 1 0 M (B6 M).1 (B6 M).2.1 (B6 M).2.2)):=ob4
 obtain ⟨v1,hv1,hr1⟩:=a2 0 (.val (.int .u32 0)) rfl
 rw[hr1.val]at hv1
 obtain ⟨v2,hv2,hr2⟩:=a4 1 (.val (.int .i32 1)) rfl
 rw[hr2.val]at hv2
 refine leaves_cons (f:=279) (args:=#[.pointer (some ⟨b,0,none⟩),.bool true]) y_ (by simp[go_sem]) ?_
 refine(Q9 ⟨b,0,none⟩ (.int .u32 0) .returning _ hv1 (a3 0 (show 0<14 by decide))).mono ?_
 rintro e u' w'' ⟨rfl,rfl,rfl⟩
 refine leaves_cons (f:=278) (args:=#[.pointer (some ⟨b,1,none⟩)]) (by simp[settle]) (by simp[go_sem]) ?_
 refine(Oy ⟨b,1,none⟩ _ _ hv2 (a5 1 (show 1<14 by decide))).mono ?_
 rintro e u' w'' ⟨rfl,rfl,rfl⟩
 have hst:Step (·=0) κ2 w' κ2 ((w'.drew.setCell ⟨b,0,none⟩ (.int .u32 1)).setCell ⟨b,1,none⟩ (.int .i32 0)):=(std.weaken (fun _ h=>h.elim)).trans (st3.trans st4)
 refine⟨.tuple #[],by simp[results,Tryz.results205],.tuple #[],κ2,E,Ctx.behindN st1 (hc2.step inv4 hst),inv4,⟨[],E,E⟩,fun p hp=>?_⟩
 simp only[C8,List.mem_cons,List.not_mem_nil,or_false]at hp
 rw[hp]
 exact ob4
theorem Adw (M:List LineM) (dn lk:Int) (x:Net × Int × Int):Sy.Spec Tryz.prog 204 [.ptr 0 0] (C8 dn lk M x) (Ab (dn != 0)) (C8 dn lk M x):=cT F204 Tryz.ntmps204 fun F hF=>by
 ((conv=>whnf);repeat((first|refine aF ?_|refine aT ?_);(first|refine rG Γ hm ?_|refine rD Γ hm z_ ?_);conv=>whnf))
 refine Aw (Us Acw E E E E) E E ?_
 ((first|refine rG Γ hm ?_|refine rD Γ hm z_ ?_);(conv=>whnf);repeat((first|refine aF ?_|refine aT ?_);(first|refine rG Γ hm ?_|refine rD Γ hm z_ ?_);conv=>whnf))
 exact done E (.cons .tmp .nil) [] (C8 dn lk M x) (fun _ h=>h) E E U
theorem Aia (M:List LineM) (hM:∀ l∈M,LineW l) (hl:M.length<2147483648) :
  Sy.Spec Tryz.prog 111 [.ptr 0 0,.clo (.func 112) [.ptr 0 0] []] (C8 0 0 M (emptyN,0,0)) (.tup []) (C8 1 0 M (B6 M)):=cT F111 Tryz.ntmps111 fun F hF=>by
 have q1:Sy.Spec Tryz.prog 204 [.ptr 0 0] (C8 0 0 M (emptyN,0,0)) (Ab false) (C8 0 0 M (emptyN,0,0)):=Adw M 0 0 (emptyN,0,0)
 have q2:=Adu M hM hl
 ((conv=>whnf);repeat((first|refine aF ?_|refine aT ?_);(first|refine rG Γ hm ?_|refine rD Γ hm z_ ?_);conv=>whnf))
 refine X (Ad [] E F204 q1 E W E V) ?_
 ((first|refine rG Γ hm ?_|refine rD Γ hm z_ ?_);(conv=>whnf);repeat((first|refine aF ?_|refine aT ?_);(first|refine rG Γ hm ?_|refine rD Γ hm z_ ?_);conv=>whnf))
 refine X (Ad [] E F205 q2 E W E V) ?_
 ((first|refine rG Γ hm ?_|refine rD Γ hm z_ ?_);(conv=>whnf);repeat((first|refine aF ?_|refine aT ?_);(first|refine rG Γ hm ?_|refine rD Γ hm z_ ?_);conv=>whnf))
 exact Ez E .nil [] (C8 1 0 M (B6 M)) (fun _ h=>h) E E U
theorem Afr (M:List LineM) (hM:∀ l∈M,LineW l) (hl:M.length<2147483648):Sy.Spec Tryz.prog 33 [.ptr 0 0] (C8 0 0 M (emptyN,0,0)) (.tup [Aj (B6 M).1,Aa (B6 M).2.1,Aa (B6 M).2.2]) (C8 1 0 M (B6 M)):=cT F33 Tryz.ntmps33 fun F hF=>by
 have q:=Aia M hM hl
 refine T ?_
 refine X (Ad [] E F111 q E W E V) ?_
 refine T ?_
 exact done E (.cons (.cell E E E E) (.cons .tmp (.cons .tmp .nil))) [] (C8 1 0 M (B6 M)) (fun _ h=>h) E E U
theorem Aed (M:List LineM) (hM:∀ l∈M,LineW l) (hl:M.length<2147483648):Sy.Spec Tryz.prog 13 [.sl 17 Ap M] [] (.tup [Aj (B6 M).1,Aa (B6 M).2.1,Aa (B6 M).2.2]) []:=cT F13 Tryz.ntmps13 fun F hF=>by
 have q:=Afr M hM hl
 refine T ?_
 refine Ag 8 (Mi 0 0 M emptyN 0 0) E (.cons (.refl _) (.cons (.refl _) (.cons (.refl _) (.cons (.refl _) (.cons .nil (.cons .nil (.cons .nil (.cons .nil (.cons .nil (.cons .nil (.cons .nil (.cons .nil (.cons (.refl _) (.cons (.refl _) .nil)))))))))))))) ?_
 refine X (Ad [(0,8)] E F33 q E W E V) ?_
 refine T ?_
 exact D
end Go.Sy.YtjenpnjajjplkaaGreatDoor
namespace Go.Sy.YtjenpnjajjplkaaGreatDoor
open Go.Proofs
set_option maxHeartbeats 4000000
structure LineR (l:LineM):Prop where
 right:B4 l=true
 ok:LineOK l
 vlan:0≤l.vlan∧l.vlan≤4094
 num:0≤l.num∧l.num≤16777215
 cost:0≤l.cost∧l.cost≤65535
 bits:0≤l.bits∧l.bits≤32
 tagged:Dn l.tagged 4094=true
 imports:Dn l.imports 65535=true
 exports:Dn l.exports 65535=true
 addrs:l.addrs.length≤16
 dev:l.dev.size≤12
 port:l.port.size≤12
 peer:l.peer.size≤12
 far:l.far.size≤12
 name:l.name.size≤12
theorem Aay (l:LineM) (r:Int):B4 { l with row:=r }=B4 l:=by
 by_cases h1:l.kind=1
 ·simp[B4,Ay,Iv,h1]
 by_cases h2:l.kind=2
 ·simp[B4,Ay,Iv,h1,h2]
 by_cases h3:l.kind=3
 ·simp[B4,Ay,Iv,h1,h2,h3]
 by_cases h4:l.kind=4
 ·simp[B4,Ay,Iv,h1,h2,h3,h4]
 by_cases h5:l.kind=5
 ·simp[B4,Ay,Iv,h1,h2,h3,h4,h5]
 by_cases h6:l.kind=6
 ·simp[B4,Ay,Iv,h1,h2,h3,h4,h5,h6]
 by_cases h7:l.kind=7
 ·simp[B4,Ay,Iv,h1,h2,h3,h4,h5,h6,h7]
 by_cases h8:l.kind=8
 ·simp[B4,Ay,Iv,h1,h2,h3,h4,h5,h6,h7,h8]
 by_cases h9:l.kind=9
 ·simp[B4,Ay,Iv,h1,h2,h3,h4,h5,h6,h7,h8,h9]
 simp[B4,Ay,Iv,h1,h2,h3,h4,h5,h6,h7,h8,h9]
theorem LineR.row {l:LineM} (h:LineR l) (r:Int):LineR { l with row:=r } :=
 ⟨by rw[Aay];exact h.right,⟨h.ok.mac,h.ok.addr,h.ok.addrs⟩,h.vlan,h.num,h.cost,h.bits,h.tagged,h.imports,h.exports,h.addrs,h.dev,h.port,h.peer,h.far,h.name⟩
end Go.Sy.YtjenpnjajjplkaaGreatDoor
namespace Go.Sy.YtjenpnjajjplkaaGreatDoor
open Go.Proofs
attribute [local irreducible] Go.Sy.G Go.Sy.DR
set_option maxRecDepth 100000
set_option maxHeartbeats 4000000
theorem Aiv {l:List LineM} (h:linesGreat l=false):∀ x∈l,LineOK x→LineW x:=by
 intro x hx ho
 refine⟨Aew h x hx,ho,?_,?_,?_,?_,?_⟩
 all_goals
  rw[linesGreat]at h
  split at h
  ·cases h
  ·have:=Ke l 0 h x hx
   simp only[Lq,List.forall_mem_cons]at this
   omega
theorem Qs {s:ByteArray} (h:Be s=true):s.size≤12:=by
 simp only[Be,Bool.and_eq_true,decide_eq_true_eq]at h
 exact h.2
theorem Yu {n:Net} (h:NameK n):Hc n:=by
 refine⟨fun d hd=>?_,fun p hp=>?_⟩
 ·obtain ⟨i,hi,rfl⟩:=List.getElem_of_mem hd
  have:=(h.dev i hi).1
  rw[Am (l:=n.devices) (i:=((i:Nat):Int)) hi]at this
  have h2:=Qs this
  show n.devices[i].name.size≤300
  have e:(n.devices[((i:Nat):Int).toNat]'hi).name.size=n.devices[i].name.size:=rfl
  omega
 ·obtain ⟨i,hi,rfl⟩:=List.getElem_of_mem hp
  have:=(h.prt i hi).1
  rw[Am (l:=n.ports) (i:=((i:Nat):Int)) hi]at this
  have h2:=Qs this
  have e:(n.ports[((i:Nat):Int).toNat]'hi).name.size=n.ports[i].name.size:=rfl
  omega
theorem Agd (s:ByteArray):0≤(numR s 0 999999999).1∧(numR s 0 999999999).1≤999999999:=by
 unfold numR
 split
 ·decide
 split
 ·decide
 split
 ·decide
 split
 ·dsimp only;omega
 ·decide
theorem Ah9 (n:Net) (s:ByteArray):0≤(stepT n s).1.at_∧(stepT n s).1.at_≤999999999:=by
 have h:=Agd (nth (A2 32 s) 2)
 unfold stepT
 repeat' split
 all_goals first | exact h | (show (0:Int)≤0∧(0:Int)≤999999999;decide)
theorem S1 (n:Net):∀ (rs:List ByteArray) (i:Nat) (out:List StepM),(∀ x∈out,0≤x.at_∧x.at_≤999999999)→∀ x∈(Bk n i out rs).1,0≤x.at_∧x.at_≤999999999
 | [],i,out,h=>h
 | r::rs,i,out,h=>by
  rw[Bk]
  split
  ·exact S1 n rs (i+1) _ (fun x hx=>by
    rcases List.mem_append.1 hx with hx | hx
    ·exact h x hx
    ·rw[List.mem_singleton.1 hx];exact Ah9 n r)
  ·intro x hx;cases hx
theorem Ad8 (n:Net) (b:List UInt8):∀ x∈(parseT n b).1,0≤x.at_∧x.at_≤999999999:=by
 rw[parseT]
 split
 ·intro x hx;cases hx
 split
 ·intro x hx;cases hx
 ·exact S1 n _ 0 [] (fun x hx=>by cases hx)
theorem alikeS (x y:StepM) (h:AlikeM x y) (hx:x.up.length<1000000):Sy.Spec Tryz.prog 35 [Bm x,Bm y] [] (Ab true) []:=cT F35 Tryz.ntmps35 fun F hF=>by
 obtain ⟨k,p,d,a,bs,u⟩:=x
 obtain ⟨k',p',d',a',bs',u'⟩:=y
 obtain ⟨hk,hi,hp,hu⟩:=h
 dsimp only at hk hi hp hu hx
 subst hk
 have f0:(k != k)=false:=by simp
 by_cases k1:k=1
 ·obtain ⟨e1,e2⟩:=hi k1
  subst e1 e2
  have g1:(k == 1)=true:=by rw[beq_iff_eq];exact k1
  have g2:(p == p)=true:=by simp
  have g3:((⟨bs.toArray⟩:ByteArray) == ⟨bs.toArray⟩)=true:=(H5 _ _).2 rfl
  refine T ?_
  refine X (Cp Γ.toTy (bs:=bs) E E E E E E E .sl) ?_
  refine X (Cp Γ.toTy (bs:=bs) E E E E E E E .sl) ?_
  exact At E (.cons .tmp .nil) (congrArg Ab g3.symm) E
 have g1:(k == 1)=false:=by rw[beq_eq_false_iff_ne];exact k1
 by_cases k2:k=2
 ·obtain ⟨e1,e2⟩:=hp (.inl k2)
  subst e1 e2
  have g2:(k == 2)=true:=by rw[beq_iff_eq];exact k2
  have g3:(d == d)=true:=by simp
  have g4:(a == a)=true:=by simp
  refine T ?_
  exact At E (.cons .tmp .nil) (congrArg Ab g4.symm) E
 have g2:(k == 2)=false:=by rw[beq_eq_false_iff_ne];exact k2
 by_cases k3:k=3
 ·obtain ⟨e1,e2⟩:=hp (.inr k3)
  subst e1 e2
  have g5:(k == 3)=true:=by rw[beq_iff_eq];exact k3
  have g3:(d == d)=true:=by simp
  have g4:(a == a)=true:=by simp
  refine T ?_
  exact At E (.cons .tmp .nil) (congrArg Ab g4.symm) E
 have g5:(k == 3)=false:=by rw[beq_eq_false_iff_ne];exact k3
 by_cases k5:k=5
 ·have e1:=hu k5
  subst e1
  have g6:(k == 5)=true:=by rw[beq_iff_eq];exact k5
  have g7:((u.length:Int) != (u.length:Int))=false:=by simp
  refine T ?_
  refine A6 2 6 (Bm ⟨k,p,d,a,bs,u⟩) E E E ?_
  refine A6 3 6 (Bm ⟨k,p',d',a',bs',u⟩) E E E ?_
  refine B0 (fun j:Nat=>j≤u.length) (fun j=>[(2,.ref 6 (Bm ⟨k,p,d,a,bs,u⟩) 0),(3,.ref 6 (Bm ⟨k,p',d',a',bs',u⟩) 0),(55,Aa u.length),(56,Aa j)]) (fun _=>[]) (fun j=>u.length-j) 0 [] q_ U ?_
  intro j hj
  refine T ?_
  refine⟨fun h=>?_,fun h=>?_⟩
  ·have hlt:j<u.length:=qA h
   have hj0:((j:Nat):Int).toNat<u.length:=hlt
   clear h
   have g8:((u[((j:Nat):Int).toNat]'hj0) != (u[((j:Nat):Int).toNat]'hj0))=false:=by simp
   refine T ?_
   exact A4 (j+1) [] hlt q_ U
  ·refine T ?_
   exact D
 have g6:(k == 5)=false:=by rw[beq_eq_false_iff_ne];exact k5
 refine T ?_
 exact D
theorem Agn (n:Net) (hn:n.Fin) (hnm:Hc n) (l m:List StepM) (b:List UInt8) (hb:b.length<100000) (row:Int) (hp:parseT n b=(m,row,0)) (hlen:m.length=l.length) (hl:l.length<100000) (hu:∀ x∈l,x.up.length<1000000)
  (ha:∀ (j:Nat) (h1:j<l.length) (h2:j<m.length),AlikeM l[j] m[j]) :
  Sy.Spec Tryz.prog 15 [Aj n,.sl 6 Bm l,.sl 1 Ak b] [Ao 900,Bo 901] (Ab true) [Ao 900,Bo 901]:=cT F15 Tryz.ntmps15 fun F hF=>by
 have q1:=Eo n hn hnm b hb
 rw[hp]at q1
 dsimp only at q1
 have f0:((m.length:Int) != (l.length:Int))=false:=by rw[hlen];simp
 refine T ?_
 refine A6 3 8 (Aj n) E E E ?_
 refine X (Ad [(900,900),(901,901)] E F16 q1 E W E V) ?_
 refine B0 (fun j:Nat=>j≤l.length) (fun j=>[(1,.sl 6 Bm l),(7,.sl 6 Bm m),(28,Aa l.length),(29,Aa j)]) (fun _=>[Ao 900,Bo 901]) (fun j=>l.length-j) 0 [] q_ U ?_
 intro j hj
 refine T ?_
 refine⟨fun h=>?_,fun h=>?_⟩
 ·have hlt:j<l.length:=qA h
  have hj0:((j:Nat):Int).toNat<l.length:=hlt
  have hj1:((j:Nat):Int).toNat<m.length:=by rw[hlen];exact hlt
  clear h
  have q:=alikeS (l[((j:Nat):Int).toNat]'hj0) (m[((j:Nat):Int).toNat]'hj1) (ha j hlt (by rw[hlen];exact hlt)) (hu _ (List.getElem_mem hj0))
  refine T ?_
  refine C q F35 ?_
  exact A4 (j+1) [] hlt q_ U
 ·refine T ?_
  exact E0
theorem Ws (M:List LineM) (hM:∀ z∈M,LineOK z) (script:List StepM) (hw:∀ x∈script,El x.at_) (b:List UInt8) :
  Sy.Spec Tryz.prog 3 [.sl 17 Ap M,.sl 6 Bm script,.sl 1 Ak b] [Ao 900,Bo 901] (Ab true) [Ao 900,Bo 901]:=cT F3 Tryz.ntmps3 fun F hF=>by
 have qw:=Aff
 by_cases c0:100<M.length
 ·have f0:decide ((M.length:Int)>100)=true:=decide_eq_true q_
  refine T ?_
  refine X (Ad [(900,900),(901,901)] E F10 qw E W E V) ?_
  exact E0
 have f0:decide ((M.length:Int)>100)=false:=decide_eq_false q_
 have qg:=Y1 M q_
 cases hg:linesGreat M with
 | true =>
  rw[hg]at qg
  refine T ?_
  refine X (Ad [(900,900),(901,901)] E F10 qw E W E V) ?_
  refine C qg F11 ?_
  exact E0
 | false =>
 rw[hg]at qg
 have q33:=Ag6 script
 cases h33:great33B script with
 | true =>
  rw[h33]at q33
  refine T ?_
  refine X (Ad [(900,900),(901,901)] E F10 qw E W E V) ?_
  refine C qg F11 ?_
  refine C q33 F12 ?_
  exact E0
 | false =>
 rw[h33]at q33
 have hf:=Un h33
 by_cases c1:3000<b.length
 ·have f1:decide ((b.length:Int)>3000)=true:=decide_eq_true q_
  refine T ?_
  refine X (Ad [(900,900),(901,901)] E F10 qw E W E V) ?_
  refine C qg F11 ?_
  refine C q33 F12 ?_
  exact E0
 have f1:decide ((b.length:Int)>3000)=false:=decide_eq_false q_
 have hsl:=hf.1
 have hs:∀ x∈script,StepOK x:=fun x hx=>⟨hw x hx,by have:=(hf.2 x hx).1;omega,by have:=(hf.2 x hx).2;omega⟩
 have wM:∀ z∈M,LineW z:=fun z hz=>Aiv hg z hz (hM z hz)
 have q1:=Aed M wM q_
 have hbb:=T4 M emptyN Hl (fun x hx=>(by cases hx)) wM
 have hbn:=Q3 M emptyN Zm
 have hbs:=Q2 M emptyN (fun _=>0) Zl Ab3
 have hb1:B6 M=Bn emptyN M:=rfl
 rw[← hb1]at hbb hbn hbs
 clear hg h33 hM wM hb1
 generalize B6 M=r at *
 obtain ⟨n,row,e⟩:=r
 dsimp only at hbb hbn hbs q1
 refine T ?_
 refine X (Ad [(900,900),(901,901)] E F10 qw E W E V) ?_
 refine C qg F11 ?_
 refine C q33 F12 ?_
 refine B0 (fun j:Nat=>j≤script.length∧∀ (i:Nat) (h:i<script.length),i<j→script[i].bytes.length≤1600) (fun j=>[(0,.sl 17 Ap M),(1,.sl 6 Bm script),(2,.sl 1 Ak b),(37,.sl 6 Bm script),(38,Aa script.length),(39,Aa j)]) (fun _=>[Ao 900,Bo 901]) (fun j=>script.length-j) 0 [] ⟨by omega,fun i h hj=>absurd hj q_⟩ U ?_
 rintro j ⟨hj,hI⟩
 refine T ?_
 refine⟨fun h=>?_,fun h=>?_⟩
 ·have hlt:j<script.length:=qA h
  have hj0:((j:Nat):Int).toNat<script.length:=hlt
  clear h
  have hbl:=(hf.2 _ (List.getElem_mem hj0)).1
  by_cases c2:1600<(script[((j:Nat):Int).toNat]'hj0).bytes.length
  ·have f2:decide (((script[((j:Nat):Int).toNat]'hj0).bytes.length:Int)>1600)=true:=decide_eq_true q_
   refine T ?_
   exact E0
  ·have f2:decide (((script[((j:Nat):Int).toNat]'hj0).bytes.length:Int)>1600)=false:=decide_eq_false q_
   refine T ?_
   refine A4 (j+1) [] ⟨hlt,fun i hi hij=>?_⟩ q_ U
   by_cases h:i<j
   ·exact hI i hi h
   ·have:i=j:=by omega
    subst this
    have e:(script[((i:Nat):Int).toNat]'hj0).bytes.length=script[i].bytes.length:=rfl
    omega
 ·have hje:j=script.length:=qB h
  clear h
  have hbytes:∀ x∈script,x.bytes.length≤1600:=fun x hx=>by
   obtain ⟨i,hi,rfl⟩:=List.getElem_of_mem hx
   exact hI i hi q_
  clear hI hje hj
  refine T ?_
  refine C q1 F13 ?_
  by_cases e0:e=0
  ·have g0:(e != 0)=false:=by rw[e0];rfl
   obtain ⟨hn,hu⟩:=hbb e0
   have hk:=hbn e0
   have hr:=(hbs e0).2.1
   have hnm:=Yu hk
   clear hbb hbn hbs
   have q2:=Io n hn hnm script q_ hs
   have q4:=Eo n hn hnm b q_
   have hP:=Sv hk (l:=script) hbytes
   have q3:=fun m row hp hlen ha (hbz:(printT n script).1.length<100000)=>Agn n hn hnm script m (printT n script).1 hbz row hp hlen q_ (fun x hx=>by have:=(hs x hx).up;omega) ha
   have hpl:(printT n script).1.length≤20000:=by
    rw[printT]
    split
    ·simp
    split
    ·simp
    split
    ·simp
    ·dsimp only;omega
   obtain ⟨hQ1,hQ2⟩:=Ym hr b
   have hpf:=Wh n b
   have hpa:=Ad8 n b
   have hPm:=fun hb=>Sv hk (l:=(parseT n b).1) hb
   generalize hm:parseT n b=pm at *
   obtain ⟨m,mrow,me⟩:=pm
   dsimp only at q4 hQ1 hQ2 hpf hpa hPm
   have q5:=Io n hn hnm m q_ (fun x hx=>⟨(by have:=hpa x hx;unfold El;omega),(by
    by_cases h0:me=0
    ·have:=(hQ2 h0).1 x hx;omega
    ·rw[(hQ1 h0).1]at hx;cases hx),(by have:=hpf.2 x hx;omega)⟩)
   have q6:=fun m' row hp hlen ha (hbz:(printT n m).1.length<100000)=>Agn n hn hnm m m' (printT n m).1 hbz row hp hlen q_ (fun x hx=>by have:=hpf.2 x hx;omega) ha
   have hpl2:(printT n m).1.length≤20000:=by
    rw[printT]
    split
    ·simp
    split
    ·simp
    split
    ·simp
    ·dsimp only;omega
   generalize printT n script=ps at *
   generalize printT n m=pm at *
   obtain ⟨pt,pe⟩:=ps
   obtain ⟨mt,pe2⟩:=pm
   dsimp only at q2 hP q3 hpl q5 q6 hpl2 hQ2 hPm
   by_cases p0:pe=0
   ·have g1:(pe == 0)=true:=by rw[beq_iff_eq];exact p0
    obtain ⟨m1,k1,k2,k3⟩:=hP p0
    have q3:=q3 m1 0 k1 k2 k3 q_
    refine T ?_
    refine X (Ad [(900,900)] E F14 q2 E W E V) ?_
    refine X (Ad [(900,900),(901,901)] E F15 q3 E W E V) ?_
    refine X (Ad [(900,900),(901,901)] E F16 q4 E W E V) ?_
    by_cases m0:me=0
    ·have g2:(me != 0)=false:=by rw[m0];rfl
     obtain ⟨h1,h2⟩:=hQ2 m0
     refine T ?_
     refine X (Ad [(900,900)] E F14 q5 E W E V) ?_
     by_cases p3:pe2=3
     ·have g3:(pe2 == 3)=true:=by rw[beq_iff_eq];exact p3
      refine T ?_
      exact E0
     ·have g3:(pe2 == 3)=false:=by rw[beq_eq_false_iff_ne];exact p3
      have p4:=h2.resolve_left p3
      have g4:(pe2 == 0)=true:=by rw[beq_iff_eq];exact p4
      obtain ⟨m2,j1,j2,j3⟩:=hPm h1 p4
      have q6:=q6 m2 0 j1 j2 j3 q_
      refine T ?_
      refine X (Ad [(900,900),(901,901)] E F15 q6 E W E V) ?_
      exact E0
    ·have g2:(me != 0)=true:=by rw[bne_iff_ne];exact m0
     obtain ⟨h1,h2⟩:=hQ1 m0
     subst h1
     by_cases r0:0<mrow
     ·have g3:decide (mrow>0)=true:=decide_eq_true q_
      refine T ?_
      exact E0
     ·have g3:decide (mrow>0)=false:=decide_eq_false q_
      have g4:(me == 3)=true:=by rw[beq_iff_eq];exact h2.resolve_left r0
      refine T ?_
      exact Ahh E (.cons .tmp .nil) (congrArg Ab g4.symm) E U
   ·have g1:(pe == 0)=false:=by rw[beq_eq_false_iff_ne];exact p0
    refine T ?_
    refine X (Ad [(900,900)] E F14 q2 E W E V) ?_
    refine X (Ad [(900,900),(901,901)] E F16 q4 E W E V) ?_
    by_cases m0:me=0
    ·have g2:(me != 0)=false:=by rw[m0];rfl
     obtain ⟨h1,h2⟩:=hQ2 m0
     refine T ?_
     refine X (Ad [(900,900)] E F14 q5 E W E V) ?_
     by_cases p3:pe2=3
     ·have g3:(pe2 == 3)=true:=by rw[beq_iff_eq];exact p3
      refine T ?_
      exact E0
     ·have g3:(pe2 == 3)=false:=by rw[beq_eq_false_iff_ne];exact p3
      have p4:=h2.resolve_left p3
      have g4:(pe2 == 0)=true:=by rw[beq_iff_eq];exact p4
      obtain ⟨m2,j1,j2,j3⟩:=hPm h1 p4
      have q6:=q6 m2 0 j1 j2 j3 q_
      refine T ?_
      refine X (Ad [(900,900),(901,901)] E F15 q6 E W E V) ?_
      exact E0
    ·have g2:(me != 0)=true:=by rw[bne_iff_ne];exact m0
     obtain ⟨h1,h2⟩:=hQ1 m0
     subst h1
     by_cases r0:0<mrow
     ·have g3:decide (mrow>0)=true:=decide_eq_true q_
      refine T ?_
      exact E0
     ·have g3:decide (mrow>0)=false:=decide_eq_false q_
      have g4:(me == 3)=true:=by rw[beq_iff_eq];exact h2.resolve_left r0
      refine T ?_
      exact Ahh E (.cons .tmp .nil) (congrArg Ab g4.symm) E U
  ·have g0:(e != 0)=true:=by rw[bne_iff_ne];exact e0
   refine T ?_
   exact E0
end Go.Sy.YtjenpnjajjplkaaGreatDoor
