/-
  T12 T13 T15 T16 T17 T14 T19 T21 Z0 Z1 K35 K36 K37 K38 K39 K40 K41 K42: parts of a proof, joined by program.
-/
import Derived.Test.YtljngfegfclkpaaGreatYA12
import Derived.Test.YtljngfegfclkpaaGreatYA9
import Derived.Test.YtljngfegfclkpaaGreatYA13
set_option linter.all false
set_option linter.unusedVariables false
set_option linter.unusedSimpArgs false
set_option linter.deprecated false
namespace Go.Sy.YtljngfegfclkpaaGreat
theorem Adh (n:Nat):∀ (f:Nat) (q:List Item) (i c:Nat),i<n→n≤q.length→n≤c→(Em f q i n).1.getD c default=q.getD c default
 | 0,_,_,_,_,_,_=>rfl
 | f+1,q,i,c,hi,hn,hc=>by
  rw[Em]
  split
  ·rename_i h
   have hcl:=Ol q i n h
   split
   ·rw[Adh n f _ _ c q_ (by rw[A0];exact hn) hc,E3 _ _ _ _ q_ q_,zA q_,zA q_]
   ·rfl
  ·rfl
theorem Akd (q:List Item) (hq:q≠[]):(Dq q).getLast (En hq)=q.getD 0 default:=by
 have h0:0<q.length:=xF.2 hq
 rw[List.getLast_eq_getElem,← Bc (show (Dq q).length-1<(Dq q).length by rw[Et];omega),Et]
 by_cases h1:q.length=1
 ·have:Dq q=q:=by
   obtain ⟨x,rfl⟩:=List.length_eq_one_iff.1 h1
   rfl
  rw[this,h1]
 ·rw[Dq,Adh _ _ _ _ _ q_ (by rw[A0];omega) (zZ _),E3 _ _ _ _ h0 q_,zC rfl]
theorem Atb (q:List Item) (hq:q≠[]):(Dq q).dropLast++[q.getD 0 default]=Dq q:=by
 rw[← Akd q hq];exact uV (En hq)
theorem Awp (q:List Item) (hq:q≠[]):(q.getD 0 default::(Dq q).dropLast).Perm q :=
 ((List.perm_append_comm (l₁:=[q.getD 0 default]) (l₂:=(Dq q).dropLast)).trans (by rw[Atb q hq])).trans (Tp q hq)
theorem Awq (q:List Item) (hq:q≠[]) (h:L7 q q.length):L7 (Dq q).dropLast (Dq q).dropLast.length:=by
 have h0:0<q.length:=xF.2 hq
 have hd:(Dq q).dropLast.length=q.length-1:=by rw[uZ,Et]
 have hh:L7 (Dq q) (q.length-1):=by
  rw[Dq]
  refine Adk (q.length-1) _ _ _ q_ (by rw[A0];exact h0) (by rw[A0];omega) ⟨λ c hc0 hcn hp=>?_,λ c hc0 hcn hp h=>by omega⟩
  rw[E3 _ _ _ _ h0 q_,E3 _ _ _ _ h0 q_,zA q_,zA q_,zA q_,zA hp]
  exact h c hc0 q_ q_
 intro c hc0 hcn _
 rw[hd]at hcn
 have hl:=Et q
 have e:∀ k,k<q.length-1→(Dq q).dropLast.getD k default=(Dq q).getD k default:=λ k hk=>by
  rw[Bc (show k<(Dq q).dropLast.length by omega),Bc (show k<(Dq q).length by omega),List.getElem_dropLast]
 rw[e c hcn,e _ q_]
 exact hh c hc0 hcn q_
theorem Atc (q:List Item) (h:L7 q q.length):∀ x∈q,B9 x (q.getD 0 default)=false:=λ x hx=>by
 obtain ⟨c,hc,rfl⟩:=wX hx
 have:=Ao8 h (zZ _) c hc
 rwa [Bc hc]at this
def Ey (ranks:List Int) (j:Nat):List Item:=(List.range j).foldl (λ q (i:Nat)=>Uk q ⟨ranks.getD i 0,0,i⟩) []
theorem J8 (ranks:List Int) (j:Nat):Ey ranks (j+1)=Uk (Ey ranks j) ⟨ranks.getD j 0,0,j⟩:=by
 rw[Ey,wL,xB];rfl
theorem Mm (ranks:List Int):∀ j,(Ey ranks j).length=j
 | 0=>rfl
 | j+1=>by rw[J8,K5,Mm ranks j]
def Ws (roots:List Int):Nat:=roots.countP (λ r=>decide (r<0))
def reachM (s:List Item × List Int × List Int):Nat:=41 * Ws s.2.1+s.1.length
structure ReachInv (n:Net) (s:List Item × List Int × List Int):Prop where
 rootsL:s.2.1.length=n.devices.length
 costsL:s.2.2.length=n.devices.length
 items:∀ x∈s.1,0≤x.dev∧x.dev<n.devices.length∧0≤x.root∧0≤x.cost∧x.cost+65535 * Ws s.2.1≤65535 * n.devices.length
 few:s.1.length+40 * Ws s.2.1≤1000
theorem Axb (roots:List Int):Ws roots≤roots.length:=List.countP_le_length
theorem Atq {roots:List Int} {i:Nat} {v:Int} (h:i<roots.length) (h0:roots[i]<0) (hv:0≤v):Ws (roots.set i v)+1=Ws roots:=by
 have h1:0<roots.countP (λ r=>decide (r<0)):=List.countP_pos_iff.2 ⟨roots[i],zE h,by simpa using h0⟩
 have hv':¬ v<0:=by omega
 rw[Ws,Ws,List.countP_set h]
 simp only[h0,hv',decide_true,decide_false,if_true,vP,if_false]
 omega
theorem Ahd (n:Net) (up:List Bool) (x:Item) (hr:Ab n=true) (hcost:Cn n=true) {m:Nat} (hx:0≤x.root∧0≤x.cost∧x.cost+65535 * (m+1)≤65535 * n.devices.length) (q:List Item)
  (hq:∀ y∈q,0≤y.dev∧y.dev<n.devices.length∧0≤y.root∧0≤y.cost∧y.cost+65535 * m≤65535 * n.devices.length) (i:Nat) (hi:i<n.ports.length) :
  (∀ y∈D2 n up x q i,0≤y.dev∧y.dev<n.devices.length∧0≤y.root∧0≤y.cost∧y.cost+65535 * m≤65535 * n.devices.length)∧(D2 n up x q i).length≤q.length+1:=by
 rw[D2]
 split
 ·rename_i h
  have hlt:=Adb hr hi h.2
  have hk:(Dr n up i).toNat<n.ports.length:=by omega
  have hd:=Sc hr hk
  have hpc:1≤n.ports[(Dr n up i).toNat].cost∧n.ports[(Dr n up i).toNat].cost≤65535:=by
   simp only[Cn,yK,wQ]at hcost
   have:=hcost _ (zE hk)
   simp only[Hl,yD,zG,uK]at this
   omega
  have e:nth n.ports (Dr n up i)=n.ports[(Dr n up i).toNat]:=Ae (l:=n.ports) (i:=Dr n up i) q_
  rw[e]
  refine⟨λ y hy=>?_,by rw[K5];omega⟩
  rcases yB.1 ((Oy q _).mem_iff.1 hy) with rfl | hy
  ·simp only
   omega
  ·exact hq y hy
 ·exact⟨hq,by omega⟩
theorem Abw (n:Net) (up:List Bool) (x:Item) (hr:Ab n=true) (hcost:Cn n=true) {m:Nat} (hx:0≤x.root∧0≤x.cost∧x.cost+65535 * (m+1)≤65535 * n.devices.length) (q:List Item)
  (hq:∀ y∈q,0≤y.dev∧y.dev<n.devices.length∧0≤y.root∧0≤y.cost∧y.cost+65535 * m≤65535 * n.devices.length):∀ i,i≤n.ports.length →
  (∀ y∈(List.range i).foldl (D2 n up x) q,0≤y.dev∧y.dev<n.devices.length∧0≤y.root∧0≤y.cost∧y.cost+65535 * m≤65535 * n.devices.length)∧((List.range i).foldl (D2 n up x) q).length≤q.length+i
 | 0,_=>⟨hq,by simp⟩
 | i+1,hi=>by
  obtain ⟨h1,h2⟩:=Abw n up x hr hcost hx q hq i q_
  rw[wL,xB]
  obtain ⟨h3,h4⟩:=Ahd n up x hr hcost hx _ h1 i q_
  exact⟨h3,by simp only[wT,uM];omega⟩
theorem Ack {q:List Item} (hq:q≠[]):(Dq q).getLast?.getD default=(Dq q).getLast (En hq):=by
 rw[List.getLast?_eq_some_getLast (En hq)];rfl
theorem Ll (n:Net) (up:List Bool) (hr:Ab n=true) (hcost:Cn n=true) (s:List Item × List Int × List Int) (hI:ReachInv n s) (hne:s.1≠[]):ReachInv n (Ow n up s)∧reachM (Ow n up s)<reachM s:=by
 have hf:=Hb hr
 have hx:=hI.items _ ((Tp s.1 hne).mem_iff.1 (List.getLast_mem (En hne)))
 have hd:∀ y∈(Dq s.1).dropLast,y∈s.1:=λ y hy=>(Tp s.1 hne).mem_iff.1 ((List.dropLast_sublist _).subset hy)
 have h0:0<s.1.length:=xF.2 hne
 have hdl:(Dq s.1).dropLast.length+1=s.1.length:=by rw[uZ,Et];omega
 have hfew:=hI.few
 rw[Ow,Ack hne]
 generalize (Dq s.1).getLast (En hne)=x at *
 split
 ·exact⟨⟨hI.rootsL,hI.costsL,λ y hy=>hI.items y (hd y hy),by simp only;omega⟩,by unfold reachM;simp only;omega⟩
 ·rename_i hneg
  have hk:x.dev.toNat<s.2.1.length:=by rw[hI.rootsL];omega
  rw[Ae (l:=s.2.1) (i:=x.dev) (by rw[hI.rootsL];omega)]at hneg
  have hm:=Atq hk q_ hx.2.2.1
  obtain ⟨h1,h2⟩:=Abw n up x hr hcost (m:=Ws (s.2.1.set x.dev.toNat x.root)) ⟨hx.2.2.1,hx.2.2.2.1,by have:=hx.2.2.2.2;omega⟩ (Dq s.1).dropLast (λ y hy=>by have:=hI.items y (hd y hy);omega) n.ports.length (zZ _)
  exact⟨⟨by simp only[yE];exact hI.rootsL,by simp only[yE];exact hI.costsL,h1,by simp only;omega⟩,by unfold reachM;simp only;omega⟩
theorem Zo (n:Net) (up:List Bool) (hr:Ab n=true) (hcost:Cn n=true):∀ (f g:Nat) (s:List Item × List Int × List Int),ReachInv n s→reachM s≤f→reachM s≤g→H2 n up f s=H2 n up g s
 | 0,0,_,_,_,_=>rfl
 | 0,g+1,s,_,h,_=>by
  have:s.1=[]:=zQ (by unfold reachM at h;omega)
  rw[H2,H2,zC this]
 | f+1,0,s,_,_,h=>by
  have:s.1=[]:=zQ (by unfold reachM at h;omega)
  rw[H2,H2,zC this]
 | f+1,g+1,s,hI,h1,h2=>by
  rw[H2,H2]
  split
  ·rfl
  ·rename_i hne
   obtain ⟨h3,h4⟩:=Ll n up hr hcost s hI hne
   exact Zo n up hr hcost f g _ h3 q_ q_
def Kp (n:Net) (up:List Bool) (s:List Item × List Int × List Int):List Item × List Int × List Int:=H2 n up (reachM s) s
theorem An2 (n:Net) (up:List Bool) (s:List Item × List Int × List Int) (h:s.1=[]):Kp n up s=s:=by
 rw[Kp]
 cases reachM s with
 | zero=>rfl
 | succ m=>rw[H2,zC h]
theorem Aj7 (n:Net) (up:List Bool) (hr:Ab n=true) (hcost:Cn n=true) (s:List Item × List Int × List Int) (hI:ReachInv n s) (hne:s.1≠[]):Kp n up s=Kp n up (Ow n up s):=by
 obtain ⟨h3,h4⟩:=Ll n up hr hcost s hI hne
 rw[Kp,Kp]
 obtain ⟨m,hm⟩:∃ m,reachM s=m+1:=⟨reachM s-1,by omega⟩
 rw[hm,H2,zA hne]
 exact Zo n up hr hcost _ _ _ h3 q_ (zZ _)
theorem Zh (ranks:List Int) (m:Nat) (hrr:∀ r∈ranks,0≤r):∀ j,j≤ranks.length→∀ y∈Ey ranks j,0≤y.dev∧y.dev<m+ranks.length∧0≤y.root∧y.cost=0
 | 0,_,y,hy=>by simp[Ey]at hy
 | j+1,hj,y,hy=>by
  rw[J8]at hy
  rcases yB.1 ((Oy _ _).mem_iff.1 hy) with rfl | hy
  ·have h1:=hrr (ranks[j]'q_) (zE _)
   have h2:(0:Int)≤(j:Int)∧(j:Int)<m+ranks.length:=by omega
   exact⟨h2.1,h2.2,by rw[Bc (show j<ranks.length by omega)];exact h1,E⟩
  ·exact Zh ranks m hrr j q_ y hy
theorem Afd (n:Net) (ranks roots costs:List Int) (hr:Ab n=true) (hrk:ranks.length=n.devices.length) (hro:roots.length=n.devices.length) (hc:costs.length=n.devices.length) (hrr:∀ r∈ranks,0≤r):ReachInv n (Ey ranks ranks.length,roots,costs):=by
 have hf:=Hb hr
 have hm:=Axb roots
 refine⟨hro,hc,λ y hy=>?_,by simp only[Mm];omega⟩
 have:=Zh ranks 0 hrr _ (zZ _) y hy
 simp only
 omega
def Le2 (r c r' c':Int):Prop:=r<r'∨(r=r'∧c≤c')
theorem At9 {x y:Item} (h:B9 y x=false):Le2 x.root x.cost y.root y.cost:=by
 simp only[B9,xU,zV,yT,zO]at h
 unfold Le2
 omega
theorem At8 {a b c d e f:Int} (h1:Le2 a b c d) (h2:Le2 c d e f):Le2 a b e f:=by
 unfold Le2 at *
 omega
theorem Ala {a b c d m:Int} (h1:Le2 a b c d) (hm:0≤m):Le2 a b c (d+m):=by
 unfold Le2 at *
 omega
def La (n:Net) (up:List Bool) (i j:Nat):Prop:=i<n.ports.length∧Dr n up i=j
theorem Qa {n:Net} {up:List Bool} (hr:Ab n=true) {i j:Nat} (h:La n up i j):j<n.ports.length:=by
 have:=Adb (up:=up) hr h.1 (by rw[h.2];omega)
 rw[h.2]at this
 omega
theorem Y1 {n:Net} {up:List Bool} (hr:Ab n=true) {i j:Nat} (h:La n up i j) :
  ∃ k:Nat,k<n.links.length∧(nth n.ports i).link=k∧(nth n.ports j).link=k∧up.getD k false=true∧(((nth n.links k).a=i∧(nth n.links k).b=j)∨((nth n.links k).a=j∧(nth n.links k).b=i))∧Bu n i≠Bu n j:=by
 have hj:=Qa hr h
 obtain ⟨hi,hf⟩:=h
 have hp:=Ov hr hi
 have hpl:=To hr hi
 simp only[Iw,zB,yD,yA]at hp
 have hp:=hp.2
 have e:nth n.ports i=n.ports[i]:=Ae (l:=n.ports) (i:=(i:Int)) (by simpa using hi)
 unfold Dr at hf
 rw[Bc hi]at hf
 simp only at hf
 split at hf
 ·omega
 ·rename_i hc
  simp only[yD,zG,uK,yK,Bool.not_eq_false]at hc
  rcases hp with hp | hp
  ·omega
  ·have hl:n.ports[i].link.toNat<n.links.length:=by omega
   have hlk:=Vg hr hl
   have he:=Lc hr hl
   have ek:((n.ports[i].link.toNat:Nat):Int)=n.ports[i].link:=by omega
   refine⟨n.ports[i].link.toNat,hl,by rw[e];omega,?_⟩
   simp only[Kx,zB,yA,yV]at hlk
   obtain ⟨⟨⟨_,hne⟩,h1⟩,h2⟩:=hlk
   rw[ek]
   rw[Ae (l:=n.links) (i:=n.ports[i].link) q_]at hf hp ⊢
   generalize n.links[n.ports[i].link.toNat]=l at *
   rcases hp.2 with ha | hb
   ·have hb:l.b=j:=by omega
    rw[ha,hb]at hne
    rw[hb]at h2
    exact⟨by omega,by simpa using hc.2,.inl ⟨ha,hb⟩,hne⟩
   ·have ha:l.a=j:=by omega
    rw[ha,hb]at hne
    rw[ha]at h1
    exact⟨by omega,by simpa using hc.2,.inr ⟨ha,hb⟩,λ h=>hne h.symm⟩
theorem Sz {n:Net} {up:List Bool} (hr:Ab n=true) {i j:Nat} (h:La n up i j):La n up j i:=by
 have hj:=Qa hr h
 obtain ⟨k,hk,_,h2,h3,h4,_⟩:=Y1 hr h
 refine⟨hj,?_⟩
 unfold Dr
 have e:n.ports.getD j default=nth n.ports j:=rfl
 rw[e]
 simp only[h2,zR,h3]
 rw[zA y_]
 omega
theorem Ja {n:Net} (hr:Ab n=true) {i:Nat} (hi:i<n.ports.length):0≤Bu n i∧Bu n i<n.devices.length:=by
 rw[Bu,Ae (l:=n.ports) (i:=(i:Int)) (by simpa using hi)]
 exact Sc hr hi
def Der (n:Net) (up:List Bool) (K R C:Int→Int) (r c d:Int):Prop :=
 (r=K d∧c=0)∨∃ i j:Nat,La n up i j∧Bu n i=d∧0≤R (Bu n j)∧r=R (Bu n j)∧c=C (Bu n j)+Kb n i
structure Dij (n:Net) (up:List Bool) (K:Int→Int) (q:List Item) (R C:Int→Int):Prop where
 heap:L7 q q.length
 items:∀ x∈q,Der n up K R C x.root x.cost x.dev
 done:∀ d:Int,0≤d→d<n.devices.length→0≤R d→Der n up K R C (R d) (C d) d
 own:∀ d:Int,0≤d→d<n.devices.length→R d<0→⟨K d,0,d⟩∈q
 push:∀ i j:Nat,La n up i j→R (Bu n i)<0→0≤R (Bu n j)→⟨R (Bu n j),C (Bu n j)+Kb n i,Bu n i⟩∈q
 low:∀ d:Int,0≤d→d<n.devices.length→0≤R d→∀ x∈q,Le2 (R d) (C d) x.root x.cost
 self:∀ d:Int,0≤d→d<n.devices.length→0≤R d→Le2 (R d) (C d) (K d) 0
 tri:∀ i j:Nat,La n up i j→0≤R (Bu n i)→0≤R (Bu n j)→Le2 (R (Bu n i)) (C (Bu n i)) (R (Bu n j)) (C (Bu n j)+Kb n i)
theorem Abu (n:Net) (up:List Bool) (x:Item) (q:List Item) (y:Item):∀ m,y∈(List.range m).foldl (D2 n up x) q↔y∈q∨∃ i,i<m∧Bu n i=x.dev∧0≤Dr n up i∧y=⟨x.root,x.cost+(nth n.ports (Dr n up i)).cost,(nth n.ports (Dr n up i)).dev⟩
 | 0=>by simp
 | m+1=>by
  rw[wL,xB]
  simp only[wT,uM]
  rw[D2]
  have ih:=Abu n up x q y m
  have e:(n.ports.getD m default).dev=Bu n m:=rfl
  rw[e]
  split
  ·rename_i h
   rw[(Oy _ _).mem_iff,yB,ih]
   constructor
   ·rintro (h1 | h1 | ⟨i,h1,h2⟩)
    ·exact .inr ⟨m,by omega,h.1,h.2,h1⟩
    ·exact .inl h1
    ·exact .inr ⟨i,by omega,h2⟩
   ·rintro (h1 | ⟨i,h1,h2,h3,h4⟩)
    ·exact .inr (.inl h1)
    ·by_cases hm:i=m
     ·subst hm;exact .inl h4
     ·exact .inr (.inr ⟨i,by omega,h2,h3,h4⟩)
  ·rename_i h
   rw[ih]
   constructor
   ·rintro (h1 | ⟨i,h1,h2⟩)
    ·exact .inl h1
    ·exact .inr ⟨i,by omega,h2⟩
   ·rintro (h1 | ⟨i,h1,h2,h3,h4⟩)
    ·exact .inl h1
    ·by_cases hm:i=m
     ·subst hm;exact zW ⟨h2,h3⟩ h
     ·exact .inr ⟨i,by omega,h2,h3,h4⟩
theorem Zn (n:Net) (up:List Bool) (x:Item) (q:List Item) (h:L7 q q.length):∀ m,L7 ((List.range m).foldl (D2 n up x) q) ((List.range m).foldl (D2 n up x) q).length
 | 0=>h
 | m+1=>by
  rw[wL,xB]
  simp only[wT,uM]
  have ih:=Zn n up x q h m
  rw[D2]
  split
  ·exact Ab2 _ _ ih
  ·exact ih
theorem Adm {n:Net} {up:List Bool} {K R C R' C':Int→Int} {r c d:Int} (h:Der n up K R C r c d) (hs:∀ e,0≤R e→R' e=R e∧C' e=C e):Der n up K R' C' r c d:=by
 rcases h with h | ⟨i,j,h1,h2,h3,h4,h5⟩
 ·exact .inl h
 ·obtain ⟨e1,e2⟩:=hs _ h3
  exact .inr ⟨i,j,h1,h2,by rw[e1];exact h3,by rw[e1];exact h4,by rw[e2];exact h5⟩
theorem Ayq {n:Net} {up:List Bool} {K R C:Int→Int} {q q':List Item} {x:Item} (h:Dij n up K q R C) (hp:(x::q').Perm q) (hh:L7 q' q'.length) (hx:0≤R x.dev):Dij n up K q' R C:=by
 have hm:∀ y,y∈q↔y=x∨y∈q':=λ y=>by rw[← hp.mem_iff,yB]
 refine⟨hh,λ y hy=>h.items y ((hm y).2 (.inr hy)),h.done,λ d h0 h1 h2=>?_,λ i j hij h1 h2=>?_,λ d h0 h1 h2 y hy=>h.low d h0 h1 h2 y ((hm y).2 (.inr hy)),h.self,h.tri⟩
 ·rcases (hm _).1 (h.own d h0 h1 h2) with e | e
  ·rw[← e]at hx;simp only at hx;omega
  ·exact e
 ·rcases (hm _).1 (h.push i j hij h1 h2) with e | e
  ·rw[← e]at hx;simp only at hx;omega
  ·exact e
theorem Ayp {n:Net} {up:List Bool} {K R C R' C':Int→Int} {q q':List Item} {x:Item} (hr:Ab n=true) (hcost:Cn n=true) (h:Dij n up K q R C) (hp:(x::q').Perm q) (hh:L7 q' q'.length)
  (hmin:∀ y∈q,B9 y x=false) (hx:R x.dev<0) (hx0:0≤x.root) (_hxd:0≤x.dev∧x.dev<n.devices.length)
  (hR:∀ e,R' e=if e=x.dev then x.root else R e) (hC:∀ e,C' e=if e=x.dev then x.cost else C e) :
  Dij n up K ((List.range n.ports.length).foldl (D2 n up x) q') R' C':=by
 have hm:∀ y,y∈q↔y=x∨y∈q':=λ y=>by rw[← hp.mem_iff,yB]
 have hn:=λ y=>Abu n up x q' y n.ports.length
 have hs:∀ e,0≤R e→R' e=R e∧C' e=C e:=λ e he=>by
  have:e≠x.dev:=λ h=>by rw[h]at he;omega
  rw[hR,hC,zA this,zA this]
  exact⟨E,E⟩
 have hRd:R' x.dev=x.root:=by rw[hR,zC rfl]
 have hCd:C' x.dev=x.cost:=by rw[hC,zC rfl]
 have hxq:x∈q:=(hm x).2 (.inl rfl)
 have hle:∀ y∈q,Le2 x.root x.cost y.root y.cost:=λ y hy=>At9 (hmin y hy)
 have hnew:∀ y,y∈(List.range n.ports.length).foldl (D2 n up x) q'↔y∈q'∨∃ i j:Nat,La n up i j∧Bu n i=x.dev∧y=⟨x.root,x.cost+Kb n j,Bu n j⟩:=λ y=>by
  rw[hn y]
  constructor
  ·rintro (h1 | ⟨i,h1,h2,h3,h4⟩)
   ·exact .inl h1
   ·obtain ⟨j,hj⟩:∃ j:Nat,Dr n up i=j:=⟨(Dr n up i).toNat,by omega⟩
    rw[hj]at h4
    exact .inr ⟨i,j,⟨h1,hj⟩,h2,h4⟩
  ·rintro (h1 | ⟨i,j,h1,h2,h3⟩)
   ·exact .inl h1
   ·refine .inr ⟨i,h1.1,h2,by rw[h1.2];omega,?_⟩
    rw[h1.2]
    exact h3
 refine⟨Zn n up x q' hh _,λ y hy=>?_,λ d h0 h1 h2=>?_,λ d h0 h1 h2=>?_,λ i j hij h1 h2=>?_,λ d h0 h1 h2 y hy=>?_,λ d h0 h1 h2=>?_,λ i j hij h1 h2=>?_⟩
 ·rcases (hnew y).1 hy with hy | ⟨i,j,h1,h2,rfl⟩
  ·exact Adm (h.items y ((hm y).2 (.inr hy))) hs
  ·exact .inr ⟨j,i,Sz hr h1,E,by rw[h2,hRd];exact hx0,by rw[h2,hRd],by rw[h2,hCd]⟩
 ·by_cases hd:d=x.dev
  ·subst hd
   rw[hRd,hCd]
   exact Adm (h.items x hxq) hs
  ·rw[hR,zA hd]at h2
   obtain ⟨e1,e2⟩:=hs d h2
   rw[e1,e2]
   exact Adm (h.done d h0 h1 h2) hs
 ·have hd:d≠x.dev:=λ e=>by rw[e,hRd]at h2;omega
  rw[hR,zA hd]at h2
  refine(hnew _).2 (.inl ?_)
  rcases (hm _).1 (h.own d h0 h1 h2) with e | e
  ·exact zW (zD Item.dev e) hd
  ·exact e
 ·have hd:Bu n i≠x.dev:=λ e=>by rw[e,hRd]at h1;omega
  rw[hR,zA hd]at h1
  by_cases hj:Bu n j=x.dev
  ·rw[hj,hRd,hCd]
   exact(hnew _).2 (.inr ⟨j,i,Sz hr hij,hj,E⟩)
  ·rw[hR,zA hj]at h2
   obtain ⟨e1,e2⟩:=hs _ h2
   rw[e1,e2]
   refine(hnew _).2 (.inl ?_)
   rcases (hm _).1 (h.push i j hij h1 h2) with e | e
   ·exact zW (zD Item.dev e) hd
   ·exact e
 ·have hdx:Le2 (R' d) (C' d) x.root x.cost:=by
   by_cases hd:d=x.dev
   ·subst hd;rw[hRd,hCd];exact .inr ⟨rfl,wG _⟩
   ·rw[hR,zA hd]at h2
    obtain ⟨e1,e2⟩:=hs d h2
    rw[e1,e2]
    exact h.low d h0 h1 h2 x hxq
  rcases (hnew y).1 hy with hy | ⟨i,j,h3,_,rfl⟩
  ·exact At8 hdx (hle y ((hm y).2 (.inr hy)))
  ·exact Ala hdx (by have:=Wm hcost (Qa hr h3);omega)
 ·by_cases hd:d=x.dev
  ·subst hd
   rw[hRd,hCd]
   exact hle _ (h.own _ h0 h1 hx)
  ·rw[hR,zA hd]at h2
   obtain ⟨e1,e2⟩:=hs d h2
   rw[e1,e2]
   exact h.self d h0 h1 h2
 ·have hj:=Qa hr hij
  have hpc:=Wm hcost hij.1
  have hne:=(Y1 hr hij).choose_spec.2.2.2.2.2
  by_cases hd:Bu n i=x.dev
  ·rw[hd,hRd,hCd]
   have hjd:Bu n j≠x.dev:=λ e=>hne (by rw[hd,e])
   rw[hR,zA hjd]at h2
   obtain ⟨e1,e2⟩:=hs _ h2
   rw[e1,e2]
   exact hle _ (h.push i j hij (by rw[hd];exact hx) h2)
  ·rw[hR,zA hd]at h1
   obtain ⟨e1,e2⟩:=hs _ h1
   rw[e1,e2]
   by_cases hjd:Bu n j=x.dev
   ·rw[hjd,hRd,hCd]
    have hdl:=Ja hr hij.1
    exact Ala (h.low _ hdl.1 hdl.2 h1 x hxq) q_
   ·rw[hR,zA hjd]at h2
    obtain ⟨e3,e4⟩:=hs _ h2
    rw[e3,e4]
    exact h.tri i j hij h1 h2
def atI (l:List Int) (e:Int):Int:=if e<0 then -1 else nth l e
theorem L5 {l:List Int} {e:Int} (h:0≤e):atI l e=nth l e:=by rw[atI,zA q_]
theorem Arv {l:List Int} {d v:Int} (h0:0≤d) (h1:d<l.length) (e:Int):atI (l.set d.toNat v) e=if e=d then v else atI l e:=by
 by_cases he:e<0
 ·rw[atI,zC he,zA q_,atI,zC he]
 ·rw[atI,zA he,atI,zA he,nth,nth,uF]
  by_cases hd:e=d
  ·subst hd
   rw[zC rfl,zC rfl,zC q_]
   rfl
  ·rw[zA q_,zA hd]
structure DijS (n:Net) (up:List Bool) (ranks:List Int) (s:List Item × List Int × List Int):Prop where
 inv:ReachInv n s
 dij:Dij n up (atI ranks) s.1 (atI s.2.1) (atI s.2.2)
 bound:∀ c∈s.2.2,0≤c∧c≤1000000
theorem An3 (n:Net) (up:List Bool) (ranks:List Int) (hr:Ab n=true) (hcost:Cn n=true) (s:List Item × List Int × List Int) (hI:DijS n up ranks s) (hne:s.1≠[]):DijS n up ranks (Ow n up s):=by
 have hf:=Hb hr
 have h1:=(Ll n up hr hcost s hI.inv hne).1
 have hrest:=Awp s.1 hne
 have hheap:=Awq s.1 hne hI.dij.heap
 have hleast:=Atc s.1 hI.dij.heap
 have hx:=hI.inv.items _ (hrest.mem_iff.1 (List.mem_cons_self ..))
 have hrl:=hI.inv.rootsL
 have hcl:=hI.inv.costsL
 have hd:=hI.dij
 have hb:=hI.bound
 rw[Ow,Ack hne,Akd s.1 hne]at *
 generalize s.1.getD 0 default=x at *
 try simp only at *
 have ea:nth s.2.1 x.dev=atI s.2.1 x.dev:=(L5 hx.1).symm
 rw[ea];rw[ea]at h1
 split
 ·rename_i hc
  rw[zC hc]at h1
  exact⟨h1,Ayq hd hrest hheap hc,hb⟩
 ·rename_i hc
  rw[zA hc]at h1
  refine⟨h1,Ayp hr hcost hd hrest hheap hleast q_ hx.2.2.1 ⟨hx.1,hx.2.1⟩ (Arv hx.1 q_) (Arv hx.1 q_),λ c hc=>?_⟩
  rcases uD hc with h | h
  ·exact hb c h
  ·omega
theorem Abx (n:Net) (up:List Bool) (ranks:List Int) (hr:Ab n=true) (hcost:Cn n=true):∀ (f:Nat) (s:List Item × List Int × List Int),DijS n up ranks s→reachM s≤f→DijS n up ranks (H2 n up f s)∧(H2 n up f s).1=[]
 | 0,s,h,hf=>⟨h,zQ (by unfold reachM at hf;rw[H2];omega)⟩
 | f+1,s,h,hf=>by
  rw[H2]
  split
  ·rename_i he;exact⟨h,he⟩
  ·rename_i hne
   exact Abx n up ranks hr hcost f _ (An3 n up ranks hr hcost s h hne) (by have:=(Ll n up hr hcost s h.inv hne).2;omega)
structure Solved (n:Net) (up:List Bool) (ranks roots costs:List Int):Prop where
 rootsL:roots.length=n.devices.length
 costsL:costs.length=n.devices.length
 bound:∀ c∈costs,0≤c∧c≤1000000
 root:∀ d:Int,0≤d→d<n.devices.length→0≤nth roots d
 self:∀ d:Int,0≤d→d<n.devices.length→Le2 (nth roots d) (nth costs d) (nth ranks d) 0
 tri:∀ i j:Nat,La n up i j→Le2 (nth roots (Bu n i)) (nth costs (Bu n i)) (nth roots (Bu n j)) (nth costs (Bu n j)+Kb n i)
 der:∀ d:Int,0≤d→d<n.devices.length→(nth roots d=nth ranks d∧nth costs d=0)∨∃ i j:Nat,La n up i j∧Bu n i=d∧nth roots d=nth roots (Bu n j)∧nth costs d=nth costs (Bu n j)+Kb n i
theorem Asl (n:Net) (up:List Bool) (ranks:List Int) (hr:Ab n=true) (s:List Item × List Int × List Int) (h:DijS n up ranks s) (he:s.1=[]):Solved n up ranks s.2.1 s.2.2:=by
 have hd:=h.dij
 rw[he]at hd
 have h0:∀ d:Int,0≤d→d<n.devices.length→0≤atI s.2.1 d:=λ d h1 h2=>by
  by_cases hc:0≤atI s.2.1 d
  ·exact hc
  ·have:=hd.own d h1 h2 q_
   simp at this
 refine⟨h.inv.rootsL,h.inv.costsL,h.bound,λ d h1 h2=>?_,λ d h1 h2=>?_,λ i j hij=>?_,λ d h1 h2=>?_⟩
 ·have:=h0 d h1 h2
  rwa [L5 h1]at this
 ·have:=hd.self d h1 h2 (h0 d h1 h2)
  simpa only [L5 h1] using this
 ·have hi:=Ja hr hij.1
  have hj:=Ja hr (Qa hr hij)
  have:=hd.tri i j hij (h0 _ hi.1 hi.2) (h0 _ hj.1 hj.2)
  simpa only [L5 hi.1,L5 hj.1] using this
 ·rcases hd.done d h1 h2 (h0 d h1 h2) with h3 | ⟨i,j,h3,h4,_,h5,h6⟩
  ·simp only[L5 h1]at h3
   exact .inl h3
  ·have hj:=Ja hr (Qa hr h3)
   simp only[L5 h1,L5 hj.1]at h5 h6
   exact .inr ⟨i,j,h3,h4,h5,h6⟩
theorem Yl (ranks:List Int) (y:Item):∀ j,y∈Ey ranks j↔∃ i,i<j∧y=⟨ranks.getD i 0,0,i⟩
 | 0=>by simp[Ey]
 | j+1=>by
  rw[J8,(Oy _ _).mem_iff,yB,Yl ranks y j]
  constructor
  ·rintro (h | ⟨i,h1,h2⟩)
   ·exact⟨j,by omega,h⟩
   ·exact⟨i,by omega,h2⟩
  ·rintro ⟨i,h1,h2⟩
   by_cases h:i=j
   ·subst h;exact .inl h2
   ·exact .inr ⟨i,by omega,h2⟩
theorem Abh (ranks:List Int):∀ j,L7 (Ey ranks j) (Ey ranks j).length
 | 0=>λ c _ h2 _=>by simp[Ey]at h2
 | j+1=>by
  rw[J8]
  exact Ab2 _ _ (Abh ranks j)
theorem Aeh {v:Int} {m:Nat} {d:Int} (h1:d<m) (h0:0≤d):nth (List.replicate m v) d=v:=by
 rw[Ae (by simp;omega)];simp
theorem Asj (n:Net) (up:List Bool) (ranks:List Int) (hr:Ab n=true) (hrk:ranks.length=n.devices.length) (hrr:∀ r∈ranks,0≤r) :
  DijS n up ranks (Ey ranks ranks.length,List.replicate n.devices.length (-1),List.replicate n.devices.length 0):=by
 have hneg:∀ d:Int,0≤d→d<n.devices.length→atI (List.replicate n.devices.length (-1)) d=-1:=λ d h0 h1=>by rw[L5 h0,Aeh h1 h0]
 refine⟨Afd n ranks _ _ hr hrk y_ y_ hrr,⟨Abh ranks _,λ x hx=>?_,λ d h0 h1 h2=>?_,λ d h0 h1 h2=>?_,λ i j hij h1 h2=>?_,λ d h0 h1 h2=>?_,λ d h0 h1 h2=>?_,λ i j hij h1 h2=>?_⟩,λ c hc=>?_⟩
 ·obtain ⟨i,h1,rfl⟩:=(Yl ranks x _).1 hx
  refine .inl ⟨?_,E⟩
  simp only
  rw[L5 q_,Ae (by simpa using h1),Bc h1]
  rfl
 ·rw[hneg d h0 h1]at h2;omega
 ·refine(Yl ranks _ _).2 ⟨d.toNat,by omega,?_⟩
  rw[L5 h0,Ae q_,Bc q_,yQ h0]
 ·have hj:=Ja hr (Qa hr hij)
  rw[hneg _ hj.1 hj.2]at h2;omega
 ·rw[hneg d h0 h1]at h2;omega
 ·rw[hneg d h0 h1]at h2;omega
 ·have hj:=Ja hr (Qa hr hij)
  rw[hneg _ hj.1 hj.2]at h2;omega
 ·have:=List.eq_of_mem_replicate hc
  omega
def Sa (n:Net) (up:List Bool) (ranks:List Int):List Item × List Int × List Int:=Kp n up (Ey ranks ranks.length,List.replicate n.devices.length (-1),List.replicate n.devices.length 0)
theorem Aea (n:Net) (up:List Bool) (ranks:List Int) (hr:Ab n=true) (hcost:Cn n=true) (hrk:ranks.length=n.devices.length) (hrr:∀ r∈ranks,0≤r):Solved n up ranks (Sa n up ranks).2.1 (Sa n up ranks).2.2:=by
 obtain ⟨h1,h2⟩:=Abx n up ranks hr hcost _ _ (Asj n up ranks hr hrk hrr) (zZ _)
 exact Asl n up ranks hr _ h1 h2
end Go.Sy.YtljngfegfclkpaaGreat
namespace Go.Sy.YtljngfegfclkpaaGreat
section
variable {n:Net} {up:List Bool} {ranks roots costs:List Int}
theorem Q6 (S:Solved n up ranks roots costs) (hr:Ab n=true) {i j:Nat} (h:La n up i j):nth roots (Bu n i)=nth roots (Bu n j):=by
 have h1:=S.tri i j h
 have h2:=S.tri j i (Sz hr h)
 unfold Le2 at h1 h2
 omega
theorem Anm (S:Solved n up ranks roots costs) (hr:Ab n=true) {i j:Nat} (h:La n up i j):nth costs (Bu n i)≤nth costs (Bu n j)+Kb n i:=by
 have h1:=S.tri i j h
 have h2:=Q6 S hr h
 unfold Le2 at h1
 omega
theorem Ann (S:Solved n up ranks roots costs) {d:Int} (h0:0≤d) (h1:d<n.devices.length) (h:nth roots d≠nth ranks d):∃ i j:Nat,La n up i j∧Bu n i=d∧nth roots d=nth roots (Bu n j)∧nth costs d=nth costs (Bu n j)+Kb n i:=by
 rcases S.der d h0 h1 with h2 | h2
 ·exact zW h2.1 h
 ·exact h2
theorem best_mem {dev:Int} {v:Vec}:v∈Jo n up ranks roots costs dev n.ports.length↔∃ i j:Nat,La n up i j∧Bu n i=dev∧v=⟨nth roots (Bu n j),nth costs (Bu n j)+Kb n i,nth ranks (Bu n j),j,i⟩:=by
 rw[Jo,xN]
 constructor
 ·rintro ⟨i,hi,he⟩
  have hi:=xC.1 hi
  unfold Xv at he
  simp only at he
  split at he
  ·rename_i hc
   simp only[zB,yA,zG]at hc
   obtain ⟨j,hj⟩:∃ j:Nat,Dr n up i=j:=⟨(Dr n up i).toNat,by omega⟩
   rw[hj]at he
   exact⟨i,j,⟨hi,hj⟩,hc.1,(Option.some.inj he).symm⟩
  ·cases he
 ·rintro ⟨i,j,⟨hi,hj⟩,hd,rfl⟩
  refine⟨i,xC.2 hi,?_⟩
  unfold Xv
  have e:(n.ports.getD i default).dev=dev:=hd
  simp only[hj,e]
  rw[zC y_]
  rfl
theorem Xx {d:Int} {i:Nat} (h:Ei n up ranks roots costs d=i):∃ j:Nat,La n up i j∧Bu n i=d∧nth roots d≠nth ranks d∧(Im (Jo n up ranks roots costs d n.ports.length)).1=⟨nth roots (Bu n j),nth costs (Bu n j)+Kb n i,nth ranks (Bu n j),j,i⟩:=by
 have hmem:=@Aoy (Jo n up ranks roots costs d n.ports.length)
 unfold Ei at h
 simp only at h
 split at h
 ·omega
 ·rename_i hc
  simp only[yD,yK,uK,Bool.not_eq_false,yA]at hc
  obtain ⟨i',j,h1,h2,h3⟩:=best_mem.1 (hmem hc.1)
  rw[h3]at h
  have:i'=i:=by simp only at h;omega
  subst this
  exact⟨j,h1,h2,hc.2,h3⟩
theorem Agp (S:Solved n up ranks roots costs) (hr:Ab n=true) {d:Int} (h0:0≤d) (h1:d<n.devices.length) (h:nth roots d≠nth ranks d):∃ i j:Nat,La n up i j∧Bu n i=d∧Ei n up ranks roots costs d=i∧nth costs d=nth costs (Bu n j)+Kb n i:=by
 obtain ⟨p,q,g1,g2,g3,g4⟩:=Ann S h0 h1 h
 have hm:=(best_mem (ranks:=ranks) (roots:=roots) (costs:=costs)).2 ⟨p,q,g1,g2,rfl⟩
 have h2:(Im (Jo n up ranks roots costs d n.ports.length)).2=true:=by
  cases hb:(Im (Jo n up ranks roots costs d n.ports.length)).2
  ·rw[(Ak7 hb).1]at hm;simp at hm
  ·rfl
 obtain ⟨i,j,e1,e2,e3⟩:=best_mem.1 (Aoy h2)
 have hle:=At6 _ _ hm
 rw[e3]at hle
 refine⟨i,j,e1,e2,?_,?_⟩
 ·unfold Ei
  simp only[h2,tJ,vF,yA]
  rw[zA h,e3]
 ·have r1:=Q6 S hr e1
  have v1:=Anm S hr e1
  rw[e2]at r1 v1
  simp only[El]at hle
  grind
theorem Y8 (S:Solved n up ranks roots costs) (hr:Ab n=true) {i j:Nat} (hij:La n up i j) (h:Ei n up ranks roots costs (Bu n i)=i):nth costs (Bu n i)=nth costs (Bu n j)+Kb n i:=by
 have hd:=Ja hr hij.1
 obtain ⟨_,_,_,hne,_⟩:=Xx h
 obtain ⟨i',j',e1,e2,e3,e4⟩:=Agp S hr hd.1 hd.2 hne
 have:i'=i:=by omega
 subst this
 have:j'=j:=by
  have h1:=e1.2
  have h2:=hij.2
  omega
 subst this
 exact e4
theorem Anv (n:Net) (up:List Bool) (ranks costs:List Int) {p:Nat} (hp:p<n.ports.length):nth (Il n up ranks costs n.ports.length) p=Uf n up ranks costs p:=by
 rw[Ae (by rw[Mn];simpa using hp)]
 simp[Il,hp]
theorem Wb (n:Net) (up:List Bool) (ranks roots costs:List Int) {p:Nat} (hp:p<n.ports.length):∀ e:Nat,(∀ d:Nat,d<e→Ei n up ranks roots costs d≠p)→nth (I8 n up ranks roots costs e) p=Uf n up ranks costs p
 | 0,_=>Anv n up ranks costs hp
 | e+1,h=>by
  have ih:=Wb n up ranks roots costs hp e (λ d hd=>h d q_)
  have hne:=h e q_
  rw[I8]
  split
  ·rw[nth,tA q_]
   exact ih
  ·exact ih
theorem Zm (n:Net) (up:List Bool) (ranks roots costs:List Int) {p:Nat} (hp:p<n.ports.length):∀ (e d:Nat),d<e→Ei n up ranks roots costs d=p→nth (I8 n up ranks roots costs e) p=1
 | 0,_,h,_=>zW h q_
 | e+1,d,h,hb=>by
  have hl:=H7 n up ranks roots costs e
  rw[I8]
  by_cases hbe:Ei n up ranks roots costs e=p
  ·rw[hbe,zC q_,nth,zR,wV q_]
   rfl
  ·have hde:d≠e:=λ h=>hbe (by rw[← h];exact hb)
   have ih:=Zm n up ranks roots costs hp e d q_ hb
   split
   ·rw[nth,tA q_]
    exact ih
   ·exact ih
def Vf (n:Net) (up:List Bool) (ranks roots costs:List Int):List Int:=I8 n up ranks roots costs n.devices.length
theorem Yo (hr:Ab n=true) {p:Nat} (hp:p<n.ports.length):nth (Vf n up ranks roots costs) p=if Ei n up ranks roots costs (Bu n p)=p then 1 else Uf n up ranks costs p:=by
 have hd:=Ja hr hp
 split
 ·rename_i h
  refine Zm n up ranks roots costs hp _ (Bu n p).toNat q_ ?_
  rw[yQ hd.1]
  exact h
 ·rename_i h
  refine Wb n up ranks roots costs hp _ (λ d _ hb=>h ?_)
  obtain ⟨_,_,h2,_⟩:=Xx hb
  rw[h2]
  exact hb
theorem As1 {p q:Nat} (h:La n up p q):Uf n up ranks costs p=if nth costs (Bu n p)<nth costs (Bu n q)∨(nth costs (Bu n p)=nth costs (Bu n q)∧nth ranks (Bu n p)<nth ranks (Bu n q)) then 2 else 3:=by
 rw[Uf,h.2,zA q_,zR,Lb]
 have e1:(n.ports.getD p default).dev=Bu n p:=rfl
 have e2:(n.ports.getD q default).dev=Bu n q:=rfl
 simp only[e1,e2,yD,zG,zB,yA]
theorem Adu (S:Solved n up ranks roots costs) (hr:Ab n=true) (hcost:Cn n=true) {i j:Nat} (hij:La n up i j) (h:Ei n up ranks roots costs (Bu n i)=i):nth (Vf n up ranks roots costs) i=1∧nth (Vf n up ranks roots costs) j=2:=by
 have hj:=Qa hr hij
 have hb:=Sz hr hij
 have hc:=Y8 S hr hij h
 have hp:=Wm hcost hij.1
 have hp2:=Wm hcost hj
 refine⟨by rw[Yo hr hij.1,zC h],?_⟩
 rw[Yo hr hj,zA (λ hbj=>?_),As1 hb,zC (.inl q_)]
 have:=Y8 S hr hb hbj
 omega
def Ah7 (roles:List Int) (l:Link):Bool:=inB [nth roles l.a,nth roles l.b] 1 && inB [nth roles l.a,nth roles l.b] 2
def Aul (n:Net) (roles:List Int):List Bool:=n.links.map (Ah7 roles)
theorem Akz (hr:Ab n=true) {k:Nat} (hk:k<n.links.length):∃ a b:Nat,n.links[k].a=a∧n.links[k].b=b∧a<n.ports.length∧b<n.ports.length∧Bu n a≠Bu n b∧(nth n.ports a).link=k∧(nth n.ports b).link=k:=by
 have he:=Lc hr hk
 have hl:=Vg hr hk
 simp only[Kx,zB,yA,yV]at hl
 have ea:((n.links[k].a.toNat:Nat):Int)=n.links[k].a:=by omega
 have eb:((n.links[k].b.toNat:Nat):Int)=n.links[k].b:=by omega
 exact⟨n.links[k].a.toNat,n.links[k].b.toNat,ea.symm,eb.symm,by omega,by omega,by rw[Bu,Bu,ea,eb];exact hl.1.1.2,by rw[ea];exact hl.1.2,by rw[eb];exact hl.2⟩
theorem Wx (_hr:Ab n=true) {k a b:Nat} (hk:k<n.links.length) (ha:n.links[k].a=a) (hb:n.links[k].b=b) (hla:(nth n.ports a).link=k) (hp:a<n.ports.length) (hu:up.getD k false=true):La n up a b:=by
 refine⟨hp,?_⟩
 unfold Dr
 have e:n.ports.getD a default=nth n.ports a:=rfl
 rw[e]
 simp only[hla,zR,hu]
 rw[zA y_,Ae (l:=n.links) (i:=(k:Int)) (by simpa using hk)]
 simp only[zR]
 omega
theorem Afr {k a:Nat} (hla:(nth n.ports a).link=k) (hu:up.getD k false=false):Dr n up a=-1:=by
 unfold Dr
 have e:n.ports.getD a default=nth n.ports a:=rfl
 rw[e]
 simp only[hla,zR,hu,Bool.not_false,Bool.or_true,if_true]
theorem Arj (S:Solved n up ranks roots costs) (hr:Ab n=true) (hcost:Cn n=true) {k a b:Nat} (hk:k<n.links.length) (ha:n.links[k].a=a) (hb:n.links[k].b=b) (hap:a<n.ports.length) (hbp:b<n.ports.length) (hla:(nth n.ports a).link=k) (hlb:(nth n.ports b).link=k) :
  Ah7 (Vf n up ranks roots costs) n.links[k]=true↔up.getD k false=true∧(Ei n up ranks roots costs (Bu n a)=a∨Ei n up ranks roots costs (Bu n b)=b):=by
 rw[Ah7,ha,hb]
 have hne:∀ p:Nat,p<n.ports.length→nth (Vf n up ranks roots costs) p=1→Ei n up ranks roots costs (Bu n p)=p:=λ p hp h=>by
  rw[Yo hr hp]at h
  split at h
  ·assumption
  ·rw[Uf]at h
   split at h
   ·omega
   ·split at h<;>omega
 constructor
 ·intro h
  simp only[inB,List.any_cons,List.any_nil,Bool.or_false,zB,yD,yA]at h
  have hroot:Ei n up ranks roots costs (Bu n a)=a∨Ei n up ranks roots costs (Bu n b)=b:=by
   rcases h.1 with h1 | h1
   ·exact .inl (hne a hap h1)
   ·exact .inr (hne b hbp h1)
  refine⟨?_,hroot⟩
  cases hu:up.getD k false
  ·rcases hroot with h1 | h1
   ·obtain ⟨j,h2,_⟩:=Xx h1
    have:=h2.2
    rw[Afr hla hu]at this
    omega
   ·obtain ⟨j,h2,_⟩:=Xx h1
    have:=h2.2
    rw[Afr hlb hu]at this
    omega
  ·rfl
 ·rintro ⟨hu,h | h⟩
  ·have hop:=Wx hr hk ha hb hla hap hu
   obtain ⟨h1,h2⟩:=Adu S hr hcost hop h
   rw[h1,h2]
   rfl
  ·have hop:=Sz hr (Wx hr hk ha hb hla hap hu)
   obtain ⟨h1,h2⟩:=Adu S hr hcost hop h
   rw[h1,h2]
   rfl
end
end Go.Sy.YtljngfegfclkpaaGreat
namespace Go.Sy.YtljngfegfclkpaaGreat
open Go.Proofs
theorem G_lit {C:Cx} {k:List KI} {s:SS} (d:Nat) {sz:Nat} {α:Type} (e:α→SV) (l:List α) {svs:List SV} (h:s.h d=.lit sz svs) (hl:l.map e=svs) (hg:G C k ⟨s.σ,upd s.h d (.row sz e l)⟩):G C k s:=λ κ a w hs=>by
 refine hg κ a w ⟨hs.defers,hs.size,hs.inv,hs.ctx,hs.slot,λ j=>?_⟩
 show ObOK κ w j (upd s.h d (.row sz e l) j)
 by_cases hj:j=d
 ·subst hj
  rw[Bn]
  have hob:=hs.obj j
  rw[h]at hob
  have hlen:l.length=svs.length:=by rw[← hl,yP]
  obtain ⟨b,cap,cs,T,fr,e1,e2,e3,e4,e5,e6⟩:=hob
  exact .inr ⟨b,cap,cs,T,fr,by rw[hlen];exact e1,e2,e3,e4,by omega,λ i x hx=>by rw[hlen];exact e6 i x (M1 hl i x hx)⟩
 ·rw[Cf _ _ hj];exact hs.obj j
attribute [local irreducible] Go.Sy.G Go.Sy.DR
set_option maxRecDepth 100000
set_option maxHeartbeats 4000000
theorem Abv (n:Net) (up:List Bool) (x:Item) (q:List Item):∀ i,((List.range i).foldl (D2 n up x) q).length≤q.length+i
 | 0=>by simp
 | i+1=>by
  have:=Abv n up x q i
  rw[wL,xB]
  simp only[wT,uM]
  rw[D2]
  split
  ·rw[K5];omega
  ·omega
theorem reachS (n:Net) (up:List Bool) (ranks roots costs:List Int) (hr:Ab n=true) (hu:up.length=n.links.length) (hcost:Cn n=true) (hrk:ranks.length=n.devices.length) (hro:roots.length=n.devices.length) (hc:costs.length=n.devices.length) (hrr:∀ r∈ranks,0≤r) (D:List Item × List Int × List Int) (hD:Kp n up (Ey ranks ranks.length,roots,costs)=D) :
  Sq 144 [.ptr 0 0] (Afe n up ranks roots costs) (.tup []) (Afe n up ranks D.2.1 D.2.2):=cT F144 Tryz.ntmps144 λ F hF=>by
 have hf:=Hb hr
 conv=>whnf
 refine G_lit 10 Bo [] E E ?_
 refine A5 ranks.length (λ j=>[(0,.ptr 0 0),(2,.ptr 11 0),(15,.sl 1 Aa ranks),(16,Aa ranks.length),(17,Aa j)]) (λ j=>[(0,.box (Ud n up ranks (.osl 1) (.osl 2))),(1,.row 1 Aa roots),(2,.row 1 Aa costs),(11,.box [.osl 12]),(12,.row 3 Bo (Ey ranks j))]) [(12,10)]
  ⟨⟨rfl,rfl,rfl,rfl,rfl,rfl,rfl,rfl,rfl,rfl,trivial⟩,⟨.inl rfl,rfl,.inl rfl,rfl,.inl rfl,rfl,.inl rfl,rfl,.inl rfl,rfl,trivial⟩,rfl,rfl⟩ ?_
 intro j hj
 refine oO ?_
 constructor<;>intro h
 ·have hlt:j<ranks.length:=by simpa using h
  have e1:ranks[(j:Int).toNat]'q_=ranks[j]:=rfl
  have hpush:=Af2 (Ey ranks j) ⟨ranks.getD j 0,0,j⟩ (by rw[Mm];omega)
  have hsucc:=J8 ranks j
  rw[Bc (show j<ranks.length by omega)]at hpush hsucc
  refine oO ?_
  refine⟨by omega,by omega,?_⟩
  conv=>whnf
  refine⟨by omega,?_⟩
  rw[e1]
  conv=>whnf
  refine Ag (Ad [(0,11),(1,12),(2,28)] E F213 hpush E ⟨E,E,Y⟩ E ⟨.inl E,.inl E,.inr E,Y⟩) E E ?_
  refine oO ?_
  refine iW ?_
  refine Ax [(12,28)] hlt ⟨⟨E,E,E,E,E,E,E,E,E,E,Y⟩,⟨.inl E,E,.inl E,E,.inl E,E,.inl E,E,.inl (zD (Ob.row 3 Bo) hsucc),E,Y⟩,E,E⟩
 ·have hjl:j=ranks.length:=by
   have:¬ j<ranks.length:=by simpa using h
   omega
  subst hjl
  refine oO ?_
  refine Tk (α:={s:List Item × List Int × List Int // ReachInv n s∧Kp n up s=D}) (λ p=>[(0,.ptr 0 0),(2,.ptr 11 0)]) (λ p=>[(0,.box (Ud n up ranks (.osl 1) (.osl 2))),(1,.row 1 Aa p.1.2.1),(2,.row 1 Aa p.1.2.2),(11,.box [.osl 12]),(12,.row 3 Bo p.1.1)]) (λ p=>reachM p.1) ⟨(Ey ranks ranks.length,roots,costs),Afd n ranks roots costs hr hrk hro hc hrr,hD⟩ []
   ⟨⟨rfl,rfl,rfl,rfl,trivial⟩,⟨.inl rfl,rfl,.inl rfl,rfl,.inl rfl,rfl,.inl rfl,rfl,.inl rfl,rfl,trivial⟩,rfl,rfl⟩ ?_
  rintro ⟨⟨q,ro,co⟩,hI,hDq⟩
  have hlen:=Yp q
  have hdn:=An2 n up (q,ro,co)
  have hds:=Aj7 n up hr hcost (q,ro,co) hI
  dsimp only at hdn hds ⊢
  refine oO ?_
  refine Ag (Ht [12] E F214 hlen (.cons (.row E E) .nil) E E) E E ?_
  refine oO ?_
  constructor<;>intro h2
  ·have hne:q≠[]:=λ e=>by subst e;simp at h2
   have hpop:=Ax3 q hne (by have:=hI.few;simp only at this;omega)
   have hx:=hI.items _ ((Tp q hne).mem_iff.1 (List.getLast_mem (En hne)))
   have hst:Ow n up (q,ro,co)=if 0≤nth ro ((Dq q).getLast (En hne)).dev then ((Dq q).dropLast,ro,co) else ((List.range n.ports.length).foldl (D2 n up ((Dq q).getLast (En hne))) (Dq q).dropLast,ro.set ((Dq q).getLast (En hne)).dev.toNat ((Dq q).getLast (En hne)).root,co.set ((Dq q).getLast (En hne)).dev.toNat ((Dq q).getLast (En hne)).cost):=by
    rw[Ow,Ack hne]
   have hr1:=Ll n up hr hcost (q,ro,co) hI hne
   have hD1:=hds hne
   rw[hDq]at hD1
   rw[hst]at hr1 hD1
   generalize (Dq q).getLast (En hne)=x at *
   have hroL:=hI.rootsL
   have hcoL:=hI.costsL
   dsimp only at hroL hcoL
   rw[Ae (l:=ro) (i:=x.dev) q_]at hr1 hD1
   refine oO ?_
   refine Ag (Ad [(0,11),(1,12),(2,38)] E F215 hpop E ⟨E,E,Y⟩ E ⟨.inl E,.inl E,.inr E,Y⟩) E E ?_
   refine oO ?_
   refine Ag (Z4 Γ.toTy E E E E) E E ?_
   (refine rg ?_;(conv=>whnf);refine aF ?_;refine oD ?_)
   have hx1:=hx.1
   have hx2:=hx.2.1
   refine⟨by omega,by omega,?_⟩
   conv=>whnf
   refine⟨E,by omega,?_⟩
   conv=>whnf
   refine kW ?_
   constructor<;>intro h3
   ·have h30:0≤ro[x.dev.toNat]'q_:=zK h3
    rw[zC h30]at hr1 hD1
    refine oO ?_
    exact U3 (α:={s:List Item × List Int × List Int // ReachInv n s∧Kp n up s=D}) (L:=λ p=>[(0,.ptr 0 0),(2,.ptr 11 0)]) (O:=λ p=>[(0,.box (Ud n up ranks (.osl 1) (.osl 2))),(1,.row 1 Aa p.1.2.1),(2,.row 1 Aa p.1.2.2),(11,.box [.osl 12]),(12,.row 3 Bo p.1.1)]) (μ:=λ p=>reachM p.1) (x:=⟨(q,ro,co),hI,hDq⟩)
     ⟨((Dq q).dropLast,ro,co),hr1.1,hD1.symm⟩ [(12,38)] hr1.2
     ⟨⟨rfl,rfl,rfl,rfl,trivial⟩,⟨.inl rfl,rfl,.inl rfl,rfl,.inl rfl,rfl,.inl rfl,rfl,.inl rfl,rfl,trivial⟩,rfl,rfl⟩
   ·have h30:¬ 0≤ro[x.dev.toNat]'q_:=zN h3
    rw[zA h30]at hr1 hD1
    refine oO ?_
    refine⟨by omega,by omega,?_⟩
    conv=>whnf
    refine⟨by omega,by omega,?_⟩
    conv=>whnf
    refine⟨x.root,E,E,?_⟩
    conv=>whnf
    refine⟨by omega,by omega,E,by omega,x.cost,E,E,?_⟩
    conv=>whnf
    refine kW ?_
    generalize ro.set x.dev.toNat x.root=ro' at *
    generalize co.set x.dev.toNat x.cost=co' at *
    refine A5 n.ports.length (λ j=>[(0,.ptr 0 0),(2,.ptr 11 0),(5,.ptr 5 0),(77,.sl 7 Aw n.ports),(78,Aa n.ports.length),(79,Aa j)]) (λ j=>[(0,.box (Ud n up ranks (.osl 1) (.osl 2))),(1,.row 1 Aa ro'),(2,.row 1 Aa co'),(5,.box [Aa x.root,Aa x.cost,Aa x.dev]),(11,.box [.osl 12]),(12,.row 3 Bo ((List.range j).foldl (D2 n up x) (Dq q).dropLast))]) [(12,38)]
     ⟨⟨rfl,rfl,rfl,rfl,rfl,rfl,rfl,rfl,rfl,rfl,rfl,rfl,trivial⟩,⟨.inl rfl,rfl,.inl rfl,rfl,.inl rfl,rfl,.inl rfl,rfl,.inl rfl,rfl,.inl rfl,rfl,trivial⟩,rfl,rfl⟩ ?_
    intro j hj
    refine oO ?_
    constructor<;>intro h4
    ·have hlt:j<n.ports.length:=by simpa using h4
     have e1:n.ports[(j:Int).toNat]'q_=n.ports[j]:=rfl
     have hfar:=farR n up ranks ro' co' j hr hu hlt
     have hql:(Dq q).dropLast.length≤q.length:=by rw[uZ,Et];omega
     have hlenQ:=Abv n up x (Dq q).dropLast j
     have hfew:=hI.few
     dsimp only at hfew
     have hsucc:(List.range (j+1)).foldl (D2 n up x) (Dq q).dropLast=D2 n up x ((List.range j).foldl (D2 n up x) (Dq q).dropLast) j:=by
      rw[wL,xB];rfl
     generalize (List.range j).foldl (D2 n up x) (Dq q).dropLast=Q at *
     rw[D2,Bc hlt]at hsucc
     refine oO ?_
     refine⟨by omega,by omega,?_⟩
     conv=>whnf
     refine⟨by omega,?_⟩
     rw[e1]
     conv=>whnf
     refine Ag (Ad [] E F145 hfar E ⟨E,E,E,Y⟩ E ⟨.inl E,.inl E,.inl E,Y⟩) E E ?_
     refine oO ?_
     constructor<;>intro h5
     ·refine oO ?_
      constructor<;>intro h6
      ·have hk0:0≤Dr n up j:=zK h6
       have hk1:=Adb (up:=up) hr hlt hk0
       rw[zC ⟨by simpa using h5,hk0⟩,Ae (l:=n.ports) (i:=Dr n up j) q_]at hsucc
       have hpc:1≤(n.ports[(Dr n up j).toNat]'q_).cost∧(n.ports[(Dr n up j).toNat]'q_).cost≤65535:=by
        simp only[Cn,yK,wQ]at hcost
        have:=hcost _ (zE (show (Dr n up j).toNat<n.ports.length by omega))
        simp only[Hl,yD,zG,uK]at this
        omega
       have hxc:=hx.2.2.2
       have hpush:=Af2 Q ⟨x.root,x.cost+(n.ports[(Dr n up j).toNat]'q_).cost,(n.ports[(Dr n up j).toNat]'q_).dev⟩ q_
       refine oO ?_
       refine⟨E,hk0,by omega,?_⟩
       conv=>whnf
       refine iW ?_
       refine⟨E,hk0,by omega,?_⟩
       conv=>whnf
       refine Bs (Ad [(0,11),(1,12),(2,123)] E F213 hpush E ⟨E,E,Y⟩ E ⟨.inl E,.inl E,.inr E,Y⟩) z_ E ?_
       refine oD ?_
       refine kW ?_
       refine iW ?_
       refine Ax [(12,123)] hlt ⟨⟨E,E,E,E,E,E,E,E,E,E,E,E,Y⟩,⟨.inl E,E,.inl E,E,.inl E,E,.inl E,E,.inl E,E,.inl (zD (Ob.row 3 Bo) hsucc),E,Y⟩,E,E⟩
      ·rw[zA (λ hh=>(zN h6) hh.2)]at hsucc
       refine oO ?_
       refine iW ?_
       refine Ax [] hlt ⟨⟨E,E,E,E,E,E,E,E,E,E,E,E,Y⟩,⟨.inl E,E,.inl E,E,.inl E,E,.inl E,E,.inl E,E,.inl (zD (Ob.row 3 Bo) hsucc),E,Y⟩,E,E⟩
     ·rw[zA (λ hh=>zW hh.1 (by simpa using h5))]at hsucc
      refine oF ?_
      refine iW ?_
      refine Ax [] hlt ⟨⟨E,E,E,E,E,E,E,E,E,E,E,E,Y⟩,⟨.inl E,E,.inl E,E,.inl E,E,.inl E,E,.inl E,E,.inl (zD (Ob.row 3 Bo) hsucc),E,Y⟩,E,E⟩
    ·have hjl:j=n.ports.length:=by
      have:¬ j<n.ports.length:=by simpa using h4
      omega
     subst hjl
     refine oO ?_
     exact U3 (α:={s:List Item × List Int × List Int // ReachInv n s∧Kp n up s=D}) (L:=λ p=>[(0,.ptr 0 0),(2,.ptr 11 0)]) (O:=λ p=>[(0,.box (Ud n up ranks (.osl 1) (.osl 2))),(1,.row 1 Aa p.1.2.1),(2,.row 1 Aa p.1.2.2),(11,.box [.osl 12]),(12,.row 3 Bo p.1.1)]) (μ:=λ p=>reachM p.1) (x:=⟨(q,ro,co),hI,hDq⟩)
      ⟨((List.range n.ports.length).foldl (D2 n up x) (Dq q).dropLast,ro',co'),hr1.1,hD1.symm⟩ [] hr1.2
      ⟨⟨rfl,rfl,rfl,rfl,trivial⟩,⟨.inl rfl,rfl,.inl rfl,rfl,.inl rfl,rfl,.inl rfl,rfl,.inl rfl,rfl,trivial⟩,rfl,rfl⟩
  ·have he:q=[]:=zQ (by
    have:¬ 0<q.length:=by simpa using h2
    omega)
   have e:D=(q,ro,co):=by rw[← hDq,hdn he]
   rw[e]
   refine oO ?_
   exact A4 E .nil [] (Afe n up ranks ro co) (λ _ h=>h) E E ⟨Y,⟨.inl E,E,.inl E,E,.inl E,E,Y⟩,E,E⟩
end Go.Sy.YtljngfegfclkpaaGreat
namespace Go.Sy.YtljngfegfclkpaaGreat
open Go.Proofs
attribute [local irreducible] Go.Sy.G Go.Sy.DR
set_option maxRecDepth 100000
set_option maxHeartbeats 4000000
def okB (n:Net) (up:List Bool):Bool:=decide (up.length=n.links.length) && (Ab n && Cn n)
theorem ok_iff {n:Net} {up:List Bool}:okB n up=true↔up.length=n.links.length∧Ab n=true∧Cn n=true:=by simp[okB]
def Ko (n:Net) (up:List Bool):List Int:=(Sa n up (Cc n)).2.1
def Ks (n:Net) (up:List Bool):List Int:=(Sa n up (Cc n)).2.2
def Aho (n:Net) (up:List Bool):SV:=Q5 n up (Cc n) (Ko n up) (Ks n up)
theorem Az5 (n:Net) (up:List Bool) (hn:n.Fin) (h:okB n up=false):Sp 80 [Aj n,.sl 1 Ac up] (.tup [.val (.pointer none),Aa 2]):=cT F80 Tryz.ntmps80 λ F hF=>by
 have h':¬ (up.length=n.links.length∧Ab n=true∧Cn n=true):=λ hh=>by rw[ok_iff.2 hh]at h;cases h
 conv=>whnf
 (repeat' (first | (refine⟨λ h=>?_,λ h=>?_⟩<;>(repeat (first | simp only[yV]at h | simp only[bne_eq_false_iff_eq]at h | simp only[yK]at h | simp only[wC]at h))<;>((refine oO ?_);repeat((refine aT ?_);(refine oO ?_)))) | (refine c0 (Av n hn) F19 ?_;((refine oO ?_))) | (refine c0 (Ayt n hn.ports) F142 ?_;((refine oO ?_))) | refine Ap rfl (.cons .tmp (.cons .tmp .nil)) rfl rfl))
 all_goals exact zW ⟨by omega,by assumption,by assumption⟩ h'
def Qt (m j:Nat):List Int:=List.replicate j (-1)++List.replicate (m-j) 0
theorem Api (m:Nat):Qt m 0=List.replicate m 0:=by simp[Qt]
theorem Auq (m:Nat):Qt m m=List.replicate m (-1):=by simp[Qt]
theorem Aie (m j:Nat) (h:j≤m):(Qt m j).length=m:=by simp[Qt];omega
theorem Apj (m j:Nat) (h:j<m):Qt m (j+1)=(Qt m j).set j (-1):=by
 have e:m-j=(m-(j+1))+1:=by omega
 rw[Qt,Qt,e,uX _ _ y_,xM,uU,List.replicate_succ' (n:=j),tH (n:=m-(j+1))]
 simp
theorem openOK (n:Net) (up:List Bool) (hn:n.Fin) (hu:up.length=n.links.length) (hr:Ab n=true) (hcost:Cn n=true):Sp 80 [Aj n,.sl 1 Ac up] (.tup [Aho n up,Aa 0]):=cT F80 Tryz.ntmps80 λ F hF=>by
 have hf:=Hb hr
 have hrt:=Av n hn
 have hct:=Ayt n hn.ports
 have hrs:=ranksS n hn
 rw[hr]at hrt
 rw[hcost]at hct
 rw[hr,zC rfl]at hrs
 have hrk:=H8 n
 have hrr:∀ r∈Cc n,0≤r:=λ r h=>(Zp n r h).1
 have hsv:Aho n up=Q5 n up (Cc n) (Sa n up (Cc n)).2.1 (Sa n up (Cc n)).2.2:=rfl
 rw[hsv]
 generalize Cc n=ranks at *
 have hreach:=λ D hD=>reachS n up ranks (List.replicate n.devices.length (-1)) (List.replicate n.devices.length 0) hr hu hcost hrk y_ y_ hrr D hD
 have hRT:Kp n up (Ey ranks ranks.length,List.replicate n.devices.length (-1),List.replicate n.devices.length 0)=Sa n up ranks:=rfl
 generalize Sa n up ranks=D at *
 have hreach:=hreach D hRT
 clear hRT hsv
 conv=>whnf
 refine⟨λ h=>zW h (by simp[hu]),λ h=>?_⟩
 refine oO ?_
 refine c0 hrt F19 ?_
 refine oF ?_
 refine c0 hct F142 ?_
 refine oF ?_
 refine cD hrs F143 ?_
 refine oD ?_
 refine Bs (Bw Γ.toTy (d:=31) (n:=n.devices.length) Aa 0 E E E E E E E E q_ q_ E E E) z_ E ?_
 refine oD ?_
 refine Bs (Bw Γ.toTy (d:=35) (n:=n.devices.length) Aa 0 E E E E E E E E q_ q_ E E E) z_ E ?_
 refine oD ?_
 refine kW ?_
 refine A5 n.devices.length (λ j=>[(6,.ptr 37 0),(42,Aa (List.replicate n.devices.length (0:Int)).length),(43,Aa j)]) (λ j=>[(37,.box (Ud n up ranks (.osl 31) (.osl 35))),(31,.row 1 Aa (Qt n.devices.length j)),(35,.row 1 Aa (List.replicate n.devices.length 0))]) []
  ⟨⟨rfl,rfl,rfl,rfl,rfl,rfl,trivial⟩,⟨.inl rfl,rfl,.inl (by rw[Api];rfl),rfl,.inl rfl,rfl,trivial⟩,rfl,rfl⟩ ?_
 intro j hj
 have hlen:=Aie n.devices.length j hj
 refine oO ?_
 constructor<;>intro h
 ·have hlt:j<n.devices.length:=by simpa using h
  have hsucc:=Apj n.devices.length j hlt
  generalize Qt n.devices.length j=u at *
  refine oO ?_
  refine⟨by omega,by omega,?_⟩
  conv=>whnf
  refine⟨E,by omega,-1,E,E,?_⟩
  conv=>whnf
  refine iW ?_
  exact Ax [] hlt ⟨⟨E,E,E,E,E,E,Y⟩,⟨.inl E,E,.inl (zD (Ob.row 1 Aa) hsucc),E,.inl E,E,Y⟩,E,E⟩
 have hjl:j=n.devices.length:=by
  have:¬ j<n.devices.length:=by simpa using h
  omega
 subst hjl
 have hall:=Auq n.devices.length
 rw[← hall]at hreach
 refine oO ?_
 refine Ag (Ad [(0,37),(1,31),(2,35)] E F144 hreach E ⟨E,E,E,Y⟩ E ⟨.inl E,.inl E,.inl E,Y⟩) E E ?_
 refine Ai 31 E ?_
 refine Ai 35 E ?_
 refine Az 37 12 (.agg (Ud n up ranks (.sl 1 Aa D.2.1) (.sl 1 Aa D.2.2))) E E E ?_
 refine oO ?_
 exact dN
theorem L9 {n:Net} {up:List Bool} (h:okB n up=true):Solved n up (Cc n) (Ko n up) (Ks n up):=by
 obtain ⟨hu,hr,hcost⟩:=ok_iff.1 h
 exact Aea n up (Cc n) hr hcost (H8 n) (λ r h=>(Zp n r h).1)
def Abr (n:Net) (up:List Bool):List Int:=Vf n up (Cc n) (Ko n up) (Ks n up)
def Y4 (n:Net) (up:List Bool):List Bool:=Aul n (Abr n up)
theorem Ad9 (n:Net) (up:List Bool):(Abr n up).length=n.ports.length:=H7 ..
theorem Aoi (n:Net) (up:List Bool) (h:okB n up=true):Sp 81 [Aho n up] (.sl 1 Aa (Abr n up)):=by
 obtain ⟨hu,hr,hcost⟩:=ok_iff.1 h
 have S:=L9 h
 exact rolesS n up (Cc n) (Ko n up) (Ks n up) hr hu hcost (H8 n) S.rootsL S.costsL (λ c hc=>by have:=S.bound c hc;omega)
theorem Ac4 (n:Net) (up:List Bool) (hn:n.Fin) (h:okB n up=false):Sp 33 [Aj n,.sl 1 Ac up] (.tup [.sl 1 Ac [],Aa 2]):=cT F33 Tryz.ntmps33 λ F hF=>by
 conv=>whnf
 refine c0 (Az5 n up hn h) F80 ?_
 refine oT ?_
 refine Ao 4 1 Ac E ?_
 exact dN
def Aau (n:Net) (roles:List Int) (j:Nat):List Bool:=(n.links.take j).map (Ah7 roles)++List.replicate (n.links.length-j) false
theorem Auj (n:Net) (roles:List Int):Aau n roles 0=List.replicate n.links.length false:=by simp[Aau]
theorem Aye (n:Net) (roles:List Int):Aau n roles n.links.length=Aul n roles:=by simp[Aau,Aul]
theorem Alo (n:Net) (roles:List Int) (j:Nat) (h:j≤n.links.length):(Aau n roles j).length=n.links.length:=by simp[Aau];omega
theorem Auk (n:Net) (roles:List Int) (j:Nat) (h:j<n.links.length):Aau n roles (j+1)=(Aau n roles j).set j (Ah7 roles n.links[j]):=by
 have e:n.links.length-j=(n.links.length-(j+1))+1:=by omega
 have el:((n.links.take j).map (Ah7 roles)).length=j:=by simp;omega
 rw[Aau,Aau,uX _ _ q_,el,uU,zY h,wK,e,tH,vZ]
 simp
theorem Agb (n:Net) (up:List Bool) (hn:n.Fin) (h:okB n up=true):Sp 33 [Aj n,.sl 1 Ac up] (.tup [.sl 1 Ac (Y4 n up),Aa 0]):=cT F33 Tryz.ntmps33 λ F hF=>by
 obtain ⟨hu,hr,hcost⟩:=ok_iff.1 h
 have hf:=Hb hr
 have ho:=openOK n up hn hu hr hcost
 have hro:=Aoi n up h
 have hrl:=Ad9 n up
 rw[Y4]
 generalize Abr n up=roles at *
 unfold Aho at ho hro
 generalize Cc n=ranks at *
 generalize Ko n up=roots at *
 generalize Ks n up=costs at *
 conv=>whnf
 refine c0 ho F80 ?_
 refine oF ?_
 refine c0 hro F81 ?_
 refine oO ?_
 refine Ag (Bw Γ.toTy (d:=27) (n:=n.links.length) Ac false E E E E E E E E q_ q_ E E E) E E ?_
 rw[← Auj n roles]
 refine oO ?_
 refine A5 n.links.length (λ j=>[(8,.sl 1 Aa roles),(9,.osl 27),(29,.sl 3 Br n.links),(30,Aa n.links.length),(31,Aa j)]) (λ j=>[(27,.row 1 Ac (Aau n roles j))]) []
  ⟨⟨rfl,rfl,rfl,rfl,rfl,rfl,rfl,rfl,rfl,rfl,trivial⟩,⟨.inl rfl,rfl,trivial⟩,rfl,rfl⟩ ?_
 intro j hj
 have hall:=Aye n roles
 refine oO ?_
 constructor<;>intro h
 ·have hlt:j<n.links.length:=by simpa using h
  have he:=Lc hr hlt
  have e1:n.links[(j:Int).toNat]'q_=n.links[j]:=rfl
  have hlen:=Alo n roles j hj
  have hsucc:=Auk n roles j hlt
  generalize Aau n roles j=u at *
  generalize n.links[j]=l at *
  rw[Ah7,Ae (l:=roles) (i:=l.a) q_,Ae (l:=roles) (i:=l.b) q_]at hsucc
  refine oO ?_
  refine⟨E,by omega,by omega,?_⟩
  rw[e1]
  conv=>whnf
  refine⟨E,by omega,by omega,?_⟩
  conv=>whnf
  refine⟨E,by omega,by omega,?_⟩
  conv=>whnf
  refine kW ?_
  have hA:0≤l.a∧l.a<roles.length:=by omega
  have hB:0≤l.b∧l.b<roles.length:=by omega
  obtain ⟨x,hx⟩:∃ x,roles[l.a.toNat]'q_=x:=⟨_,rfl⟩
  obtain ⟨y,hy⟩:∃ y,roles[l.b.toNat]'q_=y:=⟨_,rfl⟩
  rw[hx,hy]at hsucc
  refine Amu 46 (e:=Aa) (l:=[x,y]) E (by rw[← hx,← hy];rfl) ?_
  refine Ai 46 E ?_
  refine c0 (Dp [x,y] 1 (by unfold Ak;simp)) F21 ?_
  refine oO ?_
  constructor<;>intro h1
  ·rw[h1,zS]at hsucc
   refine oO ?_
   refine c0 (Dp [x,y] 2 (by unfold Ak;simp)) F21 ?_
   refine oO ?_
   refine⟨by omega,by omega,?_⟩
   conv=>whnf
   refine⟨E,by omega,inB [x,y] 2,E,E,?_⟩
   conv=>whnf
   refine iW ?_
   exact Ax [] hlt ⟨⟨E,E,E,E,E,E,E,E,E,E,Y⟩,⟨.inl (zD (Ob.row 1 Ac) hsucc),E,Y⟩,E,E⟩
  ·rw[h1,zT]at hsucc
   refine oO ?_
   refine⟨by omega,by omega,?_⟩
   conv=>whnf
   refine⟨E,by omega,false,E,E,?_⟩
   conv=>whnf
   refine iW ?_
   exact Ax [] hlt ⟨⟨E,E,E,E,E,E,E,E,E,E,Y⟩,⟨.inl (zD (Ob.row 1 Ac) hsucc),E,Y⟩,E,E⟩
 have hjl:j=n.links.length:=by
  have:¬ j<n.links.length:=by simpa using h
  omega
 subst hjl
 rw[← hall]
 refine oO ?_
 refine Ai 27 E ?_
 exact dN
end Go.Sy.YtljngfegfclkpaaGreat
namespace Go.Sy.YtljngfegfclkpaaGreat
open Go.Proofs
structure MacM where
 up:List Bool
 tables:List (List EntryM)
 queues:List (List QueuedM)
 now:Int
 injected:Int
 drops:Nat→Int
def Cv (m:MacM) (e:Int):MacM:=⟨m.up,m.tables,m.queues,m.now,m.injected,λ i=>if i=e.toNat then m.drops i+1 else m.drops i⟩
def queueL (m:MacM) (dom:Int):List QueuedM:=(m.queues[dom.toNat]?).getD []
def tableL (m:MacM) (dom:Int):List EntryM:=(m.tables[dom.toNat]?).getD []
def Mz (m:MacM) (dom:Int) (l:List QueuedM):MacM:=⟨m.up,m.tables,m.queues.set dom.toNat l,m.now,m.injected,m.drops⟩
def D9 (m:MacM) (dom:Int) (t:List EntryM):MacM:=⟨m.up,m.tables.set dom.toNat t,m.queues,m.now,m.injected,m.drops⟩
def comeM (m:MacM) (dom:Int) (q:QueuedM) (e:Int):MacM :=
 if e≠0 then Cv m e else if (pushT (queueL m dom) q).2=true then Mz m dom (pushT (queueL m dom) q).1 else Cv m 3
def takeM (m:MacM) (dom at_:Int):MacM × QueuedM × Bool :=
 if Af dom m.queues.length=false then (m,noQ,false)
 else (Mz m dom (takeT (queueL m dom) at_).2.1,(takeT (queueL m dom) at_).1,(takeT (queueL m dom) at_).2.2)
def injectT (n:Net) (m:MacM) (port:Int) (b:List UInt8):MacM :=
 if Af port n.ports.length=false∨0≤(nth n.ports port).link then m
 else comeM ⟨m.up,m.tables,m.queues,m.now,m.injected+1,m.drops⟩ (enterT n port b).1 ⟨port,0,m.injected+1,(enterT n port b).2.1⟩ (enterT n port b).2.2
def goesM (n:Net) (m:MacM) (o:OutM) (origin:Int):MacM × List SeenM :=
 if o.kind=1 then (m,[⟨o.port,origin,o.bytes⟩])
 else if o.kind=2 then (comeM m (linkT n o.port o.bytes).2.1 ⟨(linkT n o.port o.bytes).1,0,origin,(linkT n o.port o.bytes).2.2.1⟩ (linkT n o.port o.bytes).2.2.2,[])
 else if o.kind=3 then (comeM m (comeT n o.bytes).2.1 ⟨-1,(comeT n o.bytes).1,origin,(comeT n o.bytes).2.2.1⟩ (comeT n o.bytes).2.2.2,[])
 else if o.kind=4 then (comeM m o.domain ⟨-2,0,origin,o.frame⟩ 0,[])
 else (Cv m o.error,[])
def Bl (n:Net) (m:MacM) (origin:Int):List OutM→MacM × List SeenM
 | []=>(m,[])
 | o::l=>((Bl n (goesM n m o origin).1 origin l).1,(goesM n m o origin).2++(Bl n (goesM n m o origin).1 origin l).2)
def I4 (n:Net) (up:List Bool):List Bool:=if okB n up=true then Y4 n up else []
def Wl (n:Net) (m:MacM) (dom:Int) (q:QueuedM):List EntryM × List OutM × Int:=bridgeT n (I4 n m.up) (tableL m dom) dom q m.now
def Sf (m:MacM) (dom:Int) (r:List EntryM × List OutM × Int):MacM :=
 if r.2.2=2 then Cv m 2 else if r.2.2≠0 then Cv (D9 m dom r.1) r.2.2 else D9 m dom r.1
def pickT (n:Net) (m:MacM) (dom at_:Int):MacM × List SeenM :=
 if (takeM m dom at_).2.2=false then ((takeM m dom at_).1,[])
 else Bl n (Sf (takeM m dom at_).1 dom (Wl n (takeM m dom at_).1 dom (takeM m dom at_).2.1)) (takeM m dom at_).2.1.origin (Wl n (takeM m dom at_).1 dom (takeM m dom at_).2.1).2.1
def Uc (m:MacM):MacM :=
 let now:=min (m.now+1) 1099511627776
 ⟨m.up,m.tables.map (λ t=>ageT t now),m.queues,now,m.injected,m.drops⟩
def doT (n:Net) (m:MacM) (x:StepM):MacM × List SeenM :=
 if x.kind=1 then (injectT n m x.port x.bytes,[])
 else if x.kind=2 then pickT n m x.domain x.at_
 else if x.kind=3 then ((takeM m x.domain x.at_).1,[])
 else if x.kind=4 then (Uc m,[])
 else if x.kind=5 then ((if x.up.length=n.links.length then ⟨x.up,m.tables,m.queues,m.now,m.injected,m.drops⟩ else m),[])
 else (m,[])
def newT (n:Net):MacM:=⟨List.replicate n.links.length true,List.replicate n.domains.length [],List.replicate n.domains.length [],0,0,λ _=>0⟩
def Ds (n:Net):MacM→List StepM→MacM × List SeenM
 | m,[]=>(m,[])
 | m,x::l=>((Ds n (doT n m x).1 l).1,(doT n m x).2++(Ds n (doT n m x).1 l).2)
def B4 (e:Int):Prop:=0≤e∧e<64
def DomIn (n:Net) (d:Int):Prop:=0≤d∧d.toNat<n.domains.length
theorem Lo {n:Net} {d:Int} (h:Af d n.domains.length=true):DomIn n d:=by
 have:=Ci h
 unfold DomIn
 omega
theorem Yg (b:List UInt8):B4 (takeF b).2:=by
 unfold takeF B4
 repeat' split
 all_goals (dsimp only;omega)
theorem Am5 (f:FrameM):B4 (stripT f).2.2.2:=by
 unfold stripT B4
 repeat' split
 all_goals (dsimp only;omega)
theorem Adc (n:Net) (port:Int) (b:List UInt8):B4 (enterT n port b).2.2:=by
 have h1:=Yg b
 have h2:=Am5 (takeF b).1
 have h3:∀ f tg v,B4 (Ip n port f tg v).2.2:=λ f tg v=>by
  unfold Ip B4
  repeat' split
  all_goals (dsimp only;omega)
 unfold enterT
 split
 ·unfold B4;dsimp only;omega
 split
 ·exact h1
 split
 ·split
  ·exact h2
  ·exact h3 _ _ _
 ·exact h3 _ _ _
theorem At3 (n:Net) (port:Int) (b:List UInt8):B4 (linkT n port b).2.2.2:=by
 unfold linkT
 split
 ·unfold B4;dsimp only;omega
 ·exact Adc _ _ _
theorem Aot (n:Net) (port dom:Int) (f:FrameM):B4 (leaveT n port dom f).2:=by
 unfold leaveT
 split
 ·unfold B4;dsimp only;omega
 split
 ·unfold B4;dsimp only;omega
 split
 ·unfold B4;dsimp only;omega
 split
 ·unfold B4;dsimp only;omega
 split
 ·show B4 (tagT f (nth n.domains dom).vlan).2
  unfold tagT B4
  repeat' split
  all_goals (dsimp only;omega)
 ·unfold B4;dsimp only;omega
theorem Ar2 (a b:Nat) (v:Int) (f:FrameM):B4 (wrapT a b v f).2:=by
 unfold wrapT B4
 repeat' split
 all_goals (dsimp only;omega)
theorem Ats (n:Net) (dom peer:Int) (f:FrameM):B4 (meshT n dom peer f).2:=by
 unfold meshT
 split
 ·unfold B4;dsimp only;omega
 split
 ·unfold B4;dsimp only;omega
 ·exact Ar2 _ _ _ _
theorem Zy (b:List UInt8):B4 (ipTakeT b).2:=by
 unfold ipTakeT B4
 repeat' split
 all_goals (dsimp only;omega)
theorem Agx (b:List UInt8):B4 (udpTakeT b).2.2.2:=by
 unfold udpTakeT B4
 repeat' split
 all_goals (dsimp only;omega)
theorem Avl (b:List UInt8):B4 (vniT b).2.2:=by
 unfold vniT B4
 repeat' split
 all_goals (dsimp only;omega)
theorem Aog (b:List UInt8):B4 (outerT b).2:=by
 unfold outerT
 split
 ·exact Yg _
 split
 ·unfold B4;dsimp only;omega
 split
 ·exact Zy _
 ·unfold B4;dsimp only;split<;>omega
theorem Ao5 (b:List UInt8):B4 (Kq b).2.2:=by
 unfold Kq
 split
 ·exact Agx _
 split
 ·unfold B4;dsimp only;omega
 split
 ·exact Avl _
 split
 ·exact Yg _
 split
 ·unfold B4;dsimp only;omega
 ·unfold B4;dsimp only;omega
theorem Aje (b:List UInt8):B4 (B8 b).2.2.2.2:=by
 unfold B8
 split
 ·exact Aog _
 split
 ·exact Ao5 _
 ·unfold B4;dsimp only;omega
theorem Auz (n:Net) (b:List UInt8):B4 (comeT n b).2.2.2:=by
 unfold comeT
 split
 ·unfold B4;dsimp only;omega
 split
 ·exact Aje _
 split
 ·unfold B4;dsimp only;omega
 split
 ·unfold B4;dsimp only;omega
 ·unfold B4;dsimp only;omega
theorem Ax1 (n:Net) (irb:Int) (f:FrameM):B4 (hopT n irb f).2.2:=by
 unfold hopT
 split
 ·unfold B4;dsimp only;omega
 split
 ·unfold B4;dsimp only;omega
 split
 ·exact Zy _
 split
 ·unfold B4;dsimp only;omega
 split
 ·unfold B4;dsimp only;omega
 split
 ·unfold B4;dsimp only;omega
 ·unfold B4;dsimp only;omega
theorem Ame (n:Net) (fw:List Bool) (t:List EntryM) (dom:Int) (q:QueuedM) (now:Int):B4 (bridgeT n fw t dom q now).2.2:=by
 unfold bridgeT
 split
 ·unfold B4;dsimp only;omega
 split
 ·split
  ·exact Ax1 _ _ _
  ·unfold B4;dsimp only;omega
 ·unfold B4;dsimp only;omega
theorem Arr {n:Net} {dev v:Int} (h:D1 n dev v=true):DomIn n (Cq n dev v):=by
 have h1:0≤Cq n dev v:=by simpa [D1] using h
 have h2:Cq n dev v<n.domains.length:=Hj _ _
 exact⟨h1,by omega⟩
theorem Avm {n:Net} (hb:Ab n=true) {port:Int} (hp:Af port n.ports.length=true) {tg:Bool} {vid:Int} (h:(vlanT (nth n.ports port) tg vid).2=true):DomIn n (Cq n (nth n.ports port).dev (vlanT (nth n.ports port) tg vid).1):=by
 have hk:=Ci hp
 have hk2:port.toNat<n.ports.length:=by omega
 simp only[Ab,zB]at hb
 have hpb:=allB_iff.1 hb.1.1.1.1.1.2 _ hk2
 rw[Ae hk2]at h ⊢
 generalize n.ports[port.toNat]=p at *
 simp only[Iw,zB]at hpb
 obtain ⟨⟨⟨⟨⟨⟨⟨⟨g1,g2⟩,g3⟩,g4⟩,g5⟩,g6⟩,g7⟩,g8⟩,g9⟩:=hpb
 unfold vlanT at h ⊢
 split
 ·rw[zC (by assumption)]at h
  have h1:p.native≠0:=by simpa using h
  have h2:0≤p.native:=by simpa using g2
  refine Arr ?_
  have h3:decide (0<p.native)=true:=by simp;omega
  rw[h3,zS]at g8
  simpa using g8
 ·rw[zA (by assumption)]at h
  split
  ·rename_i h4
   have h5:vid∈p.tagged:=inB_mem.1 h4
   obtain ⟨i,hi,rfl⟩:=yR.1 h5
   exact Arr (allB_iff.1 g7 i hi)
  ·rw[zA (by assumption)]at h
   cases h
theorem Ade {n:Net} {port:Int} {b:List UInt8} (h:(enterT n port b).2.2=0):DomIn n (enterT n port b).1:=by
 unfold enterT at h ⊢
 split
 ·rw[zC (by assumption)]at h;cases h
 rename_i hc
 rw[zA hc]at h
 have hp:Af port n.ports.length=true:=by cases hx:Af port n.ports.length;exact zW (.inl hx) hc;rfl
 have hb:Ab n=true:=by cases hx:Ab n;exact zW (.inr hx) hc;rfl
 have key:∀ f tg v,(Ip n port f tg v).2.2=0→DomIn n (Ip n port f tg v).1:=λ f tg v h=>by
  unfold Ip at h ⊢
  split
  ·rw[zC (by assumption)]at h;cases h
  rw[zA (by assumption)]at h
  split
  ·rw[zC (by assumption)]at h;cases h
  rename_i h5
  show DomIn n (Bt n _ _)
  rw[Bt,zC hb]
  exact Avm hb hp (by simpa using h5)
 split
 ·rename_i h2
  rw[zC h2]at h
  exact zW h h2
 rename_i h2
 rw[zA h2]at h
 split
 ·rename_i h3
  rw[zC h3]at h
  split
  ·rename_i h4
   rw[zC h4]at h
   exact zW h h4
  ·rename_i h4
   rw[zA h4]at h
   exact key _ _ _ h
 ·rename_i h3
  rw[zA h3]at h
  exact key _ _ _ h
theorem At4 {n:Net} {port:Int} {b:List UInt8} (h:(linkT n port b).2.2.2=0):DomIn n (linkT n port b).2.1:=by
 unfold linkT at h ⊢
 split
 ·rw[zC (by assumption)]at h;cases h
 ·rename_i h2
  rw[zA h2]at h
  exact Ade h
theorem Akh {n:Net} (hb:Ab n=true) {dom:Nat} (hd:dom<n.domains.length) {k:Int} (hk:k∈n.domains[dom].peers):DomIn n k:=by
 simp only[Ab,zB]at hb
 have:=allB_iff.1 hb.1.1.1.1.1.1.2 _ hd
 obtain ⟨i,hi,rfl⟩:=yR.1 hk
 have h2:=allB_iff.1 this i hi
 simp only[M7,zB]at h2
 exact Lo h2.1.1.1.1.1.1.1.1.1
theorem Ayj {n:Net} (hb:Ab n=true) {src dst:Nat} {vni:Int} (h:¬ (endsT n src dst vni).1<0):DomIn n (endsT n src dst vni).1∧DomIn n (endsT n src dst vni).2:=by
 unfold endsT at h ⊢
 dsimp only at h ⊢
 split
 ·rw[zC (by assumption)]at h;exact zW j_ h
 rename_i h1
 rw[zA h1]at h
 split
 ·rw[zC (by assumption)]at h;exact zW j_ h
 rename_i h2
 have hd:=Hj (λ d:Domain=>decide (d.dev=Bg (λ d:Device=>decide (d.vtep=(dst:Int))) n.devices) && decide (d.vni=vni)) n.domains
 generalize Bg (λ d:Domain=>decide (d.dev=Bg (λ d:Device=>decide (d.vtep=(dst:Int))) n.devices) && decide (d.vni=vni)) n.domains=dom at *
 have hd2:dom.toNat<n.domains.length:=by omega
 have hi:=Hj (λ k:Int=>decide (Cr n k=(src:Int))) (nth n.domains dom).peers
 generalize Bg (λ k:Int=>decide (Cr n k=(src:Int))) (nth n.domains dom).peers=i at *
 rw[Ae hd2]at hi ⊢
 have hi2:i.toNat<(n.domains[dom.toNat]).peers.length:=by omega
 refine⟨?_,⟨by dsimp only;omega,hd2⟩⟩
 show DomIn n (nth (n.domains[dom.toNat]).peers i)
 rw[Ae hi2]
 exact Akh hb hd2 (zE hi2)
theorem Agl {n:Net} {b:List UInt8} (h:(comeT n b).2.2.2=0):DomIn n (comeT n b).1∧DomIn n (comeT n b).2.1:=by
 unfold comeT at h ⊢
 split
 ·rw[zC (by assumption)]at h;cases h
 rename_i hb
 rw[zA hb]at h
 split
 ·rename_i h2
  rw[zC h2]at h;exact zW h h2
 rename_i h2
 rw[zA h2]at h
 split
 ·rw[zC (by assumption)]at h;cases h
 rename_i h3
 rw[zA h3]at h
 split
 ·rw[zC (by assumption)]at h;cases h
 exact Ayj (by simpa using hb) h3
theorem Ax2 {n:Net} {irb:Int} {f:FrameM} (hin:∀ (d:Int),(lookT n irb d).2=true→0≤(lookT n irb d).1∧(lookT n irb d).1.toNat<n.irbs.length) (h:(hopT n irb f).2.2=0):DomIn n (hopT n irb f).1:=by
 unfold hopT at h ⊢
 split
 ·rw[zC (by assumption)]at h;cases h
 rename_i h1
 rw[zA h1]at h
 split
 ·rw[zC (by assumption)]at h;cases h
 rename_i h2
 rw[zA h2]at h
 split
 ·rename_i h3
  rw[zC h3]at h;exact zW h h3
 rename_i h3
 rw[zA h3]at h
 split
 ·rw[zC (by assumption)]at h;cases h
 rename_i h4
 rw[zA h4]at h
 split
 ·rw[zC (by assumption)]at h;cases h
 rename_i h5
 rw[zA h5]at h
 split
 ·rw[zC (by assumption)]at h;cases h
 have hl:=hin ((ipTakeT f.body).1.dst:Int) (by simpa using h5)
 have hb:Ab n=true:=by cases hx:Ab n;exact zW (.inr hx) h1;rfl
 have:=(Ef hb hl.2).1
 show DomIn n (nth n.irbs _).domain
 rw[Ae hl.2]
 exact this
end Go.Sy.YtljngfegfclkpaaGreat
namespace Go.Sy.YtljngfegfclkpaaGreat
open Go.Proofs
attribute [local irreducible] Go.Sy.G Go.Sy.DR
set_option maxRecDepth 100000
set_option maxHeartbeats 4000000
theorem Vo (l:List Device) (p:Device→Bool) (f:FuncId) (first cap:List SV) (hc:(SV.clo (.func f) first cap).inn []=true) (hf:∀ x∈l,Hh Tryz.prog f (first++[Aq x]++cap) (Ac (p x))) (hl:Ak l) :
  Sp 203 [.sl 5 Aq l,.clo (.func f) first cap] (Aa (Bg p l)):=cT F203 Tryz.ntmps203 λ F hF=>by
 unfold Ak at hl
 have hin:∀ x:Device,B7 [] (first++[Aq x]++cap)=true:=λ x=>C2 hc rfl
 refine fW ?_
 refine Bi l.length (λ j=>Ir (λ _ x=>!(p x)) l j) (λ j=>[(0,.sl 5 Aq l),(1,.clo (.func f) first cap),(7,Aa l.length),(8,Aa j)]) (λ _=>[]) [] (Bp _ _) ⟨⟨E,E,A9 _,hc,E,E,E,E,Y⟩,Y,E,E⟩ ?_
 intro j hj hI
 refine fU ?_
 constructor<;>intro h
 ·have h:=zK h
  have hj2:j<l.length:=by omega
  refine fU ?_
  refine⟨E,by omega,by omega,?_⟩
  refine fW ?_
  refine Eg (hf l[j] (zE hj2)) E E E (by simp only[hin];rfl) E E ?_
  refine fU ?_
  constructor<;>intro h2
  ·refine fU ?_
   refine Ap E (.cons .tmp .nil) (zD Aa ?_) E
   exact Cj hj2 (λ i hi hij=>by simpa using hI i hi hij) h2
  ·refine fU ?_
   refine iL ?_
   refine fW ?_
   exact Be [] hI hj2 (Bj hI hj2 (by simp[h2])) ⟨⟨E,E,A9 _,hc,E,E,E,E,Y⟩,Y,E,E⟩
 ·have h:=zN h
  refine fU ?_
  refine Ap E (.cons .tmp .nil) (zD Aa ?_) E
  exact Dg (λ i hi=>by simpa using hI i hi q_)
theorem Aii {n:Net} (hb:Ab n=true) {d:Int} (hd:DomIn n d):0≤(n.domains[d.toNat]'hd.2).dev∧(n.domains[d.toNat]'hd.2).dev.toNat<n.devices.length:=by
 simp only[Ab,zB]at hb
 have:=Amj hb.1.1.1.1.1.1.1.2 hd.2
 have:=Ci this
 omega
theorem Ai3 {n:Net} (hb:Ab n=true) {d:Int} (hd:DomIn n d):Cr n d=(n.devices[(n.domains[d.toNat]'hd.2).dev.toNat]'(Aii hb hd).2).vtep:=by
 rw[Cr,Ae hd.2,Ae (Aii hb hd).2]
theorem Ai2 {n:Net} (hm:n.Num) (hb:Ab n=true) {d:Int} (hd:DomIn n d):0≤Cr n d∧Cr n d<4294967296:=by
 rw[Ai3 hb hd]
 exact hm.vtep _ (zE _)
theorem Vm (n:Net) (hb:Ab n=true) (d:Int) (hd:DomIn n d):Sp 232 [Aj n,Aa d] (A8 (Cr n d)):=cT F232 Tryz.ntmps232 λ F hF=>by
 have hv:=Ai3 hb hd
 have h2:=Aii hb hd
 obtain ⟨x,hx⟩:∃ x,n.domains[d.toNat]'hd.2=x:=⟨_,rfl⟩
 rw[hx]at h2
 simp only[hx]at hv
 obtain ⟨y,hy⟩:∃ y,n.devices[x.dev.toNat]'h2.2=y:=⟨_,rfl⟩
 rw[hy]at hv
 rw[hv]
 conv=>whnf
 refine⟨E,hd.1,hd.2,?_⟩
 rw[hx]
 conv=>whnf
 refine⟨E,h2.1,h2.2,?_⟩
 rw[hy]
 conv=>whnf
 refine kW ?_
 exact dN
theorem Aou (n:Net) (hn:n.Fin) (hm0:n.Num) (dom peer:Int) (f:FrameM) (h:FrameOK f) :
  Sp 160 [Aj n,Aa dom,Aa peer,Cw f] (.tup [.sl 1 Al (meshT n dom peer f).1,Aa (meshT n dom peer f).2]):=cT F160 Tryz.ntmps160 λ F hF=>by
 have hres:=meshT.eq_1 n dom peer f
 generalize meshT n dom peer f=res at *
 have hr:=Av n hn
 have hpS:=Mf peer n.domains.length
 have hdS:=Mf dom n.domains.length
 conv=>whnf
 refine Az 4 8 (Aj n) E E E ?_
 refine Az 7 4 (Cw f) E E E ?_
 refine oO ?_
 refine c0 hpS F228 ?_
 cases hpl:Af peer n.domains.length
 ·rw[zC (.inl hpl)]at hres
  subst hres
  (refine oT ?_;refine bT ?_;refine bT ?_)
  refine Ao 8 1 Al E ?_
  exact dN
 refine oF ?_
 refine c0 hdS F228 ?_
 cases hdl:Af dom n.domains.length
 ·rw[zC (.inr (.inl hdl))]at hres
  subst hres
  (refine oT ?_;refine bT ?_)
  refine Ao 8 1 Al E ?_
  exact dN
 refine oF ?_
 refine c0 hr F19 ?_
 cases hbn:Ab n
 ·rw[zC (.inr (.inr hbn))]at hres
  subst hres
  refine oT ?_
  refine Ao 8 1 Al E ?_
  exact dN
 rw[zA (by simp[hbn,hpl,hdl])]at hres
 have hd:=Lo hdl
 have hp:=Lo hpl
 have hd0:=hd.1
 have hkd:=hd.2
 have e2:nth n.domains dom=n.domains[dom.toNat]:=Ae hkd
 have hpe:=hn.peers _ (zE hkd)
 have va:=Ai2 hm0 hbn hd
 have vb:=Ai2 hm0 hbn hp
 have qa:=Vm n hbn dom hd
 have qb:=Vm n hbn peer hp
 generalize Cr n dom=a at *
 generalize Cr n peer=c at *
 obtain ⟨a,rfl⟩:=yZ va.1
 obtain ⟨c,rfl⟩:=yZ vb.1
 rw[zR,zR]at hres
 obtain ⟨d,hdd⟩:∃ d,n.domains[dom.toNat]'hkd=d:=⟨_,rfl⟩
 rw[hdd]at e2 hpe
 rw[e2]at hres
 have qc:=Dp d.peers peer hpe
 have qw:=Azh a c d.vni f q_ q_ h
 refine oF ?_
 refine⟨E,hd0,hkd,?_⟩
 rw[hdd]
 conv=>whnf
 refine c0 qc F21 ?_
 cases hi:inB d.peers peer
 ·rw[zC hi]at hres
  subst hres
  refine oT ?_
  refine Ao 8 1 Al E ?_
  exact dN
 rw[zA (by rw[hi];decide)]at hres
 subst hres
 refine oF ?_
 refine cD qa F232 ?_
 refine oD ?_
 refine cD qb F232 ?_
 refine oD ?_
 refine⟨E,hd0,hkd,?_⟩
 rw[hdd]
 conv=>whnf
 refine cD qw F231 ?_
 refine oD ?_
 refine kW ?_
 exact dN
theorem endsC1 (dst:Int) (d:Device):Sp 294 [Aq d,.ref 1 (A8 dst) 0] (Ac (decide (d.vtep=dst))):=cT F294 Tryz.ntmps294 λ F hF=>by
 conv=>whnf
 refine Ap E (.cons .tmp .nil) (zD Ac ?_) E
 rw[xO]
 simp
theorem endsC2 (dev vni:Int) (d:Domain):Sp 295 [An d,.ref 1 (Aa dev) 0,.ref 1 (Aa vni) 0] (Ac (decide (d.dev=dev) && decide (d.vni=vni))):=cT F295 Tryz.ntmps295 λ F hF=>by
 conv=>whnf
 constructor<;>intro h
 ·have h1:d.dev=dev:=by simpa using h
  refine oO ?_
  refine Ap E (.cons .tmp .nil) (zD Ac ?_) E
  rw[zL h1,zS,xO]
  simp
 ·have h1:¬ d.dev=dev:=by simpa using h
  refine oO ?_
  refine Ap E (.cons .tmp .nil) (zD Ac ?_) E
  rw[zJ h1,zT]
theorem endsC3 (n:Net) (hb:Ab n=true) (src:Int) (k:Int) (hk:DomIn n k):Sp 297 [Aa k,.ref 8 (Aj n) 0,.ref 1 (A8 src) 0] (Ac (decide (Cr n k=src))):=cT F297 Tryz.ntmps297 λ F hF=>by
 have q:=Vm n hb k hk
 conv=>whnf
 refine cD q F232 ?_
 refine oD ?_
 refine kW ?_
 refine Ap E (.cons .tmp .nil) (zD Ac ?_) E
 rw[xO]
 simp
theorem endsS (n:Net) (hn:n.Fin) (hb:Ab n=true) (src dst:Nat) (vni:Int) :
  Sp 236 [Aj n,A8 src,A8 dst,Aa vni] (.tup [Aa (endsT n src dst vni).1,Aa (endsT n src dst vni).2]):=cT F236 Tryz.ntmps236 λ F hF=>by
 have hres:=endsT.eq_1 n src dst vni
 dsimp only at hres
 generalize endsT n src dst vni=res at *
 have q1:=Vo n.devices (λ d=>decide (d.vtep=(dst:Int))) 294 [] [.ref 1 (A8 dst) 0] rfl (λ d _=>⟨⟨_,_,F294⟩,endsC1 dst d⟩) hn.devices
 generalize Bg (λ d:Device=>decide (d.vtep=(dst:Int))) n.devices=dev at *
 have q2:=Ec n.domains (λ d=>decide (d.dev=dev) && decide (d.vni=vni)) 295 [] [.ref 1 (Aa dev) 0,.ref 1 (Aa vni) 0] rfl (λ d _=>⟨⟨_,_,F295⟩,endsC2 dev vni d⟩) hn.domains
 have hlt:=Hj (λ d:Domain=>decide (d.dev=dev) && decide (d.vni=vni)) n.domains
 generalize Bg (λ d:Domain=>decide (d.dev=dev) && decide (d.vni=vni)) n.domains=dom at *
 refine fW ?_
 refine Az 4 8 (Aj n) E E E ?_
 refine Az 5 1 (A8 src) E E E ?_
 refine Az 6 1 (A8 dst) E E E ?_
 refine Az 7 1 (Aa vni) E E E ?_
 refine fU ?_
 refine c0 q1 F203 ?_
 refine fU ?_
 refine Az 10 1 (Aa dev) E E E ?_
 refine fU ?_
 refine c0 q2 F170 ?_
 refine fU ?_
 constructor<;>intro h
 ·rw[zC (.inl (zK h))]at hres
  subst hres
  refine fU ?_
  exact dN
 have h1:=zN h
 clear h
 refine fU ?_
 constructor<;>intro h
 ·rw[zC (.inr (zK h))]at hres
  subst hres
  refine fU ?_
  exact dN
 have h2:=zN h
 clear h
 rw[zA (λ h=>h.elim h1 h2)]at hres
 have hd0:0≤dom:=by omega
 have hkd:dom.toNat<n.domains.length:=by omega
 have e2:nth n.domains dom=n.domains[dom.toNat]:=Ae hkd
 have hpe:=hn.peers _ (zE hkd)
 have hpin:∀ k∈(n.domains[dom.toNat]'hkd).peers,DomIn n k:=λ k hk=>Akh hb hkd hk
 obtain ⟨d,hdd⟩:∃ d,n.domains[dom.toNat]'hkd=d:=⟨_,rfl⟩
 rw[hdd]at e2 hpe hpin
 rw[e2]at hres
 have q3:=Lw d.peers (λ k=>decide (Cr n k=(src:Int))) 297 [] [.ref 8 (Aj n) 0,.ref 1 (A8 src) 0] rfl (λ k hk=>⟨⟨_,_,F297⟩,endsC3 n hb src k (hpin k hk)⟩) hpe
 have hlt2:=Hj (λ k:Int=>decide (Cr n k=(src:Int))) d.peers
 generalize Bg (λ k:Int=>decide (Cr n k=(src:Int))) d.peers=i at *
 refine fU ?_
 refine⟨E,hd0,hkd,?_⟩
 rw[hdd]
 refine fW ?_
 refine c0 q3 F296 ?_
 refine fU ?_
 constructor<;>intro h
 ·rw[zC (zK h)]at hres
  subst hres
  refine fU ?_
  exact dN
 have h3:=zN h
 clear h
 rw[zA h3]at hres
 have hki:i.toNat<d.peers.length:=by omega
 rw[Ae hki]at hres
 subst hres
 refine fU ?_
 refine⟨E,by omega,hki,?_⟩
 refine fW ?_
 exact dN
theorem Aow (n:Net) (hn:n.Fin) (b:List UInt8) (hb:b.length<100000) :
  Sp 164 [Aj n,.sl 1 Al b] (.tup [Aa (comeT n b).1,Aa (comeT n b).2.1,Cw (comeT n b).2.2.1,Aa (comeT n b).2.2.2]):=cT F164 Tryz.ntmps164 λ F hF=>by
 have hres:=comeT.eq_1 n b
 generalize comeT n b=res at *
 have hr:=Av n hn
 refine fW ?_
 refine Az 2 8 (Aj n) E E E ?_
 refine fU ?_
 refine c0 hr F19 ?_
 cases hbn:Ab n
 ·rw[zC hbn]at hres
  subst hres
  refine fU ?_
  refine Am 6 zF E vL ?_
  exact dN
 rw[zA (by rw[hbn];decide)]at hres
 have q1:=Ar3 b hb
 have huo:=Abc b
 generalize B8 b=u at *
 obtain ⟨src,dst,vni,f,e⟩:=u
 dsimp only at hres q1 huo
 have hsrc:=huo.2.2.2.src
 refine fU ?_
 refine c0 q1 F235 ?_
 refine fU ?_
 constructor<;>intro h
 ·rw[zC (by simpa using h)]at hres
  subst hres
  refine fU ?_
  refine Am 6 zF E vL ?_
  exact dN
 rw[zA (by simpa using h)]at hres
 clear h
 have q2:=endsS n hn hbn src dst vni
 generalize endsT n src dst vni=en at *
 obtain ⟨fr,dom⟩:=en
 dsimp only at hres q2
 refine fU ?_
 refine c0 q2 F236 ?_
 refine fU ?_
 constructor<;>intro h
 ·rw[zC (zK h)]at hres
  subst hres
  refine fU ?_
  refine Am 6 zF E vL ?_
  exact dN
 rw[zA (zN h)]at hres
 clear h
 have qg:=Lt f.src q_
 refine fU ?_
 refine c0 qg F149 ?_
 cases hg:Dh f.src
 rotate_left
 ·rw[zC hg]at hres
  subst hres
  refine fU ?_
  refine Am 6 zF E vL ?_
  exact dN
 rw[zA (by rw[hg];decide)]at hres
 subst hres
 refine fU ?_
 refine⟨z_,?_⟩
 refine fW ?_
 exact dN
theorem A00 {n:Net} (hb:Ab n=true) {d:Int} (hd:DomIn n d) (hi:0≤(n.domains[d.toNat]'hd.2).irb) :
  ∃ h:(n.domains[d.toNat]'hd.2).irb.toNat<n.irbs.length,(n.irbs[(n.domains[d.toNat]'hd.2).irb.toNat]'h).domain=d:=by
 simp only[Ab,zB]at hb
 have:=allB_iff.1 hb.1.1.1.1.1.1.1.2 _ hd.2
 simp only[L4,zB,yD,yA]at this
 have h2:=this.1.2
 rcases h2 with h2 | ⟨h2,h3⟩
 ·omega
 ·have h4:=Ci h2
  have h5:(n.domains[d.toNat]'hd.2).irb.toNat<n.irbs.length:=by omega
  rw[Ae h5]at h3
  have:=hd.1
  exact⟨h5,by omega⟩
theorem Ai4 (n:Net) (hn:n.Fin) (hm0:n.Num) (dom:Int) (m:Nat) :
  Sp 155 [Aj n,Aa dom,Bb m] (.tup [Aa (routerT n dom m).1,Ac (routerT n dom m).2]):=cT F155 Tryz.ntmps155 λ F hF=>by
 have hres:=routerT.eq_1 n dom m
 generalize routerT n dom m=res at *
 have hr:=Av n hn
 conv=>whnf
 constructor<;>intro h
 ·have hp:Af dom n.domains.length=false:=by
   cases hx:Af dom n.domains.length
   ·rfl
   ·have:=Ci hx;have:=zK h;omega
  rw[zC (.inl hp)]at hres
  subst hres
  (refine oT ?_;refine bT ?_)
  exact dN
 have h0:0≤dom:=qB h
 clear h
 refine oO ?_
 constructor<;>intro h
 ·have hp:Af dom n.domains.length=false:=by
   cases hx:Af dom n.domains.length
   ·rfl
   ·have:=Ci hx;have:=zK h;omega
  rw[zC (.inl hp)]at hres
  subst hres
  refine oT ?_
  exact dN
 have h1:dom<n.domains.length:=qB h
 clear h
 have hpl:Af dom n.domains.length=true:=Mc ⟨h0,h1⟩
 refine oO ?_
 refine c0 hr F19 ?_
 cases hbn:Ab n
 ·rw[zC (.inr hbn)]at hres
  subst hres
  refine oT ?_
  exact dN
 rw[zA (by simp[hbn,hpl])]at hres
 have hd:=Lo hpl
 have e2:nth n.domains dom=n.domains[dom.toNat]'hd.2:=Ae hd.2
 have hir:=A00 hbn hd
 obtain ⟨d,hdd⟩:∃ d,n.domains[dom.toNat]'hd.2=d:=⟨_,rfl⟩
 simp only[hdd]at e2 hir
 rw[e2]at hres
 refine oF ?_
 refine⟨E,hd.1,hd.2,?_⟩
 rw[hdd]
 conv=>whnf
 constructor<;>intro h
 ·rw[zC (.inl (zK h))]at hres
  subst hres
  refine oT ?_
  exact dN
 have hi0:0≤d.irb:=qB h
 clear h
 obtain ⟨hi1,hi2⟩:=hir hi0
 have ha:=hm0.addr _ (zE hi1)
 rw[Ae hi1]at hres
 obtain ⟨x,hx⟩:∃ x,n.irbs[d.irb.toNat]'hi1=x:=⟨_,rfl⟩
 rw[hx]at ha hres
 obtain ⟨a,hae⟩:=yZ ha.1
 have qh:=Af1 a q_
 rw[← hae]at qh
 refine oO ?_
 refine⟨E,hi0,hi1,?_⟩
 rw[hx]
 conv=>whnf
 refine c0 qh F28 ?_
 refine oO ?_
 constructor<;>intro h
 ·have hne:hostN x.addr≠m:=λ e=>by
   rw[e]at h
   simp at h
  rw[zC (.inr hne)]at hres
  subst hres
  refine oO ?_
  exact dN
 ·have heq:hostN x.addr=m:=by
   have:(hostN x.addr:Int)=(m:Int):=by simpa using h
   omega
  rw[zA (λ h=>h.elim q_ (λ h2=>h2 heq))]at hres
  subst hres
  refine oO ?_
  exact dN
theorem Aef {n:Net} {i:Int} (h:Af i n.irbs.length=true):InIrbs n i:=by
 have:=Ci h
 exact⟨this.1,by omega⟩
theorem A0r {p:PacketM} (h:PacketOK p):PacketOK (Ah4 p):=⟨h.tos,h.id,by have:=h.ttl;show p.ttl-1≤255;omega,h.proto,h.src,h.dst⟩
theorem Ao3 (p:PacketM):ipPutT (Ah4 p)=if 1480<p.body.length then ([],14) else (E7 (Ah4 p),0):=rfl
theorem As0 (n:Net) (hn:n.Fin) (hm0:n.Num) (irb:Int) (f:FrameM) (hf:FrameOK f) :
  Sp 156 [Aj n,Aa irb,Cw f] (.tup [Aa (hopT n irb f).1,Cw (hopT n irb f).2.1,Aa (hopT n irb f).2.2]):=cT F156 Tryz.ntmps156 λ F hF=>by
 have hres:=hopT.eq_1 n irb f
 generalize hopT n irb f=res at *
 have hr:=Av n hn
 have hb:=hf.body
 conv=>whnf
 constructor<;>intro h
 ·have hp:Af irb n.irbs.length=false:=by
   cases hx:Af irb n.irbs.length
   ·rfl
   ·have:=Ci hx;have:=zK h;omega
  rw[zC (.inl hp)]at hres
  subst hres
  (refine oT ?_;refine bT ?_)
  refine Am 7 zF E vL ?_
  exact dN
 have h0:0≤irb:=qB h
 clear h
 refine oO ?_
 constructor<;>intro h
 ·have hp:Af irb n.irbs.length=false:=by
   cases hx:Af irb n.irbs.length
   ·rfl
   ·have:=Ci hx;have:=zK h;omega
  rw[zC (.inl hp)]at hres
  subst hres
  refine oT ?_
  refine Am 7 zF E vL ?_
  exact dN
 have h1:irb<n.irbs.length:=qB h
 clear h
 have hpl:Af irb n.irbs.length=true:=Mc ⟨h0,h1⟩
 refine oO ?_
 refine c0 hr F19 ?_
 cases hbn:Ab n
 ·rw[zC (.inr hbn)]at hres
  subst hres
  refine oT ?_
  refine Am 7 zF E vL ?_
  exact dN
 rw[zA (by simp[hbn,hpl])]at hres
 refine Az 3 8 (Aj n) E E E ?_
 refine Az 5 4 (Cw f) E E E ?_
 refine oF ?_
 constructor<;>intro h
 ·rw[zC (by have:¬ (f.typ:Int)=2048:=(by simpa using h);omega)]at hres
  subst hres
  refine oO ?_
  refine Am 7 zF E vL ?_
  exact dN
 rw[zA (by have:(f.typ:Int)=2048:=(by simpa using h);omega)]at hres
 clear h
 have q1:=Arf f.body q_
 have hok:=@Acp f.body
 generalize ipTakeT f.body=tk at *
 obtain ⟨p,e⟩:=tk
 dsimp only at hres q1 hok
 refine oO ?_
 refine c0 q1 F224 ?_
 refine oO ?_
 by_cases he:e=0
 rotate_left
 ·rw[zC he]at hres
  subst hres
  refine⟨λ h=>zW (show e=0 by simpa using h) he,λ _=>?_⟩
  refine oO ?_
  refine⟨λ _=>?_,λ h=>zW (show e=0 by simpa using h) he⟩
  refine oO ?_
  refine Am 7 zF E vL ?_
  exact dN
 subst he
 rw[zA y_]at hres
 obtain ⟨hpo,hpb⟩:=hok rfl
 have hpt:=hpo.ttl
 have hpd:=hpo.dst
 have q2:=ipHopS p q_ hpt
 (refine⟨λ _=>?_,λ h=>False.elim (zW h j_)⟩;refine rg ?_;conv=>whnf)
 by_cases ht:p.ttl≤1
 ·rw[zC ht]at hres
  subst hres
  rw[hop1,zC ht]at q2
  refine c0 q2 F225 ?_
  refine oT ?_
  refine Am 7 zF E vL ?_
  exact dN
 rw[zA ht]at hres
 rw[hop1,zA ht]at q2
 refine c0 q2 F225 ?_
 have q3:=Aq9 n hn hbn irb p.dst (Aef hpl)
 have hth:=λ h=>@Sn n irb p.dst h
 generalize lookT n irb p.dst=lk at *
 obtain ⟨to,ok⟩:=lk
 dsimp only at hres q3 hth
 refine oF ?_
 refine c0 q3 F226 ?_
 cases ok
 ·rw[zC rfl]at hres
  subst hres
  refine oT ?_
  refine Am 7 zF E vL ?_
  exact dN
 rw[zA j_]at hres
 have hto:=hth rfl
 have hpp:=Ao3 p
 have q4:=Ah0 (Ah4 p) (A0r hpo) (by show p.body.length<100000;omega)
 rw[hpp]at q4
 clear hpp
 by_cases hl:1480<p.body.length
 ·rw[zC hl]at hres q4
  subst hres
  refine oF ?_
  refine c0 q4 F27 ?_
  refine oT ?_
  refine Am 7 zF E vL ?_
  exact dN
 rw[zA hl]at hres q4
 have ha:=hm0.addr _ (zE hto.2)
 rw[Ae hto.2]at hres
 obtain ⟨x,hx⟩:∃ x,n.irbs[to.toNat]'hto.2=x:=⟨_,rfl⟩
 rw[hx]at ha hres
 obtain ⟨a,hae⟩:=yZ ha.1
 have qh:=Af1 a q_
 rw[← hae]at qh
 have qd:=Af1 p.dst hpd
 subst hres
 refine oF ?_
 refine c0 q4 F27 ?_
 refine oF ?_
 refine⟨E,hto.1,hto.2,?_⟩
 rw[hx]
 conv=>whnf
 refine cD qd F28 ?_
 refine oD ?_
 refine⟨E,hto.1,hto.2,?_⟩
 rw[hx]
 conv=>whnf
 refine cD qh F28 ?_
 refine oD ?_
 refine kW ?_
 exact dN
theorem Apk (f:FrameM) (hb:f.body.length<100000):Sp 169 [Cw f] (Cw f):=cT F169 Tryz.ntmps169 λ F hF=>by
 conv=>whnf
 refine Ag (Bw Γ.toTy (d:=7) (n:=f.body.length) Al 0 E E E E E E E E q_ q_ E E E) E E ?_
 refine oO ?_
 refine Ag (Y2 Γ.toTy (l:=List.replicate f.body.length 0) (m:=f.body) E E E E E .sl) E E ?_
 refine oO ?_
 refine Ai 7 E ?_
 refine oO ?_
 refine Ap E (.cons (.cell E E E E) .nil) ?_ E
 show SV.agg [_,_,_,.sl 1 Al f.body]=SV.agg [_,_,_,.sl 1 Al (f.body.take (List.replicate f.body.length (0:UInt8)).length++(List.replicate f.body.length (0:UInt8)).drop f.body.length)]
 have e:f.body.take (List.replicate f.body.length (0:UInt8)).length++(List.replicate f.body.length (0:UInt8)).drop f.body.length=f.body:=by
  rw[xM,yG,uT y_,xJ]
 rw[e]
 rfl
theorem Aio (q:QueuedM) (hb:q.frame.body.length<100000):Sp 100 [Bv q] (Bv q):=cT F100 Tryz.ntmps100 λ F hF=>by
 have qc:=Apk q.frame hb
 conv=>whnf
 refine c0 qc F169 ?_
 refine oO ?_
 exact dN
def Tl (l:List QueuedM):Prop:=∀ q∈l,q.frame.body.length<100000
theorem A1a (l:List QueuedM) (hl:l.length<1000000) (hb:Tl l):Sq 99 [.sl 7 Bv l] [] (.osl 0) [(0,.row 7 Bv l)]:=cT F99 Tryz.ntmps99 λ F hF=>by
 conv=>whnf
 refine Co 3 1000 7 Bv E E ?_
 refine A5 l.length (λ j=>[(3,.osl 1000),(6,.sl 7 Bv l),(7,Aa l.length),(8,Aa j)]) (λ j=>[(1000,.row 7 Bv (l.take j))]) [] ⟨⟨E,E,E,E,E,E,E,E,Y⟩,⟨.inl E,E,Y⟩,E,E⟩ ?_
 intro j hj
 refine oO ?_
 constructor<;>intro h
 ·have hlt:j<l.length:=qA h
  have hj0:((j:Nat):Int).toNat<l.length:=by simpa using hlt
  obtain ⟨q,hq⟩:∃ q,l[j]=q:=⟨_,rfl⟩
  have e1:l[((j:Nat):Int).toNat]'hj0=q:=hq
  have hs:l.take (j+1)=l.take j++[q]:=by rw[zY hlt,hq]
  have hqb:=hb q (by rw[← hq];exact zE hlt)
  have hll:(l.take j).length=j:=by rw[zU];omega
  clear h
  refine oO ?_
  refine⟨E,by omega,hj0,?_⟩
  rw[e1]
  conv=>whnf
  refine c0 (Aio q hqb) F100 ?_
  refine oO ?_
  refine Ag (Ah Γ.toTy 16 E E E E E (.row E) (.lit (e:=Bv) (l:=[q]) E E) y_ (by rw[hll];simp;omega) (by rw[hll];simp;omega)) E E ?_
  refine oO ?_
  refine iW ?_
  exact Ax [(1000,16)] hlt ⟨⟨E,E,E,E,E,E,E,E,Y⟩,⟨.inl (zD (Ob.row 7 Bv) hs),E,Y⟩,E,E⟩
 ·have hjj:j=l.length:=qB h
  subst hjj
  rw[yG]
  refine oO ?_
  exact done E (.cons .tmp .nil) [(0,1000)] [(0,.row 7 Bv l)] (λ _ h=>h) E E ⟨Y,⟨.inl E,E,Y⟩,E,E⟩
theorem Aj8 (l:List QueuedM) (q:QueuedM) (hl:l.length<1000000) (hb:Tl l) (hqb:q.frame.body.length<100000) :
  Sp 151 [.sl 7 Bv l,Bv q] (.tup [.sl 7 Bv (pushT l q).1,Ac (pushT l q).2]):=cT F151 Tryz.ntmps151 λ F hF=>by
 have hres:=pushT.eq_1 l q
 generalize pushT l q=res at *
 conv=>whnf
 refine Ag (Ad [(0,55)] E F99 (A1a l hl hb) E Y E ⟨.inr E,Y⟩) E E ?_
 refine oO ?_
 constructor<;>intro h
 ·rw[zC (qA h)]at hres
  subst hres
  refine oO ?_
  refine Ai 55 E ?_
  exact dN
 ·rw[zA (qB h)]at hres
  subst hres
  refine oO ?_
  refine c0 (Aio q hqb) F100 ?_
  refine oO ?_
  refine Ag (Ah Γ.toTy 17 E E E E E (.row E) (.lit (e:=Bv) (l:=[q]) E E) j_ (by simp;omega) (by simp;omega)) E E ?_
  refine Ai 17 E ?_
  refine oO ?_
  exact dN
theorem Ab1 (l:List QueuedM) (at_:Int) (hl:l.length<1000000) (hb:Tl l) :
  Sp 41 [.sl 7 Bv l,Aa at_] (.tup [Bv (takeT l at_).1,.sl 7 Bv (takeT l at_).2.1,Ac (takeT l at_).2.2]):=cT F41 Tryz.ntmps41 λ F hF=>by
 have hres:=takeT.eq_1 l at_
 generalize takeT l at_=res at *
 conv=>whnf
 constructor<;>intro h
 ·rw[zC (.inl (zK h))]at hres
  subst hres
  refine oT ?_
  refine Ag (Ad [(0,55)] E F99 (A1a l hl hb) E Y E ⟨.inr E,Y⟩) E E ?_
  refine Ai 55 E ?_
  refine oO ?_
  refine Am 4 [Aa 0,Aa 0,Aa 0,Bb 0,Bb 0,Aa 0,.sl 1 Al []] E vL ?_
  exact dN
 have h0:0≤at_:=qB h
 clear h
 refine oO ?_
 constructor<;>intro h
 ·rw[zC (.inr (zK h))]at hres
  subst hres
  refine oO ?_
  refine Ag (Ad [(0,55)] E F99 (A1a l hl hb) E Y E ⟨.inr E,Y⟩) E E ?_
  refine Ai 55 E ?_
  refine oO ?_
  refine Am 4 [Aa 0,Aa 0,Aa 0,Bb 0,Bb 0,Aa 0,.sl 1 Al []] E vL ?_
  exact dN
 have h1:at_<l.length:=qB h
 clear h
 have hk:at_.toNat<l.length:=by omega
 have hne:l≠[]:=λ e=>by rw[e]at hk;simp at hk
 have hkk:((at_.toNat:Nat):Int)=at_:=by omega
 rw[zA q_,zH hk,Option.getD_some]at hres
 obtain ⟨q,hq⟩:∃ q,l[at_.toNat]'hk=q:=⟨_,rfl⟩
 rw[hq]at hres
 have hqb:=hb q (by rw[← hq];exact zE hk)
 refine G_dat 0 90 E hne ?_
 intro B off cap hcap
 refine run Γ hm 3 ?_
 conv=>whnf
 refine Bs (Z0 90 (.inl E) E E) z_ E ?_
 refine oD ?_
 refine⟨E,h0,hk,?_⟩
 rw[hq]
 conv=>whnf
 refine cD (Aio q hqb) F100 ?_
 refine oD ?_
 refine Bs (Aep (hi:=at_.toNat) Γ.toTy E E E E (zD (λ z=>SV.val (.int .i64 z)) hkk.symm) (zD (λ z=>SV.val (.int .i64 z)) hkk.symm) q_) z_ E ?_
 refine Bs (Z0 90 (.inl E) E E) z_ E ?_
 refine oD ?_
 refine iW ?_
 refine Bs (Dk (lo:=at_.toNat+1) (hi:=l.length) Γ.toTy E E E E (.inr ⟨_,_,E,zD (λ z=>SV.val (.int .i64 z)) q_⟩) (.inl ⟨E,E⟩) q_ (zZ _)) z_ E ?_
 have hll:((l.take l.length).drop (at_.toNat+1)).length=l.length-(at_.toNat+1):=by rw[yN,zU];omega
 refine Bs (Aeu Γ.toTy 90 E E E E E E (Nat.le_of_lt hk) E (by rw[hll];omega) (by rw[hll];omega)) z_ E ?_
 have he:l.take at_.toNat++(l.take l.length).drop (at_.toNat+1)=l.eraseIdx at_.toNat:=by rw[yG,tU]
 have hel:(l.take at_.toNat++(l.take l.length).drop (at_.toNat+1)).length<1000000:=by rw[he,List.length_eraseIdx];split<;>omega
 have heb:Tl (l.take at_.toNat++(l.take l.length).drop (at_.toNat+1)):=by rw[he];exact λ x hx=>hb x (tK hx)
 refine oD ?_
 refine Bs (Ad [(0,55)] E F99 (A1a _ hel heb) E Y E ⟨.inr E,Y⟩) z_ E ?_
 refine oD ?_
 refine kW ?_
 refine Ai 55 E ?_
 refine Ap E (.cons (.cell E E E E) (.cons .tmp (.cons .tmp .nil))) ?_ E
 subst hres
 show SV.tup [_,.sl 7 Bv (l.eraseIdx at_.toNat),_]=SV.tup [_,.sl 7 Bv (l.take at_.toNat++(l.take l.length).drop (at_.toNat+1)),_]
 rw[he]
 rfl
end Go.Sy.YtljngfegfclkpaaGreat
