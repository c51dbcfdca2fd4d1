/- Parts of a proof. -/
import Derived.Test.YtolnneiipmfgaaaGreatDoorYC20
import Derived.Test.YtolnneiipmfgaaaGreatDoorYC21
set_option linter.all false
set_option linter.unusedVariables false
set_option linter.unusedSimpArgs false
set_option linter.deprecated false
namespace Go.Sy.YtolnneiipmfgaaaGreatDoor
open Go.Proofs Go.Proofs.Tryz
def Aew{n:Net}{z v e:Int}(h:linkDomT n z v=(e,true)):0≤Bb n z:=by
 have h2:(crossT n z v).2.2=true:=by
  cases rn:(crossT n z v).2.2
  ·rw[linkDomT,zD (by rw[rn];decide)]at h;cases h
  ·rfl
 rw[crossT]at h2;split at h2
 ·rename_i hc;exact hc.1
 ·cases h2
def Adj(n:Net)(d X:Int):Prop:=∃h∈Do n d,h.domain=X
def CntP(n:Net)(st:Nat→Int×Int)(κ X:Int)(k c:Nat):Prop:=c=0∨∃i,i<k∧(st i).2=κ∧Adj n (st i).1 X∧c+i≤k∧c≤3
theorem CntP.le{n:Net}{st:Nat→Int×Int}{κ X:Int}{k c:Nat}(h:CntP n st κ X k c):c≤3:=by
 rcases h with h|⟨_,_,_,_,_,h⟩<;>omega
theorem CntP.succ{n:Net}{st:Nat→Int×Int}{κ X:Int}{k c:Nat}(h:CntP n st κ X k c):CntP n st κ X (k+1) c:=by
 rcases h with h|⟨i,h1,h2,h3,h4,h5⟩
 ·exact .inl h
 ·exact .inr ⟨i,by omega,h2,h3,by omega,h5⟩
def Aif(n:Net)(p:Int)(st:Nat→Int×Int)(r k:Nat)(x:Int):Prop :=
 (k=0∧x=p)∨(k=r∧x=-2)∨(1≤k∧k≠r∧((x=-1∧(st k).1∈(nth n.domains (st (k-1)).1).peers)∨∃z∈A5 n (st (k-1)).1,linkDomT n z (nth n.domains (st (k-1)).1).vlan=((st k).1,true)∧x=Bb n z))
structure InvW(n:Net)(p:Int)(l:List Hop)(st:Nat→Int×Int)(r k:Nat)(m:MacM):Prop where
 len:m.queues.length=n.domains.length
 up:okB n m.up=true
 now:m.now=0
 tabs:∀X,tableB (tableL m X)=true∧∀e∈tableL m X,Aes n l st r k e.mac
 last:∃pre q,queueL m (st k).1=pre++[q]∧q.frame=C8 n l st r k∧q.origin=1∧Aif n p st r k q.from_
 few:∀X,InD n X→∃c0 c1,(queueL m X).length≤2*c0+2*c1+(if k<r then 1 else 2)∧CntP n st 0 X k c0∧CntP n st 1 X k c1
def Aoh(m:MacM)(d X:Int)(t:List EntryM):tableL (E1 m d t) X=if d.toNat=X.toNat∧X.toNat<m.tables.length then t else tableL m X:=by
 rw[tableL,E1];dsimp only;rw[uY];split
 ·rename_i h;rw[h];split
  ·rename_i h2;rw[zE ⟨rfl,h2⟩];rfl
  ·rename_i h2;rw[zD (λhh=>h2 hh.2),tableL,wT q_]
 ·rename_i h;rw[zD (λhh=>h hh.1)];rfl
section
variable {n:Net} {p:Int} {l:List Hop} {st:Nat→Int×Int} {r:Nat} (W:WayS n p l st r) (B:BuiltK n) (hp:0≤p∧p.toNat<n.ports.length) (S:Uc n p l st)
include W B hp
theorem Alt:p∈A5 n (st 0).1:=by
 have hd:=W.ind B.right hp (i:=0) (by have:=W.pos;omega);obtain ⟨v,hv,v0,e⟩:=W.start.1;have e1:(st 0).1=C5 n (nth n.ports p).dev v:=by rw[e];dsimp only;rw[B6,zE B.right]
 have mf:=Ahs (n:=n) (dev:=(nth n.ports p).dev) (v:=v) (by rw[←e1];exact hd.1);rw[←e1]at mf;refine(C7 B.right hd).2 ⟨hp,mf.2.1.symm,?_⟩;rw[mf.2.2];refine memberB_iff.2 ⟨v0,?_⟩;simpa using hv
theorem Akq{k:Nat}(hk:k<l.length){x:Int}(h:Aif n p st r k x){up:List Bool}(nn:okB n up=true):Ld n (Ki n up) (st k).1 x=true:=by
 have hd:=W.ind B.right hp hk;have hf:(Ki n up).length=n.links.length:=by rw[Ki,zE nn,Ack,A0i,xA]
 have hx:x=-1∨x=-2∨x∈A5 n (st k).1:=by
  rcases h with ⟨h0,rfl⟩|⟨_,h⟩|⟨_,_,⟨h,_⟩|⟨z,hz,e,rfl⟩⟩
  ·rw[h0];exact .inr (.inr (Alt W B hp))
  ·exact .inr (.inl h)
  ·exact .inl h
  ·exact .inr (.inr (Sg B.right (W.ind B.right hp (i:=k-1) q_) hz e).2.1)
 rw[Ld,Kd hd,zL hf,B.right];rcases hx with h|h|h
 ·rw[zL h];rfl
 ·rw[zL h];simp
 ·rw[Qi B hd,inB_iff.2 h];simp
include S
theorem A6g{k:Nat}(hk:k+1<l.length){m:MacM}(I:InvW n p l st r k m)(hb:∀ q,q.frame=C8 n l st r k→Aif n p st r k q.from_→∃ t' O,bridgeT n (Ki n m.up) (tableL m (st k).1) (st k).1 q 0=(t',O,0)∧(tableB t'=true∧∀ e∈t',Aes n l st r k e.mac) ∧
   (∀X,InD n X→(Xl n 1 X O=[]∨(Xl n 1 X O).length≤2∧Adj n (st k).1 X∧k+1≠r)∨((Xl n 1 X O).length≤1∧k+1=r)) ∧
   ∃ A q',Xl n 1 (st (k+1)).1 O=A++[q']∧q'.frame=C8 n l st r (k+1)∧q'.origin=1∧Aif n p st r (k+1) q'.from_):InvW n p l st r (k+1) (doT n m (pickX m (st k).1)).1:=by
 have hd:=W.ind B.right hp (i:=k) q_;have ly:=W.ind B.right hp hk;obtain ⟨pre,q,h1,h2,h3,h4⟩:=I.last;obtain ⟨t',O,hbr,ht,hA,A,q',g1,g2,g3,g4⟩:=hb q h2 h4;have a7:Ai (st k).1 m.queues.length=true:=by rw[I.len];exact Kd hd
 have hbr2:bridgeT n (Ki n m.up) (tableL m (st k).1) (st k).1 q m.now=(t',O,0):=by rw[I.now];exact hbr
 have mf:=Ajx a7 h1 hbr2;rw[h3]at mf;rw[mf];have sm:=Ako n 1 O (E1 (Q4 m (st k).1 pre) (st k).1 t');have t7:∀X,(queueL (E1 (Q4 m (st k).1 pre) (st k).1 t') X).length≤(queueL m X).length:=by
  intro X;have e:queueL (E1 (Q4 m (st k).1 pre) (st k).1 t') X=queueL (Q4 m (st k).1 pre) X:=rfl;rw[e,Vf];split
  ·rename_i c;have:queueL m X=pre++[q]:=by rw[←h1,queueL,queueL,c.1]
   rw[this];simp
  ·exact yD _
 have hlen:(E1 (Q4 m (st k).1 pre) (st k).1 t').queues.length=n.domains.length:=by rw[←I.len];exact yP ..
 refine⟨by rw[sm.len,hlen],by rw[sm.up];exact I.up,by rw[sm.now];exact I.now,λX=>?_,?_,λX hX=>?_⟩
 ·have e:tableL (By n (E1 (Q4 m (st k).1 pre) (st k).1 t') 1 O).1 X=tableL (E1 (Q4 m (st k).1 pre) (st k).1 t') X:=by rw[tableL,tableL,sm.tables]
  have mono:∀{z:Nat},Aes n l st r k z→Aes n l st r (k+1) z:=λhz=>hz.imp id λhh=>⟨by omega,hh.2⟩
  rw[e,Aoh];split
  ·exact⟨ht.1,λe he=>mono (ht.2 e he)⟩
  ·have:=I.tabs X;exact⟨this.1,λe he=>mono (this.2 e he)⟩
 ·obtain ⟨c0,c1,f1,f2,f3⟩:=I.few _ ly;have l0:=f2.le;have l1:=f3.le;have hl:(Xl n 1 (st (k+1)).1 O).length≤2:=by
   rcases hA _ ly with (h|h)|h
   ·rw[h];exact xQ _
   ·exact h.1
   ·omega
  have:=t7 (st (k+1)).1;refine⟨queueL (E1 (Q4 m (st k).1 pre) (st k).1 t') (st (k+1)).1++A,q',?_,g2,g3,g4⟩;rw[Ag8 n 1 _ O _ (by rw[hlen];exact ly.2) (by split at f1<;>omega),g1,xD]
 ·obtain ⟨c0,c1,f1,f2,f3⟩:=I.few X hX;have hle:=Aqn n 1 X O (E1 (Q4 m (st k).1 pre) (st k).1 t') (by rw[hlen];exact hX.2);have:=t7 X;have hif:(if k<r then 1 else 2)≤(if k+1<r then 1 else 2:Nat):=by split<;>split<;>omega
  rcases hA X hX with (h|⟨h,adj,af⟩)|⟨h,hr⟩
  ·rw[h,xF]at hle;exact⟨c0,c1,by omega,f2.succ,f3.succ⟩
  ·have cs:∀{κ:Int} {c:Nat},(st k).2=κ→CntP n st κ X k c→CntP n st κ X (k+1) (c+1):=by
    intro κ c hκ hc;rcases hc with hc|⟨i,i1,i2,i3,i4,i5⟩
    ·exact .inr ⟨k,by omega,hκ,adj,by omega,by omega⟩
    ·obtain ⟨g,hg,eg⟩:=i3;obtain ⟨g',ou,eg'⟩:=adj;have:=W.window S (i:=i) (j:=k) q_ q_ (i2.trans hκ.symm) hg ou (eg.trans eg'.symm);exact .inr ⟨i,by omega,i2,⟨g,hg,eg⟩,by omega,by omega⟩
   have cq:=W.kd k q_;by_cases c:k<r
   ·rw[zE c]at cq;exact⟨c0+1,c1,by omega,cs cq f2,f3.succ⟩
   ·rw[zD c]at cq;exact⟨c0,c1+1,by omega,f2.succ,cs cq f3⟩
  ·refine⟨c0,c1,?_,f2.succ,f3.succ⟩;rw[zE q_]at f1;rw[zD q_];omega
def upK(n:Net)(m:MacM)(h:Hop):MacM:=if h.kind=1 then ⟨upW n h,m.tables,m.queues,m.now,m.injected,m.drops⟩ else m
theorem A6h(hc:Cu n=true)(r6:(nth n.ports p).link<0){k:Nat}(hk:k+1<l.length){m:MacM}(I:InvW n p l st r k m):InvW n p l st r (k+1) (doT n (upK n m (nth l ((k+1:Nat):Int))) (pickX (upK n m (nth l ((k+1:Nat):Int))) (st k).1)).1:=by
 have hd:=W.ind B.right hp (i:=k) q_;have ly:=W.ind B.right hp hk;have y0:∀h:Hop,okB n (upW n h)=true:=λh=>ok_iff.2 ⟨by rw[upW,yP,xS],B.right,hc⟩
 have I1:InvW n p l st r k (upK n m (nth l ((k+1:Nat):Int))):=by
  rw[upK];split
  ·exact⟨I.len,y0 _,I.now,I.tabs,I.last,I.few⟩
  ·exact I
 refine A6g W B hp S hk I1 λq hq ej=>?_
 have bd:=Akq W B hp q_ ej I1.up;have ht:=I1.tabs (st k).1;by_cases rf:k+1=r
 ·obtain ⟨a,b⟩:=A2m W B hp hk rf hq bd ht.1 ht.2;refine⟨_,_,b,a,λX hX=>.inr ⟨?_,rf⟩,[],⟨-2,0,1,C8 n l st r (k+1)⟩,?_,E,E,.inr (.inl ⟨rf,E⟩)⟩
  ·show (T9 n 1 X _++[]).length≤1;rw[xM];exact Anq ..
  ·show T9 n 1 (st (k+1)).1 _++[]=_;rw[xM,T9,zD (by dsimp only;decide),zD (by dsimp only;decide),zD (by dsimp only;decide),zE rfl,zE rfl];rfl
 ·obtain ⟨a,b⟩:=Aqt W B hp S q_ (.inl rf) hq bd ht.1 ht.2;have hF:=Aat W B hp (k:=k) q_;have fy:Ki n (upK n m (nth l ((k+1:Nat):Int))).up=Ack n (upK n m (nth l ((k+1:Nat):Int))).up:=by rw[Ki,zE I1.up]
  have hF1:C8 n l st r (k+1)=C8 n l st r k:=by
   rw[C8,C8];by_cases c:k<r
   ·rw[zE c,zE q_]
   ·rw[zD c,zD q_]
  refine⟨_,_,b,a,λX hX=>.inl ?_,?_⟩
  ·obtain ⟨A,C,e,h1,h2,h3,h4,_,_⟩:=Ahd B I1.up fy (x:=q.from_) (X:=X) (g:=1) hd hX hF;rw[e];by_cases c:A++C=[]
   ·exact .inl c
   ·refine .inr ⟨by rw[zQ];omega,?_,rf⟩;have m7:Yc n (st k).1:=by rw[Yc];exact⟨⟨hd.1,by have:=hd.2;omega⟩,B.right⟩
    by_cases cA:A=[]
    ·have cC:C≠[]:=λhh=>c (by rw[cA,hh];rfl)
     obtain ⟨x,hx⟩:=List.exists_mem_of_ne_nil _ cC;refine⟨Kv X,?_,E⟩;rw[Do,zE m7];exact uI _ (yS.2 ⟨X,(h4 x hx).1,E⟩)
    ·obtain ⟨x,hx⟩:=List.exists_mem_of_ne_nil _ cA;obtain ⟨z,hz,ez,_⟩:=h3 x hx;refine⟨⟨1,z,X,0⟩,?_,E⟩;rw[Do,zE m7];exact tA _ (wE.2 ⟨z,hz,by rw[linkHop,ez,zE E]⟩)
  ·obtain ⟨A,C,e,h1,h2,h3,h4,h5,h6⟩:=Ahd B I1.up fy (x:=q.from_) (X:=(st (k+1)).1) (g:=1) hd ly hF;rw[e,hF1];have vu:=W.hop k hk rf;have gb:=W.dom (k+1) hk;have gk:(st (k+1)).2=(st k).2:=by
    rw[W.kd (k+1) hk,W.kd k q_];by_cases c:k<r
    ·rw[zE c,zE q_]
    ·rw[zD c,zD q_]
   have some:A++C≠[]:=by
    rcases Ach vu with ⟨e1,e2,e3⟩|⟨e1,e2⟩
    ·rw[gb]at e3;refine λhh=>h5 _ e2 ?_ ?_ e3 (List.append_eq_nil_iff.1 hh).1
     ·intro ex;rcases ej with ⟨h0,hx⟩|⟨_,hx⟩|⟨cw,hkr2,⟨hx,_⟩|⟨z,hz,ez,hx⟩⟩
      ·have ug:=(Io (Aew e3)).2.1;rw[ex,hx]at ug;omega
      ·have:=((C7 B.right hd).1 e2).1.1;omega
      ·have:=((C7 B.right hd).1 e2).1.1;omega
      ·have ph:=W.ind B.right hp (i:=k-1) q_;obtain ⟨_,_,lb⟩:=Sg B.right ph hz ez;rw[ex,hx,lb]at e3;have e4:(st (k-1)).1=(st (k+1)).1:=(Prod.mk.inj e3).1;have k2:(st (k-1)).2=(st (k+1)).2:=by
        rw[gk,W.kd (k-1) q_,W.kd k q_];by_cases c:k<r
        ·rw[zE c,zE q_]
        ·rw[zD c,zD q_]
       have:=W.diff S (i:=k-1) (j:=k+1) q_ hk (Prod.ext e4 k2);omega
     ·rw[usableB,fy,upK,zE e1];have ug:=Io (Aew e3);have:=A6y n _ ug.2.2 (y0 _) (nth n.ports (nth l ((k+1:Nat):Int)).port).link.toNat ug.2.2;have e9:Sc n.links.length (nth n.ports (nth l ((k+1:Nat):Int)).port).link.toNat=upW n (nth l ((k+1:Nat):Int)):=rfl;rw[e9]at this;dsimp only;rw[this];simp
    ·rw[gb]at e2;refine λhh=>h6 ?_ e2 (List.append_eq_nil_iff.1 hh).2
     intro ex;rcases ej with ⟨h0,hx⟩|⟨_,hx⟩|⟨cw,hkr2,⟨hx,hm⟩|⟨z,hz,ez,hx⟩⟩
     ·omega
     ·omega
     ·have ph:=W.ind B.right hp (i:=k-1) q_;have k2:(st (k-1)).2=(st (k+1)).2:=by
       rw[gk,W.kd (k-1) q_,W.kd k q_];by_cases c:k<r
       ·rw[zE c,zE q_]
       ·rw[zD c,zD q_]
      rcases Azb B ph hm e2 with e4|e4
      ·have:=W.diff S (i:=k-1) (j:=k+1) q_ hk (Prod.ext e4.symm k2);omega
      ·have:=W.ahead S (i:=k-1) (j:=k+1) q_ hk k2 (g:=Kv (st (k+1)).1) (by
        rw[Do,zE (by rw[Yc];exact⟨⟨ph.1,by have:=ph.2;omega⟩,B.right⟩)];exact uI _ (yS.2 ⟨_,e4,E⟩)) E
       omega
     ·have ph:=W.ind B.right hp (i:=k-1) q_;have:=(Aew ez)
      omega
   have good:∀x∈A++C,x.frame=C8 n l st r k∧x.origin=1∧Aif n p st r (k+1) x.from_:=by
    intro x hx;rcases yL.1 hx with hx|hx
    ·obtain ⟨z,hz,ez,rfl⟩:=h3 x hx;exact⟨E,E,.inr (.inr ⟨by omega,rf,.inr ⟨z,by simpa using hz,by simpa using ez,E⟩⟩)⟩
    ·obtain ⟨c1,rfl⟩:=h4 x hx;exact⟨E,E,.inr (.inr ⟨by omega,rf,.inl ⟨E,by simpa using c1⟩⟩)⟩
   have d5:=vV some;have:=good _ (List.getLast_mem some);exact⟨_,_,d5.symm,this.1,this.2.1,this.2.2⟩
end
section
variable {n:Net} {p:Int} {l:List Hop} {st:Nat→Int×Int} {r:Nat} (W:WayS n p l st r) (B:BuiltK n) (hp:0≤p∧p.toNat<n.ports.length)
include W B hp
theorem Ajf:wayBytes n l=(Lu (frameW n l),0):=by
 have d6:=W.pos;have af:l≠[]:=λe=>by rw[e]at d6;simp at d6;omega
 refine zE ⟨B.right,af,?_⟩;rw[allB_iff];intro i hi;have hd:=W.ind B.right hp hi;have m7:=W.dom i hi;rw[←Amk hi,stepB,m7,Kd hd,yF,yT,yX];by_cases c:i=r
 ·right;have R:=W.led B hp q_;have e:((i:Int)-1)=((r-1:Nat):Int):=by omega
  rw[wJ,e,W.dom (r-1) q_];exact⟨zI q_,zI (by have:=R.from_.1;rw[Mi]at this;omega)⟩
 ·left;refine zI λe3=>?_
  cases i with
  |zero=>rw[W.start.2]at e3;cases e3
  |succ i=>
   rcases Ach (W.hop i hi c) with h1|h1
   ·rw[h1.1]at e3;cases e3
   ·rw[h1.1]at e3;cases e3
theorem Aqy:enterT n p (injectW n p l).bytes=((st 0).1,frameW n l,0):=by
 have d6:=W.pos;have hd:=W.ind B.right hp (i:=0) q_;have hF:=Aat W B hp (k:=0) q_;rw[C8,zE q_]at hF;have hlen:=hF.len;obtain ⟨v,hv,v0,e⟩:=W.start.1;have e1:(st 0).1=C5 n (nth n.ports p).dev v:=by rw[e];dsimp only;rw[B6,zE B.right]
 have mf:=Ahs (n:=n) (dev:=(nth n.ports p).dev) (v:=v) (by rw[←e1];exact hd.1);rw[←e1]at mf;have e0:=W.dom 0 q_;have e0:(nth l 0).domain=(st 0).1:=e0;have y1:B6 n (nth n.ports p).dev v=(st 0).1:=by rw[B6,zE B.right,e1]
 have ft:=(Hp B.right hd.2).2.1;rw[←Af hd.2,mf.2.2]at ft;rw[injectW,Ajf W B hp];dsimp only;rw[e0,mf.2.2,Lr hF.ok];dsimp only;by_cases c:v=(nth n.ports p).native
 ·rw[zD (λhh=>hh c),Ad0 B.right hp hF.ok hF.typ hF.src (by rw[←c];exact v0),←c,y1]
 ·have ar:inB (nth n.ports p).tagged v=true:=by
   rcases yH.1 hv with h|h
   ·exact yB h c
   ·exact inB_iff.2 h
  rw[zE c,Aay B.right hp hF.ok hF.typ q_ hF.src ft ar,y1]
theorem A4d(hc:Cu n=true)(r6:(nth n.ports p).link<0):InvW n p l st r 0 (doW n ⟨newT n,false,[]⟩ (injectW n p l)).m:=by
 have d6:=W.pos;have hd:=W.ind B.right hp (i:=0) q_;have a7:Ai p n.ports.length=true:=by rw[Ai,zL hp.1,zL (by have:=hp.2;omega)];rfl
 have e:(doW n ⟨newT n,false,[]⟩ (injectW n p l)).m=comeM ⟨(newT n).up,(newT n).tables,(newT n).queues,(newT n).now,(newT n).injected+1,(newT n).drops⟩ (st 0).1 ⟨p,0,(newT n).injected+1,frameW n l⟩ 0:=by
  show (doT n (newT n) (injectW n p l)).1=_;rw[doT,zE (show (injectW n p l).kind=1 from rfl)];show injectT n (newT n) p (injectW n p l).bytes=_;rw[injectT,zD (by rw[a7];rintro (hh|hh);cases hh;omega),Aqy W B hp]
 rw[e];have cs:=W8 ⟨(newT n).up,(newT n).tables,(newT n).queues,(newT n).now,(newT n).injected+1,(newT n).drops⟩ (st 0).1 ⟨p,0,(newT n).injected+1,frameW n l⟩ 0;have hq:∀X,queueL ⟨(newT n).up,(newT n).tables,(newT n).queues,(newT n).now,(newT n).injected+1,(newT n).drops⟩ X=[]:=by
  intro X;show ((List.replicate n.domains.length ([]:List QueuedM))[X.toNat]?).getD []=[];rw[tH];split<;>rfl
 have ht:∀X,tableL (comeM ⟨(newT n).up,(newT n).tables,(newT n).queues,(newT n).now,(newT n).injected+1,(newT n).drops⟩ (st 0).1 ⟨p,0,(newT n).injected+1,frameW n l⟩ 0) X=[]:=by
  intro X;rw[tableL,cs.tables];show ((List.replicate n.domains.length ([]:List EntryM))[X.toNat]?).getD []=[];rw[tH];split<;>rfl
 have hlen:(newT n).queues.length=n.domains.length:=xS;refine⟨by rw[cs.len];exact hlen,by rw[cs.up];exact ok_iff.2 ⟨xS,B.right,hc⟩,cs.now,λX=>?_,⟨[],⟨p,0,1,frameW n l⟩,?_,?_,E,.inl ⟨E,E⟩⟩,λX hX=>⟨0,0,?_,.inl E,.inl E⟩⟩
 ·rw[ht];exact⟨by decide,λe he=>by cases he⟩
 ·rw[O0,hq,zE ⟨rfl,rfl,by show _<(newT n).queues.length;rw[hlen];exact hd.2,by decide⟩];rfl
 ·rw[C8,zE q_]
 ·rw[O0,hq];have h0:(if 0<r then 1 else 2:Nat)=1:=zE q_;rw[h0];split<;>simp
theorem A4v(S:Uc n p l st)(hc:Cu n=true)(r6:(nth n.ports p).link<0):∀k,k<l.length→InvW n p l st r k (goW n p l k).m
 |0,_=>A4d W B hp hc r6
 |k+1,h=>by
  have I:=A4v S hc r6 k q_;have e:(linkW n (goW n p l k) (nth l ((k+1:Nat):Int))).m=upK n (goW n p l k).m (nth l ((k+1:Nat):Int)):=by
   rw[linkW,upK];split
   ·rw[doW,doT,zD y_,zD y_,zD y_,zD y_,zE rfl,zE (by rw[upW,yP,xS])]
   ·rfl
  have h1:=A6h W B hp S hc r6 h I;rw[←e]at h1;show InvW n p l st r (k+1) (Vk n (linkW n (goW n p l k) (nth l ((k+1:Nat):Int))) (nth l ((k:Nat):Int)).domain).m;rw[W.dom k q_];exact h1
theorem A44(S:Uc n p l st)(hc:Cu n=true)(r6:(nth n.ports p).link<0){to:Int}(dt:0≤to∧to.toNat<n.ports.length)(ab:(nth n.ports to).link<0)(af:p≠to)(hg:inB (A5 n (st (l.length-1)).1) to=true):∃s∈(doT n (goW n p l (l.length-1)).m (pickX (goW n p l (l.length-1)).m (st (l.length-1)).1)).2,s.port=to∧s.origin=1:=by
 have d6:=W.pos;have hk:l.length-1<l.length:=by omega
 have I:=A4v W B hp S hc r6 _ hk;have hd:=W.ind B.right hp hk;obtain ⟨pre,q,h1,h2,h3,h4⟩:=I.last;have bd:=Akq W B hp hk h4 I.up;have ht:=I.tabs (st (l.length-1)).1;obtain ⟨_,b⟩:=Aqt W B hp S hk q_ h2 bd ht.1 ht.2;have hF:=Aat W B hp hk;have mf:=Ajx (by rw[I.len];exact Kd hd) h1 (by rw[I.now];exact b);rw[mf,h3];have hm:=inB_iff.1 hg;have hx:to≠q.from_:=by
  rcases h4 with ⟨_,h⟩|⟨_,h⟩|⟨_,_,⟨h,_⟩|⟨z,hz,ez,h⟩⟩
  ·rw[h];exact λe=>af e.symm
  ·omega
  ·omega
  ·intro e;have ho:=Aew ez;have:=(Io (i:=Bb n z) (by rw[Ti ho];exact((C7 B.right (W.ind B.right hp (i:=l.length-1-1) q_)).1 hz).1.1)).2.1;rw[←h,←e]at this;omega
 have ar:to∈Cz n (Ki n (goW n p l (l.length-1)).m.up) q.from_ (A6 n (st (l.length-1)).1):=by
  rw[Cz,uO,Qi B hd];refine⟨hm,?_⟩;rw[usableB,zL ab,zI hx];rfl
 refine⟨_,Akn n 1 _ _ (Uo n (st (l.length-1)).1 (C8 n l st r (l.length-1)) to) (tA _ (yS.2 ⟨to,ar,E⟩)) ?_,?_,E⟩
 ·rw[Amg B hd hm hF];exact zE ab
 ·rw[Amg B hd hm hF]
end
def Ab1(n:Net):∀(L:List StepM) (m:MacM) (x:StepM),D7 n m (L++[x])=((doT n (D7 n m L).1 x).1,(D7 n m L).2++(doT n (D7 n m L).1 x).2)
 |[],m,x=>by simp[D7]
 |y::L,m,x=>by
  rw[xY,D7,Ab1 n L,D7];simp
def Avi{n:Net}{s:GoM}(h:(D7 n (newT n) s.out).1=s.m)(x:StepM):(D7 n (newT n) (doW n s x).out).1=(doW n s x).m:=by
 rw[doW,Ab1,h]
def Auz(n:Net)(p:Int)(l:List Hop):∀k,(D7 n (newT n) (goW n p l k).out).1=(goW n p l k).m
 |0=>Avi rfl _
 |k+1=>by
  refine Avi ?_ _;rw[linkW];split
  ·exact Avi (Auz n p l k) _
  ·exact Auz n p l k
def A4u(n:Net)(p:Int)(l:List Hop):∀k,∃rest,(goW n p l k).out=injectW n p l::rest∧rest.length≤2*k∧∀y∈rest,(y.kind=2∨y.kind=5)∧y.bytes=[]
 |0=>⟨[],rfl,yD _,λy hy=>by cases hy⟩
 |k+1=>by
  obtain ⟨rest,h1,h2,h3⟩:=A4u n p l k;have hk:∀(m:MacM) (d:Int),(pickX m d).kind=2:=λ_ _=>rfl
  show ∃rest,(Vk n (linkW n (goW n p l k) (nth l ((k+1:Nat):Int))) (nth l ((k:Nat):Int)).domain).out=_∧_;rw[Vk,doW,linkW];split
  ·refine⟨rest++[⟨5,0,0,0,[],upW n (nth l ((k+1:Nat):Int))⟩]++[_],by rw[doW,h1];rfl,by simp;omega,λy hy=>?_⟩;simp only[yL,yA]at hy;rcases hy with (hy|rfl)|rfl
   ·exact h3 y hy
   ·exact⟨.inr E,E⟩
   ·exact⟨.inl E,E⟩
  ·refine⟨rest++[_],by rw[h1];rfl,by simp;omega,λy hy=>?_⟩;rcases yL.1 hy with hy|hy
   ·exact h3 y hy
   ·rw[yA.1 hy];exact⟨.inl rfl,rfl⟩
def Alx{n:Net}(B:BuiltK n)(hc:Cu n=true){p to:Int}(h:(wscriptT n p to).2=0):∃rest x,(wscriptT n p to).1=injectW n p (wayT n p to).1::rest++[x]∧(rest.length+2≤4*n.domains.length+2)∧(∀y∈rest++[x],(y.kind=2∨y.kind=5)∧y.bytes=[]) ∧
   ∃s∈(doT n (D7 n (newT n) (injectW n p (wayT n p to).1::rest)).1 x).2,s.port=to∧s.origin=1:=by
 rw[wscriptT]at h⊢;split at h
 ·rename_i hk;rw[zE hk];split at h
  ·rename_i hw;rw[zE hw];obtain ⟨_,h1,h2,h3,m,x,g1,g2,g3,g4,g5⟩:=(Aje (n:=n) (p:=p) (to:=to)).1 hw;have hf:=Ar0 B.num.addr hw;obtain ⟨st,r,W,hx,_⟩:=Ae6 g4;generalize (wayT n p to).1=l at *;have jt:=K0 h1;have htt:=K0 h2;simp only[K1,zG,zK]at h1 h2;have S:Uc n p l st:=by
    intro k cq;rw[←hx]at cq;have:=g5 k x cq g2;omega
   rw[hx]at g2;obtain ⟨rest,o1,o2,o3⟩:=A4u n p l (l.length-1);have hr:=Auz n p l (l.length-1);have hd:=W.dom (l.length-1) q_;have ei:((l.length:Int)-1)=((l.length-1:Nat):Int):=by omega
   obtain ⟨s,s1,s2⟩:=A44 W B jt S hc h1.2 htt h2.2 h3 g2;refine⟨rest,pickX (goW n p l (l.length-1)).m (st (l.length-1)).1,?_,by omega,λy hy=>?_,s,?_,s2⟩
   ·show (A0r n p l).out=_;rw[A0r,Vk,doW,ei,hd,o1]
   ·rcases yL.1 hy with hy|hy
    ·exact o3 y hy
    ·rw[yA.1 hy];exact⟨.inl rfl,rfl⟩
   ·rw[←o1,hr];exact s1
  ·cases h
 ·cases h
def A2v{n:Net}{m:MacM}{x:StepM}(hx:x.kind≠1)(h:∀X,queueL m X=[]):(doT n m x).2=[]∧∀X,queueL (doT n m x).1 X=[]:=by
 have tk:∀d a,(takeM m d a).2.2=false∧∀X,queueL (takeM m d a).1 X=[]:=by
  intro d a;rw[takeM];split
  ·exact⟨E,h⟩
  ·have ht:takeT (queueL m d) a=(noQ,[],false):=by
    rw[h d,takeT,zE (by simp;omega)]
   rw[ht];refine⟨E,λX=>?_⟩;dsimp only;rw[Vf];split
   ·rfl
   ·exact h X
 rw[doT,zD hx];split
 ·rw[pickT,zE (tk _ _).1];exact⟨E,(tk _ _).2⟩
 split
 ·exact⟨E,(tk _ _).2⟩
 split
 ·exact⟨E,h⟩
 split
 ·split
  ·exact⟨E,h⟩
  ·exact⟨E,h⟩
 ·exact⟨E,h⟩
def Ajv{n:Net}:∀(l:List StepM) (m:MacM),(∀y∈l,y.kind≠1)→(∀X,queueL m X=[])→(D7 n m l).2=[]
 |[],_,_,_=>rfl
 |x::l,m,hl,h=>by
  obtain ⟨a,b⟩:=A2v (n:=n) (hl x y_) h;rw[D7,a,Ajv l _ (λy hy=>hl y (by simp[hy])) b];rfl
def Ay1{n:Net}{l:List StepM}(hl:∀y∈l,y.kind≠1):(D7 n (newT n) l).2=[]:=by
 refine Ajv l _ hl λX=>?_
 show ((List.replicate n.domains.length ([]:List QueuedM))[X.toNat]?).getD []=[];rw[tH];split<;>rfl
def A04{M:List LineM}(hM:∀z∈M,LineW z)(h:(Dk M).2.2=0):(Dk M).1.Fin∧BuiltK (Dk M).1∧Cu (Dk M).1=true:=by
 have hb:Dk M=B0 emptyN M:=rfl;rw[hb]at h⊢;obtain ⟨hn,hu⟩:=Y9 M emptyN Kf (λx hx=>(by cases hx)) hM h;obtain ⟨_,hr,hm,_⟩:=Ad3 M emptyN (λ_=>0) Aq0 Ava h;have hme:=Qh (n:=(B0 emptyN M).1) (by rw[hm]);refine⟨hn,⟨hr,Ala M emptyN Akx h,⟨T6 M emptyN (λd hd=>by cases hd) hM h,hu⟩,by rw[hm],?_⟩,A5c (Wc M emptyN V6 h)⟩;rw[←hme.1,hm]
def Aly{n:Net}{f t:Int}(h:(wscriptT n f t).2=0):okB n (Ar4 n)=true:=by
 rw[wscriptT]at h;split at h
 ·rename_i hc;exact hc.2.2.2
 ·cases h
def Amu{n:Net}(B:BuiltK n)(hc:Cu n=true){f t:Int}(h:(wscriptT n f t).2=0):(injectW n f (wayT n f t).1).bytes.length≤2000:=by
 rw[wscriptT]at h;split at h
 ·split at h
  ·rename_i hw;obtain ⟨_,h1,_,_,m,x,_,_,_,g4,_⟩:=(Aje (n:=n) (p:=f) (to:=t)).1 hw;obtain ⟨st,r,W,_,_⟩:=Ae6 g4;generalize (wayT n f t).1=l at *;have d6:=W.pos;have hF:=Aat W B (K0 h1) (k:=0) q_;rw[C8,zE q_]at hF;have hl:=hF.len;rw[injectW,Ajf W B (K0 h1)];dsimp only;rw[Lr hF.ok];dsimp only;split
   ·rw[(Afg hF.typ q_).2,D5];simp;omega
   ·rw[D5];omega
  ·cases h
 ·cases h
def Ans(t:Int)(l:List SeenM):Bool:=l.any λs=>decide (s.port=t)&&decide (s.origin=1)
attribute [local irreducible] Go.Sy.G Go.Sy.DR
set_option maxRecDepth 100000
set_option maxHeartbeats 4000000
end Go.Sy.YtolnneiipmfgaaaGreatDoor
