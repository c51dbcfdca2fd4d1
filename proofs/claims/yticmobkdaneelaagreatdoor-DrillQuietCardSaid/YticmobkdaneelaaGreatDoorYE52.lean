/- Parts of a proof. -/
import Derived.Test.YticmobkdaneelaaGreatDoorYE47
import Derived.Test.YticmobkdaneelaaGreatDoorYE51
import Derived.Test.YticmobkdaneelaaGreatDoorYE49
set_option linter.all false
set_option linter.unusedVariables false
set_option linter.unusedSimpArgs false
set_option linter.deprecated false
namespace Go.Sy.YticmobkdaneelaaGreatDoor
open Go.Proofs Go.Proofs.Tryz
structure CameM(n:Net)(bp:Int→Int)(m:MacM):Prop where
 len:m.queues.length=n.domains.length
 all:∀X,InD n X→∀q∈queueL m X,Ma n (bp q.origin) X q.frame
def SawP(n:Net)(bp:Int→Int)(s:SeenM):Prop:=∃k y,Walk n (bp s.origin) k y∧s.port∈Bn n y.1
structure OutC(n:Net)(p:Int)(o:OutM):Prop where
 seen:o.kind=1→∃k y,Walk n p k y∧o.port∈Bn n y.1
 link:o.kind=2→(linkT n o.port o.bytes).2.2.2=0→Ma n p (linkT n o.port o.bytes).2.1 (linkT n o.port o.bytes).2.2.1
 mesh:o.kind=3→(comeT n o.bytes).2.2.2=0→Ma n p (comeT n o.bytes).2.1 (comeT n o.bytes).2.2.1
 route:o.kind=4→InD n o.domain∧Ma n p o.domain o.frame
def A1j{n:Net}{p:Int}{o:OutM}(h:o.kind=5):OutC n p o:=⟨λe=>by omega,λe=>by omega,λe=>by omega,λe=>by omega⟩
section
variable {n:Net} {bp:Int→Int}
theorem CameM.same{m m':MacM}(h:CameM n bp m)(e:m'.queues=m.queues):CameM n bp m':=⟨by rw[e];exact h.len,λX hX q hq=>h.all X hX q (by rw[queueL,e]at hq;exact hq)⟩
theorem CameM.setQ{m:MacM}(h:CameM n bp m){d:Int}{l:List QueuedM}(hl:InD n d→∀q∈l,Ma n (bp q.origin) d q.frame)(hd:0≤d):CameM n bp (setQ m d l):=by
 refine⟨by show (m.queues.set _ _).length=_;rw[yR];exact h.len,λX hX q hq=>?_⟩;rw[Anm]at hq;split at hq
 ·rename_i hc;have e:d=X:=by have:=hX.1;omega
  subst e;exact hl hX q hq
 ·exact h.all X hX q hq
theorem CameM.come{m:MacM}(h:CameM n bp m){d:Int}{q:QueuedM}{e:Int}(hq:e=0→InD n d∧Ma n (bp q.origin) d q.frame):CameM n bp (comeM m d q e):=by
 rw[comeM];split
 ·exact h.same E
 rename_i he;obtain ⟨hd,hc⟩:=hq (Classical.byContradiction he);split
 ·refine h.setQ (λ_ x hx=>?_) hd.1;rw[pushT]at hx;split at hx
  ·exact h.all d hd x hx
  ·rcases yI.1 hx with hx|hx
   ·exact h.all d hd x hx
   ·rw[yB.1 hx];exact hc
 ·exact h.same E
theorem CameM.goes{m:MacM}(h:CameM n bp m){o:OutM}{g:Int}(ho:OutC n (bp g) o):CameM n bp (goesM n m o g).1∧∀s∈(goesM n m o g).2,SawP n bp s:=by
 rw[goesM];split
 ·rename_i hk;refine⟨h,λs hs=>?_⟩;rw[yB.1 hs];exact ho.seen hk
 split
 ·rename_i hk;exact⟨h.come λe=>⟨Aiz e,ho.link hk e⟩,λs hs=>(by cases hs)⟩
 split
 ·rename_i hk;exact⟨h.come λe=>⟨(Abl e).2,ho.mesh hk e⟩,λs hs=>(by cases hs)⟩
 split
 ·rename_i hk;exact⟨h.come (d:=o.domain) (q:=⟨-2,0,g,o.frame⟩) (e:=0) λ_=>ho.route hk,λs hs=>(by cases hs)⟩
 ·exact⟨h.same rfl,λs hs=>(by cases hs)⟩
theorem CameM.goesL{g:Int}:∀(l:List OutM) {m:MacM},CameM n bp m→(∀o∈l,OutC n (bp g) o)→CameM n bp (goesL n m g l).1∧∀s∈(Go.Sy.YticmobkdaneelaaGreatDoor.goesL n m g l).2,SawP n bp s
 |[],m,h,_=>⟨h,λs hs=>(by cases hs)⟩
 |o::l,m,h,ho=>by
  obtain ⟨h1,h2⟩:=h.goes (ho o y_);obtain ⟨h3,h4⟩:=CameM.goesL l h1 λo h=>ho o (by simp[h])
  rw[Go.Sy.YticmobkdaneelaaGreatDoor.goesL];refine⟨h3,λs hs=>?_⟩;rcases yI.1 hs with hs|hs
  ·exact h2 s hs
  ·exact h4 s hs
theorem CameM.take{m:MacM}(h:CameM n bp m)(d a:Int):CameM n bp (takeM m d a).1∧((takeM m d a).2.2=true→InD n d∧Ma n (bp (takeM m d a).2.1.origin) d (takeM m d a).2.1.frame):=by
 rw[takeM];split
 ·exact⟨h,λe=>(by cases e)⟩
 rename_i hp;have hd:InD n d:=by
  have hp:Ah d m.queues.length=true:=by simpa using hp
  rw[h.len]at hp;exact K2 hp
 rw[takeT];split
 ·exact⟨h.setQ (λhd q hq=>h.all d hd q hq) hd.1,λe=>(by cases e)⟩
 ·rename_i hc;refine⟨h.setQ (λhd q hq=>h.all d hd q (uI hq)) hd.1,λ_=>⟨hd,?_⟩⟩;exact h.all d hd _ (Q2 q_)
end
section
variable {n:Net} (B:BuiltK n) (hu:Dr n) (bq:FarK n)
include B hu bq
theorem Aqf{p X:Int}{fw:List Bool}{t:List EntryM}{q:QueuedM}{now:Int}(hX:InD n X)(hc:Ma n p X q.frame):∀o∈(bridgeT n fw t X q now).2.1,OutC n p o:=by
 intro o ho;rw[bridgeT]at ho;split at ho
 ·cases ho
 split at ho
 ·rename_i gm;split at ho
  ·cases ho
  rename_i he;have he:(hopT n (routerT n X q.frame.dst).1 q.frame).2.2=0:=Classical.byContradiction he;rw[yB.1 ho];refine⟨λe=>(by cases e),λe=>(by cases e),λe=>(by cases e),λ_=>⟨?_,A24 B hu bq hX hc gm he⟩⟩;exact Ape (λd hd=>(mem_ways.1 (K4 hd).1).1) he
 ·rcases yI.1 ho with h|h
  ·obtain ⟨i,_,rfl⟩:=yS.1 h;rw[Aa3,Qt];split
   ·exact A1j E
   rename_i he;have he:(leaveT n i X q.frame).2=0:=Classical.byContradiction he;refine⟨λ_=>?_,λ_ e=>Aye B.right hX hc he e,λe=>?_,λe=>?_⟩
   ·have hm:=(Aoq B.right hX hc.1 he).1;obtain ⟨_,k,hw⟩:=hc;rcases hw with hw|hw
    ·exact⟨k,_,hw,hm⟩
    ·exact⟨k,_,hw.1,hm⟩
   ·dsimp only at e;split at e<;>cases e
   ·dsimp only at e;split at e<;>cases e
  ·obtain ⟨i,_,rfl⟩:=yS.1 h;rw[Ae9,Qt];split
   ·exact A1j E
   rename_i he;have he:(meshT n X i q.frame).2=0:=Classical.byContradiction he;exact⟨λe=>(by cases e),λe=>(by cases e),λ_ _=>Ax3 B hX hc he,λe=>(by cases e)⟩
theorem CameM.pick{bp:Int→Int}{m:MacM}(h:CameM n bp m)(d a:Int):CameM n bp (pickT n m d a).1∧∀s∈(pickT n m d a).2,SawP n bp s:=by
 obtain ⟨h1,h2⟩:=h.take d a;rw[pickT];split
 ·exact⟨h1,λs hs=>(by cases hs)⟩
 rename_i hc;obtain ⟨hd,hf⟩:=h2 (by simpa using hc);refine CameM.goesL _ ?_ λo ho=>Aqf B hu bq hd hf o ho
 rw[Om];split
 ·exact h1.same E
 split
 ·exact h1.same E
 ·exact h1.same E
theorem CameM.do{bp:Int→Int}{m:MacM}(h:CameM n bp m)(x:StepM)(hx:K5 n x=1→bp (m.injected+1)=x.port):CameM n bp (doT n m x).1∧∀s∈(doT n m x).2,SawP n bp s:=by
 rw[doT];split
 ·rename_i hk;refine⟨?_,λs hs=>(by cases hs)⟩;rw[injectT];split
  ·exact h
  rename_i hc;have hi:K5 n x=1:=by
   rw[K5,zG];simp only[uC,Bool.not_eq_false]at hc;exact⟨hk,hc.1,by omega⟩
  refine CameM.come (m:=⟨m.up,m.tables,m.queues,m.now,m.injected+1,m.drops⟩) (d:=(enterT n x.port x.bytes).1) (q:=⟨x.port,0,m.injected+1,(enterT n x.port x.bytes).2.1⟩) (e:=(enterT n x.port x.bytes).2.2) (h.same E) λe=>⟨Yb e,?_⟩
  dsimp only;rw[hx hi];obtain ⟨h1,h2⟩:=Ay3 e;exact⟨h1,0,.inl (.start h2)⟩
 split
 ·exact h.pick B hu bq _ _
 split
 ·exact⟨(h.take _ _).1,λs hs=>(by cases hs)⟩
 split
 ·exact⟨h.same rfl,λs hs=>(by cases hs)⟩
 split
 ·split
  ·exact⟨h.same rfl,λs hs=>(by cases hs)⟩
  ·exact⟨h,λs hs=>(by cases hs)⟩
 ·exact⟨h,λs hs=>(by cases hs)⟩
theorem CameM.run{bp:Int→Int}:∀(l:List StepM) {m:MacM},Hf m→CameM n bp m→(∀(i:Nat) (h:i<(l.filter λx=>decide (K5 n x=1)).length),bp (m.injected+1+i)=((l.filter λx=>decide (K5 n x=1))[i]).port)→∀s∈(Dw n m l).2,SawP n bp s
 |[],m,_,_,_,s,hs=>by cases hs
 |x::l,m,hg,h,hb,s,hs=>by
  obtain ⟨g1,g2⟩:=Avy (n:=n) hg x;have em:K5 n x=1→bp (m.injected+1)=x.port:=λhi=>by
   have hf:(x::l).filter (λx=>decide (K5 n x=1))=x::l.filter λx=>decide (K5 n x=1):=vR (zO hi)
   have:=hb 0 (by rw[hf];simp);simp only[hf]at this;simpa using this
  obtain ⟨h1,h2⟩:=h.do B hu bq x em
  rw[Dw]at hs;rcases yI.1 hs with hs|hs
  ·exact h2 s hs
  ·refine CameM.run l g1 h1 (λi hi=>?_) s hs;rw[g2];by_cases c:K5 n x=1
   ·have hf:(x::l).filter (λx=>decide (K5 n x=1))=x::l.filter λx=>decide (K5 n x=1):=vR (zO c)
    have:=hb (i+1) (by rw[hf,yL];omega);simp only[hf,tO]at this;rw[←this,c];congr 1;omega
   ·have hf:(x::l).filter (λx=>decide (K5 n x=1))=l.filter λx=>decide (K5 n x=1):=uL (by simpa using c)
    have hz:K5 n x=0:=by
     rw[K5]at c⊢;split at c
     ·exact zY E c
     ·rename_i hh;rw[zD hh]
    have:=hb i (by rw[hf];exact hi);simp only[hf]at this;rw[←this,hz];congr 1;omega
end
def A1y(n:Net)(bp:Int→Int):CameM n bp (newT n):=by
 refine⟨by show (List.replicate n.domains.length ([]:List QueuedM)).length=_;simp,λX hX q hq=>?_⟩;have:queueL (newT n) X=[]:=by
  show ((List.replicate n.domains.length ([]:List QueuedM))[X.toNat]?).getD []=[];rw[List.getElem?_replicate];split<;>rfl
 rw[this]at hq;cases hq
def Aiw{n:Net}{bp:Int→Int}{m:MacM}(h:CameM n bp m)(tabs:List (List EntryM)):∀j,CameM n bp (J0 m tabs j)
 |0=>h
 |j+1=>by
  rw[J0,Qu];have:=Aiw h tabs j;split
  ·exact this
  rw[loadT]
  repeat' split
  all_goals (first|exact this.same rfl|exact this)
def Ach{n:Net}{ow:List Int}{f:Nat}{a:Int}:∀(l:List Int) (i:Nat),S4 n ow f a i l=none→∀(k:Nat) (h:k<l.length),¬(a<0∨l[k]<0∨a=l[k])→(wayT n f ((i+k:Nat):Int)).2=false
 |[],i,_,k,h=>by cases h
 |b::r,i,hn,k,h=>by
  intro hk;rw[S4]at hn;split at hn
  ·cases hn
  rename_i hc;cases k with
  |zero=>
   have hw:¬(wayT n f ((i:Nat):Int)).2=true:=λhw=>hc ⟨hk,hw⟩
   simpa using hw
  |succ k=>
   have:=Ach r (i+1) hn k (by rw[yL]at h;omega) hk;rw[show i+1+k=i+(k+1) by omega]at this;exact this
def Aci{n:Net}{ow:List Int}:∀(l:List Int) (i:Nat),(X2 n ow i l).2.2=false→∀(f:Nat) (hf:f<l.length) (t:Nat) (ht:t<ow.length),¬(l[f]<0∨ow[t]<0∨l[f]=ow[t])→(wayT n ((i+f:Nat):Int) (t:Nat)).2=false
 |[],i,_,f,hf=>by cases hf
 |a::r,i,hn,f,hf=>by
  intro t ht hk;rw[X2]at hn;cases hl:S4 n ow i a 0 ow with
  |some to=>rw[hl]at hn;cases hn
  |none=>
   rw[hl]at hn;cases f with
   |zero=>
    have:=Ach ow 0 hl t ht hk;rw[wE]at this;exact this
   |succ f=>
    have:=Aci r (i+1) hn f (by rw[yL]at hf;omega) t ht hk;rw[show i+1+f=i+(f+1) by omega]at this;exact this
def As9{n:Net}{of:List Int}(ho:Ds n of=true)(h:(leaksT n of).2.2=false){p q:Int}(hp:Ah p of.length=true)(hq:Ah q of.length=true)(h1:0≤nth of p)(h2:0≤nth of q)(ag:nth of p≠nth of q):(wayT n p q).2=false:=by
 rw[leaksT,zD (by rw[ho];decide)]at h;simp only[Ah,zE,zJ]at hp hq;have ec:p.toNat<of.length:=by omega
 have hq2:q.toNat<of.length:=by omega
 have:=Aci of 0 h p.toNat ec q.toNat hq2 (by
  rw[Ai ec]at h1 ag;rw[Ai hq2]at h2 ag;rintro (hh|hh|hh)
  ·omega
  ·omega
  ·exact ag hh)
 rwa [wE,xD hp.1,xD hq.1]at this
def A2w{n:Net}{of:List Int}(ho:Ds n of=true)(x:StepM):injB of x=decide (K5 n x=1):=by
 have ha:=V3 ho;unfold injB K5;by_cases hk:x.kind=1
 ·cases hp:Ah x.port of.length
  ·rw[ha.1]at hp;simp[hp]
  ·have hw:=ha.2.2 x.port hp;rw[ha.1]at hp;by_cases hl:(nth n.ports x.port).link<0
   ·rw[zG hl]at hw;simp[hk,hp,hl,hw.1]
   ·rw[zD hl]at hw;simp[hk,hp,hl,hw]
 ·simp[hk]
def Ajt{of ic:List Int}:∀l:List SeenM,(∀s∈l,nth of (nth ic (s.origin-1))=nth of s.port)→L5 of ic l=(0,0,false)
 |[],_=>rfl
 |s::l,h=>by
  rw[L5,zD (λhh=>hh (h s y_))];exact Ajt l λx hx=>h x (by simp[hx])
def Axf{n:Net}(B:BuiltK n)(hu:Dr n)(bq:FarK n){of:List Int}(ho:Ds n of=true)(hl:(leaksT n of).2.2=false)(tabs:List (List EntryM))(l:List StepM):L5 of (Ej of l) (Dw n (Jq n tabs) l).2=(0,0,false):=by
 have ha:=V3 ho;have jw:=Afj n tabs;have e:(l.filter λx=>decide (K5 n x=1)).map (·.port)=Ej of l:=by
  rw[Ej];congr 1;exact List.filter_congr λx _=>(A2w ho x).symm
 have hsaw:=CameM.run (n:=n) B hu bq (bp:=λ o=>nth (Ej of l) (o-1)) l jw.1 (Aiw (A1y n _) tabs tabs.length) (λ i hi=>by
  have jo:i<(Ej of l).length:=by rw[←e,xF];exact hi
  rw[jw.2,show (0:Int)+1+(i:Int)-1=(i:Int) by omega,Ai (l:=Ej of l) (i:=(i:Int)) (by simpa using jo)];simp only[← e,List.getElem_map,zU])
 refine Ajt _ λs hs=>Classical.byContradiction λag=>?_
 obtain ⟨k,y,hw,hm⟩:=hsaw s hs;dsimp only at hw;have hr:=Am4 ho tabs l s hs;have ff:=Aaw (n:=n) l jw.1 s hs;have hi:(s.origin-1).toNat<(Ej of l).length:=by omega
 have sq:nth (Ej of l) (s.origin-1)∈Ej of l:=L2 hi;obtain ⟨ig,ec⟩:=Axj _ sq;generalize nth (Ej of l) (s.origin-1)=p at *;have tu:∀{i:Int},Ah i of.length=true→(nth n.ports i).link<0→L8 n i=true:=λ{i} h1 h2=>by
  rw[ha.1]at h1;simp only[Ah,zE,zJ]at h1;rw[L8,zO h1.1,zO h1.2,zO h2];rfl
 have bh:(nth n.ports p).link<0:=Classical.byContradiction λhh=>by
  have:=ha.2.2 p ig;rw[zD hh]at this;omega
 have o0:=ha.2.2 s.port hr.1;rw[zG ff.2.1]at o0;have r9:=As9 ho hl ig hr.1 ec o0.1 ag;exact(way_short.2 r9).2 B.right (tu ig bh) (tu hr.1 ff.2.1) (λhh=>ag (by rw[hh])) k y hw (inB_iff.2 hm)
def Ahc{n:Net}(B:BuiltK n)(hu:Dr n)(bq:FarK n){of:List Int}(hl:(leaksT n of).2.2=false)(tabs:List (List EntryM))(l:List StepM):crossesT n of tabs l=(0,0,false):=by
 rw[crossesT];split
 ·rename_i h;exact Axf B hu bq h.1 hl tabs l
 ·rfl
def A6v{b:List UInt8}(h:(netTextT b).2.2=0):FarK (netTextT b).1:=by
 rw[netTextT]at h⊢;split at h
 ·contradiction
 rename_i h1;rw[zD h1];exact Ajy (textT b).1 emptyN Ajn h
def A32{n:Net}(B:BuiltK n)(hc:Dk n=true):okB n (Aal n)=true:=ok_iff.2 ⟨by simp[Aal],B.right,hc⟩
structure RepK(n:Net)(of:List Int)(j:Nat)(r:RepM):Prop where
 scripts:r.scripts=2
 steps:r.steps=30*j
 pos:0≤r.crossed
 one:r.crossed=0↔r.script.length=0
 none:(∀l,crossB n of [] l=false)→r.crossed=0
def repK(n:Net)(of:List Int)(s:Int):∀j:Nat,RepK n of j (Jc n of 30 2 s j).1
 |0=>⟨rfl,rfl,xU _,by simp[Jc],λ_=>rfl⟩
 |j+1=>by
  have ih:=repK n of s j;have hl:=E8 n 30 (Jc n of 30 2 s j).2;rw[Jc];generalize Jc n of 30 2 s j=st at *;generalize (B6 n 30 st.2).1=l at *;obtain ⟨h1,h2,h3,h4,h5⟩:=ih;rw[Aex];refine⟨h1,by dsimp only;rw[h2,hl];omega,?_,?_,λhc=>?_⟩
  ·dsimp only;split<;>omega
  ·dsimp only;by_cases c:crossB n of [] l=true
   ·rw[zG c];by_cases c0:st.1.crossed=0
    ·rw[zG ⟨c,c0⟩,hl];constructor
     ·intro;omega
     ·intro h;cases h
    ·rw[zD (λhh=>c0 hh.2)];constructor
     ·intro;omega
     ·intro h;exact zY (h4.2 h) c0
   ·rw[zD c,zD (λhh=>c hh.1)];exact h4
  ·dsimp only;rw[zD (by rw[hc l];decide)];exact h5 hc
def Apx{n:Net}(B:BuiltK n)(hu:Dr n)(bq:FarK n)(hc:Dk n=true)(of:List Int)(s:Int):((drillT n of s 2 30).2≠0→(drillT n of s 2 30).1.crossed=0∧(leaksT n of).2.2=false) ∧
  ((drillT n of s 2 30).2=0→(drillT n of s 2 30).1.scripts=2∧(drillT n of s 2 30).1.steps=60∧((drillT n of s 2 30).1.crossed=0↔(drillT n of s 2 30).1.script.length=0)∧((leaksT n of).2.2=false→(drillT n of s 2 30).1.crossed=0)):=by
 rw[drillT];split
 ·rename_i h;have hk:=repK n of s 2;refine⟨λhh=>zY E hh,λ_=>?_⟩;rw[show (30:Int).toNat=30 from rfl,show (2:Int).toNat=2 from rfl];exact⟨hk.scripts,hk.steps,hk.one,λhl=>hk.none λl=>by rw[crossB,Ahc B hu bq hl]⟩
 ·rename_i h;refine⟨λ_=>⟨rfl,?_⟩,λhh=>by cases hh⟩;have ho:Ds n of=false:=by
   cases hh:Ds n of
   ·rfl
   ·exact zY ⟨⟨by decide,by decide⟩,⟨by decide,by decide⟩,hh,A32 B hc⟩ h
  rw[leaksT,zG ho]
attribute [local irreducible] Go.Sy.G Go.Sy.DR
set_option maxRecDepth 100000
set_option maxHeartbeats 4000000
def Apz(b:List UInt8)(of:List Int)(s:Int):Sp 3 [.sl 1 Al b,.sl 1 Aa of,A2 s] (Ab true):=cT F3 ntmps3 λF hF=>by
 have qw:=Apy;obtain ⟨k,hk,iy,dg⟩:∃k:Nat,(if (2000:Int)<(b.length:Int) then 2000 else (b.length:Int))=(k:Int)∧k≤b.length∧k≤2000:=⟨min b.length 2000,by split<;>omega,by omega,by omega⟩
 have km:(b.take k).length≤2000:=by rw[yA];omega
 have q1:=A10 (b.take k) q_;obtain ⟨hn,hu⟩:=An9 (b.take k);have hbu:=@A4p (b.take k);have hfr:=@A6v (b.take k);generalize zk:b.take k=bb at *;generalize netTextT bb=nt at *;obtain ⟨n,nrow,ne⟩:=nt;dsimp only at *;refine gD qw F4 ?_;refine X (U8 E E E) ?_;refine X (Ahr (lo:=0) (hi:=k) Γ.toTy bb E E E E (.inl ⟨E,E⟩) (.inr ⟨_,_,E,zH (λz=>SV.val (.int .i64 z)) hk⟩) (vA _) iy (by rw[List.drop_zero];exact zk)) ?_;by_cases e0:ne=0;rotate_left
 ·have g0:(ne != 0)=true:=by rw[xG];exact e0
  refine C q1 F5 ?_;exact D
 have g0:(ne != 0)=false:=by rw[e0];rfl
 obtain ⟨_,B,hc⟩:=hbu e0;have bq:=hfr e0;by_cases c1:300<of.length
 ·have f1:decide ((of.length:Int)>300)=true:=zO q_;refine C q1 F5 ?_;exact D
 have f1:decide ((of.length:Int)>300)=false:=zL q_;have q2:=A28 n [] [];refine C q1 F5 ?_;refine X (Af2 [] [] E F6 q2 vL Y E Y E) ?_;cases hg:great34B n [] [] with
 |true=>
  exact gA
 |false=>
 have q3:=Ay4 n hn B.num B.num.addr of s 2 30;have q4:=leaksS n hn hu of;have hq:=Apx B hu bq hc of s;generalize drillT n of s 2 30=rr at *;obtain ⟨⟨sc,st,se,cr,scr⟩,f⟩:=rr;generalize leaksT n of=lk at *;obtain ⟨la,lb,lk⟩:=lk;dsimp only at *;by_cases e1:f=0;rotate_left
 ·obtain ⟨z1,z2⟩:=hq.1 e1;subst z1 z2;have g1:(f != 0)=true:=by rw[xG];exact e1
  refine gB q3 F7 q4 F8 ?_;exact D
 obtain ⟨z1,z2,z3,z4⟩:=hq.2 e1;subst z1 z2 e1;by_cases c0:cr=0
 ·have hs:=wW.1 (z3.1 c0);subst c0 hs;refine gB q3 F7 q4 F8 ?_;cases lk
  ·exact gA
  ·exact gA
 ·have hl:lk=true:=by
   cases lk
   ·exact zY (z4 E) c0
   ·rfl
  subst hl;have g2:(cr==0)=false:=by rw[zR];exact c0
  have g3:((scr.length:Int)==0)=false:=by rw[zR];exact λh=>c0 (z3.2 q_)
  refine gB q3 F7 q4 F8 ?_;exact At E (.cons .tmp .nil) (zH Ab (by rw[g2,g3];rfl)) E
end Go.Sy.YticmobkdaneelaaGreatDoor
