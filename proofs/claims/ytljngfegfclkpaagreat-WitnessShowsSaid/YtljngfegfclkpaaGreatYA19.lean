/-
  H3 H4 H7: parts of a proof, joined by program.
-/
import Derived.Test.YtljngfegfclkpaaGreatYA17
import Derived.Test.YtljngfegfclkpaaGreatYA8
import Derived.Test.YtljngfegfclkpaaGreatYA12
set_option linter.all false
set_option linter.unusedVariables false
set_option linter.unusedSimpArgs false
set_option linter.deprecated false
namespace Go.Sy.YtljngfegfclkpaaGreat
open Go.Proofs
attribute [local irreducible] Go.Sy.G Go.Sy.DR
set_option maxRecDepth 100000
set_option maxHeartbeats 4000000
theorem Ae8 (b:List UInt8):FrameOK (takeF b).1:=by
 by_cases h:(takeF b).2=0
 ·exact Abe h
 ·rw[Asb h];exact D3
theorem Ajj {f:FrameM} (hf:FrameOK f) (v:Nat) (hv:v≤4094):FrameOK (tagT f v).1:=by
 by_cases h:(tagT f v).2=0
 ·exact Avz hf v hv h
 ·unfold tagT at h ⊢
  split
  ·exact D3
  ·rename_i h1
   rw[zA h1]at h
   split
   ·exact D3
   ·rename_i h2
    rw[zA h2]at h
    exact zW E h
theorem V1 {n:Net} (hu:Dd n) (l:List Hop):(wayBytes n l).1.length≤1518:=by
 unfold wayBytes
 split
 ·show (Jw _).length≤1518
  rw[Dm]
  have:=(Aga hu l).body
  omega
 ·show 0≤1518;decide
theorem Amy (n:Net) (hn:n.Fin) (hu:Dd n) (hb:Ab n=true) (port:Int) (hp:0≤port∧port.toNat<n.ports.length) (l:List Hop) (hl:Ak l) (hla:∀ h∈l,X7 n h) (h0:0<l.length) :
  Sp 18 [Aj n,Aa port,.sl 4 Cy l] (D6 (injectW n port l)):=cT F18 Tryz.ntmps18 λ F hF=>by
 have hk0:(0:Int).toNat<l.length:=h0
 have hd:=hla _ (zE hk0)
 have q1:=Ae3 n hn hu l hl (λ h hh=>(hla h hh).2)
 have hwl:=V1 (n:=n) hu l
 have hv:=Vr hb hd.1.2
 have hres:=injectW.eq_1 n port l
 rw[Ae hk0,Ae hd.1.2,Ae hp.2]at hres
 generalize injectW n port l=res at *
 obtain ⟨ve,hve⟩:∃ v:Nat,(n.domains[(l[(0:Int).toNat]'hk0).domain.toNat]'hd.1.2).vlan=v:=⟨_,(yQ q_).symm⟩
 have hd1:0≤(l[(0:Int).toNat]'hk0).domain∧(l[(0:Int).toNat]'hk0).domain.toNat<n.domains.length:=hd.1
 have q3:=λ f hf=>Ajk f ve hf q_
 have ho:=λ f hf=>Ajj (f:=f) hf ve q_
 rw[← hve]at q3 ho
 clear hve
 generalize wayBytes n l=bb at *
 have q2:=Qb bb.1 q_
 have hf:=Ae8 bb.1
 generalize takeF bb.1=tk at *
 have q3:=q3 _ hf
 have q4:=Ld _ (ho _ hf)
 clear ho
 refine fW ?_
 refine Az 3 8 (Aj n) E E E ?_
 refine T ?_
 refine C q1 F10 ?_
 constructor<;>intro h
 ·have hv2:(n.domains[(l[(0:Int).toNat]'hk0).domain.toNat]'hd.1.2).vlan≠(n.ports[port.toNat]'hp.2).native:=by simpa using h
  rw[zC hv2]at hres
  clear h hv hv2
  generalize tagT tk.1 (n.domains[(l[(0:Int).toNat]'hk0).domain.toNat]'hd.1.2).vlan=tg at *
  subst hres
  refine T ?_
  refine C q2 F42 ?_
  refine C q3 F43 ?_
  refine Ag (Ad [(0,55)] E F29 q4 E Y E ⟨.inr E,Y⟩) E E ?_
  refine Ai 55 E ?_
  refine T ?_
  refine Am 6 [Aa 1,Aa port,Aa 0,Aa 0,.sl 1 Al (Jw tg.1),.sl 1 Ac []] E vL ?_
  exact D
 ·have hv2:¬ (n.domains[(l[(0:Int).toNat]'hk0).domain.toNat]'hd.1.2).vlan≠(n.ports[port.toNat]'hp.2).native:=by simpa using h
  rw[zA hv2]at hres
  subst hres
  refine T ?_
  refine Am 6 [Aa 1,Aa port,Aa 0,Aa 0,.sl 1 Al bb.1,.sl 1 Ac []] E vL ?_
  exact D
abbrev stO (n:Net) (s:GoM):Obs:=[(0,.box (Qv n 1 s.m.now s.m.injected s.m.drops)),(1,.box (Jr n s.m.up s.d)),(2,.row 1 Ma s.m.tables),(3,.row 1 M4 s.m.queues),(5,.box [.ptr 0 0]),(6,.box [.osl 7]),(7,.row 6 D6 s.out)]
abbrev stN (n:Net) (s:GoM):Obs:=[(0,.box (Qv n 4 s.m.now s.m.injected s.m.drops)),(1,.non),(2,.row 1 Ma s.m.tables),(3,.row 1 M4 s.m.queues),(4,.box (Jr n s.m.up s.d)),(5,.box [.ptr 0 0]),(6,.box [.osl 8]),(7,.non),(8,.row 6 D6 s.out)]
abbrev doSV:SV:=.clo (.func 14) [] [.ptr 5 0,.ptr 6 0]
abbrev pkO (n:Net) (s:GoM):Obs:=[(0,.box (Qv n 1 s.m.now s.m.injected s.m.drops)),(1,.box (Jr n s.m.up s.d)),(2,.row 1 Ma s.m.tables),(3,.row 1 M4 s.m.queues),(5,.box [.ptr 0 0]),(6,.box [.osl 7]),(7,.row 6 D6 s.out),(9,.box [doSV])]
abbrev pkN (n:Net) (s:GoM):Obs:=[(0,.box (Qv n 4 s.m.now s.m.injected s.m.drops)),(1,.non),(2,.row 1 Ma s.m.tables),(3,.row 1 M4 s.m.queues),(4,.box (Jr n s.m.up s.d)),(5,.box [.ptr 0 0]),(6,.box [.osl 8]),(7,.non),(8,.row 6 D6 s.out),(9,.box [doSV])]
theorem Avh (n:Net) (hn:n.Fin) (hm1:n.Num) (s:GoM) (J D:Int) (hm0:MacOK n s.m J D) (hJ:J<900000000000) (hD0:0≤D) (hD:D≤900000000000) (hlen:s.out.length<1000000) (x:StepM) (hb:x.bytes.length<100000) :
  Sq 14 [D6 x,.ptr 5 0,.ptr 6 0] (stO n s) (.tup []) (stN n (doW n s x)):=cT F14 Tryz.ntmps14 λ F hF=>by
 have q1:=Anq n hn hm1 s.m s.d J D hm0 hJ hD0 hD x hb
 have hres:=doW.eq_1 n s x
 generalize doT n s.m x=r at *
 generalize doD n s.m s.d x=dd at *
 generalize doW n s x=res at *
 subst hres
 refine fW ?_
 refine X (Xc (d:=900) E E E) ?_
 refine X (Ad [] E F15 q1 E W E V) ?_
 refine X (Ah Γ.toTy 8 E E E E E (.row E) (.lit (e:=D6) (l:=[x]) E E) y_ (by simp;omega) (by simp;omega)) ?_
 exact A4 E .nil [] (stN n ⟨r.1,dd,s.out++[x]⟩) (λ _ h=>h) E E U
theorem Aze (n:Net) (hn:n.Fin) (hm1:n.Num) (m:MacM) (d:Bool) (J D:Int) (hm0:MacOK n m J D) (hJ:J<900000000000) (hD0:0≤D) (hD:D≤900000000000) (x:StepM) (hb:x.bytes.length<100000) :
  Sq 14 [D6 x,.ptr 5 0,.ptr 6 0] [(0,.box (Qv n 1 m.now m.injected m.drops)),(1,.box (Jr n m.up d)),(2,.row 1 Ma m.tables),(3,.row 1 M4 m.queues),(5,.box [.ptr 0 0]),(6,.box [.val (.slice none 0 0)])] (.tup [])
   [(0,.box (Qv n 4 (doW n ⟨m,d,[]⟩ x).m.now (doW n ⟨m,d,[]⟩ x).m.injected (doW n ⟨m,d,[]⟩ x).m.drops)),(1,.non),(2,.row 1 Ma (doW n ⟨m,d,[]⟩ x).m.tables),(3,.row 1 M4 (doW n ⟨m,d,[]⟩ x).m.queues),(4,.box (Jr n (doW n ⟨m,d,[]⟩ x).m.up (doW n ⟨m,d,[]⟩ x).d)),(5,.box [.ptr 0 0]),(6,.box [.osl 8]),(8,.row 6 D6 (doW n ⟨m,d,[]⟩ x).out)]:=cT F14 Tryz.ntmps14 λ F hF=>by
 have q1:=Anq n hn hm1 m d J D hm0 hJ hD0 hD x hb
 have hres:=doW.eq_1 n ⟨m,d,[]⟩ x
 dsimp only at hres
 generalize doT n m x=r at *
 generalize doD n m d x=dd at *
 generalize doW n ⟨m,d,[]⟩ x=res at *
 subst hres
 refine fW ?_
 refine X (Xc (d:=900) E E E) ?_
 refine X (Ad [] E F15 q1 E W E V) ?_
 refine X (Ah Γ.toTy 8 E E E E E .nil (.lit (e:=D6) (l:=[x]) E E) y_ y_ y_) ?_
 exact A4 E .nil [] [(0,.box (Qv n 4 r.1.now r.1.injected r.1.drops)),(1,.non),(2,.row 1 Ma r.1.tables),(3,.row 1 M4 r.1.queues),(4,.box (Jr n r.1.up dd)),(5,.box [.ptr 0 0]),(6,.box [.osl 8]),(8,.row 6 D6 ([]++[x]))] (λ _ h=>h) E E U
theorem Aui {P:Program} {o:Oper} {s:SS} {x y:Operand} {at_:Array TypeId} {k k':IntKind} {m n r:Int} (hr:(if m<n then n else m)=r) (h:o.op=.call ⟨.builtin .max,#[x,y],at_⟩)
  (hx:ev s x=.val (.int k m)) (hy:ev s y=.val (.int k' n)):Good P o s ⟨.val (.int k r),[],[]⟩:=by
 subst hr
 exact Good.pure λ κ a w _ hr ho=>by
  have h1:=hr x (by simp[h,Op.operands,Call.operands])
  have h2:=hr y (by simp[h,Op.operands,Call.operands])
  rw[hx]at h1
  rw[hy]at h2
  refine⟨.int k (if m<n then n else m),?_,by simp[Rd]⟩
  simp[execOp,h,resolve,invoke,builtin,Builtin.max_,Builtin.max2,h1.val,h2.val]
theorem Aa7 (n:Net) (hn:n.Fin) (hm1:n.Num) (s:GoM) (J D:Int) (hm0:MacOK n s.m J D) (hJ:J<900000000000) (hD0:0≤D) (hD:D≤900000000000) (hlen:s.out.length<1000000) (dom:Int) :
  Sq 16 [Aa dom,.ptr 9 0,.ptr 5 0] (pkO n s) (.tup []) (pkN n (Se n s dom)):=cT F16 Tryz.ntmps16 λ F hF=>by
 have hqo:=Hx hm0 dom
 have q1:=Asp n s.m s.d dom hqo
 have q2:=Avh n hn hm1 s J D hm0 hJ hD0 hD hlen (pickX s.m dom) (by show 0<100000;decide)
 rw[Se]
 generalize doW n s (pickX s.m dom)=res at *
 have hpx:=pickX.eq_1 s.m dom
 have hql:(if Af dom s.m.queues.length=true then queueL s.m dom else []).length<1000000:=by
  have:=hqo.1
  split
  ·omega
  ·simp
 generalize (if Af dom s.m.queues.length=true then queueL s.m dom else [])=qs at *
 obtain ⟨v,hv⟩:∃ v:Int,(if (qs.length:Int)-1<0 then 0 else (qs.length:Int)-1)=v:=⟨_,rfl⟩
 rw[hv]at hpx
 generalize pickX s.m dom=px at *
 subst hpx
 refine T ?_
 refine Xe (Ad [] E F17 q1 E W E V) ?_
 refine Xd (Aui hv E E E) ?_
 refine Xd (I0 [] [] (Cb E E F14) q2 (.cons (.agg vL) (.cons (.refl _) (.cons (.refl _) .nil))) W E V E) ?_
 exact A4 E .nil [] (pkN n res) (λ _ h=>h) E E U
end Go.Sy.YtljngfegfclkpaaGreat
namespace Go.Sy.YtljngfegfclkpaaGreat
open Go.Proofs
theorem Aij {n:Net} (hn:n.Fin) (hm1:n.Num) {s:GoM} {J D:Int} (h:MacOK n s.m J D) (hJ:0≤J) (hD:0≤D) (x:StepM):MacOK n (doW n s x).m (J+1) (D+4294967298)∧(doW n s x).out.length=s.out.length+1 :=
 ⟨Ayn hn hm1 h hJ hD x,by simp[doW]⟩
theorem Axo {n:Net} (hn:n.Fin) (hm1:n.Num) {s:GoM} {J D:Int} (h:MacOK n s.m J D) (hJ:0≤J) (hD:0≤D) (x:Hop):MacOK n (linkW n s x).m (J+1) (D+4294967298)∧(linkW n s x).out.length≤s.out.length+1:=by
 unfold linkW
 split
 ·have:=Aij hn hm1 h hJ hD ⟨5,0,0,0,[],upW n x⟩
  exact⟨this.1,by omega⟩
 ·exact⟨h.mono q_ q_,by omega⟩
theorem Ayd {n:Net} (hn:n.Fin) (hm1:n.Num) (from_:Int) (l:List Hop):∀ k:Nat,MacOK n (goW n from_ l k).m (1+2 * k) ((1+2 * k) * 4294967298)∧(goW n from_ l k).out.length≤1+2 * k
 | 0=>by
  have:=Aij hn hm1 (s:=⟨newT n,false,[]⟩) (Ahs n) (wG _) (wG _) (injectW n from_ l)
  rw[goW]
  exact⟨this.1.mono q_ q_,by rw[this.2];simp⟩
 | k+1=>by
  obtain ⟨h1,h2⟩:=Ayd hn hm1 from_ l k
  rw[goW]
  have h3:=Axo hn hm1 h1 q_ q_ (nth l ((k+1:Nat):Int))
  have h4:=Aij hn hm1 h3.1 q_ q_ (pickX (linkW n (goW n from_ l k) (nth l ((k+1:Nat):Int))).m (nth l ((k:Nat):Int)).domain)
  refine⟨h4.1.mono q_ q_,?_⟩
  have h5:=h4.2
  unfold Se
  omega
theorem Ale {n:Net} (hu:Dd n) (hb:Ab n=true) (from_:Int) {l:List Hop} (h0:0<l.length) (hla:∀ h∈l,X7 n h):(injectW n from_ l).bytes.length<100000:=by
 have hk0:(0:Int).toNat<l.length:=h0
 have hd:=hla _ (zE hk0)
 have hv:=Vr hb hd.1.2
 show (if _ then _ else _:List UInt8).length<100000
 rw[Ae hk0,Ae hd.1.2]
 obtain ⟨ve,hve⟩:∃ v:Nat,(n.domains[(l[(0:Int).toNat]'hk0).domain.toNat]'hd.1.2).vlan=v:=⟨_,(yQ q_).symm⟩
 rw[hve]
 split
 ·rw[Dm]
  have:=(Ajj (Ae8 (wayBytes n l).1) ve q_).body
  omega
 ·have:=V1 (n:=n) hu l
  omega
attribute [local irreducible] Go.Sy.G Go.Sy.DR
set_option maxRecDepth 100000
set_option maxHeartbeats 8000000
theorem U9 (n:Net) (hn:n.Fin) (hm1:n.Num) (hu:Dd n) (from_ to:Int) :
  Sp 7 [Aj n,Aa from_,Aa to] (.tup [.sl 6 D6 (wscriptT n from_ to).1,Aa (wscriptT n from_ to).2]):=cT F7 Tryz.ntmps7 λ F hF=>by
 have hlk:=wscriptT.eq_1 n from_ to
 generalize wscriptT n from_ to=res at *
 have h1:=V0 n from_
 have h2:=V0 n to
 have hls:=hn.links
 unfold Ak at hls
 refine fW ?_
 refine Az 3 8 (Aj n) E E E ?_
 refine T ?_
 refine C h1 F12 ?_
 cases hf:Ji n from_
 ·rw[zA (λ x=>by rw[hf]at x;cases x.1)]at hlk
  subst hlk
  refine T ?_
  refine Ao 6 6 D6 E ?_
  exact D
 refine T ?_
 refine C h2 F12 ?_
 cases ht:Ji n to
 ·rw[zA (λ x=>by rw[ht]at x;cases x.2.1)]at hlk
  subst hlk
  refine T ?_
  refine Ao 6 6 D6 E ?_
  exact D
 refine T ?_
 constructor<;>intro h
 ·rw[zA (λ x=>x.2.2.1 (by simpa using h))]at hlk
  subst hlk
  refine T ?_
  refine Ao 6 6 D6 E ?_
  exact D
 have hne:from_≠to:=by simpa using h
 clear h
 refine T ?_
 cases hok:okB n (Avn n)
 ·rw[zA (λ x=>by rw[hok]at x;cases x.2.2.2)]at hlk
  subst hlk
  refine C (Abj n hn hok) F13 ?_
  refine Ao 6 6 D6 E ?_
  exact D
 rw[zC ⟨hf,ht,hne,hok⟩]at hlk
 refine X (Ad [(0,800),(1,801),(2,802),(3,803)] E F13 (Aqm n hn hok) E Y E V) ?_
 have q2:=wayS n hn hu from_ to
 have hfac:=@Amz n hu from_ to
 have hlnk:=@way_links n from_ to
 have hsh:Ak (wayT n from_ to).1∨True:=.inr trivial
 generalize wayT n from_ to=wr at *
 obtain ⟨l,ok⟩:=wr
 cases ok
 ·rw[zA y_]at hlk
  subst hlk
  refine C q2 F9 ?_
  refine Ao 6 6 D6 E ?_
  exact D
 rw[zC rfl]at hlk
 obtain ⟨hla,hlen,hlne,hb⟩:=hfac rfl
 have hlk2:=hlnk rfl
 clear hfac hlnk hsh
 dsimp only at *
 have hfe:=Agh hb
 have h0:0<l.length:=xF.2 hlne
 have hsl:Ak l:=by unfold Ak;omega
 have hp:=Jh hf
 have q3:=Amy n hn hu hb from_ hp l hsl hla h0
 have q4:=Aze n hn hm1 (newT n) false 0 0 (Ahs n) q_ q_ q_ (injectW n from_ l) (Ale hu hb from_ h0 hla)
 rw[show doW n ⟨newT n,false,[]⟩ (injectW n from_ l)=goW n from_ l 0 from rfl]at q4
 refine C q2 F9 ?_
 refine C q3 F18 ?_
 refine Xd (Bz [(0,800),(1,801),(2,802),(3,803),(4,804),(5,8),(6,12),(8,805)] (Cb E E F14) q4 E W E V) ?_
 have hdl:(l.drop 1).length=l.length-1:=by simp
 refine X (J5 (lo:=1) (hi:=l.length) Γ.toTy (l.drop 1) E E E E (.inr ⟨_,_,E,E⟩) (.inl ⟨E,E⟩) q_ (zZ _) (by rw[yG])) ?_
 clear q2 q3 q4
 refine A5 (l.drop 1).length (λ j=>[(3,.ref 8 (Aj n) 0),(10,.sl 4 Cy l),(12,.ptr 6 0),(13,.ptr 9 0),(14,.clo (.func 16) [] [.ptr 9 0,.ptr 5 0]),(58,.sl 4 Cy (l.drop 1)),(59,Aa (l.drop 1).length),(60,Aa j)]) (λ j=>pkO n (goW n from_ l j))
  [(0,800),(1,804),(2,802),(3,803),(5,8),(6,12),(7,805),(9,13)] U ?_
 intro j hj
 obtain ⟨hm0,hol⟩:=Ayd hn hm1 from_ l j
 refine T ?_
 constructor<;>intro h
 ·have hlt:j<(l.drop 1).length:=qA h
  have hj0:((j:Nat):Int).toNat<(l.drop 1).length:=by simpa using hlt
  have hk1:((j+1:Nat):Int).toNat<l.length:=by omega
  have hk0:((j:Nat):Int).toNat<l.length:=by omega
  have hgs:goW n from_ l (j+1)=Se n (linkW n (goW n from_ l j) (l[((j+1:Nat):Int).toNat]'hk1)) (l[((j:Nat):Int).toNat]'hk0).domain:=by rw[goW,Ae hk1,Ae hk0]
  have e1:(l.drop 1)[((j:Nat):Int).toNat]'hj0=l[((j+1:Nat):Int).toNat]'hk1:=by
   rw[wZ]
   congr 1
   omega
  have hxl:=hlk2 _ (zE hk1)
  generalize l[((j+1:Nat):Int).toNat]'hk1=x at *
  generalize goW n from_ l j=s at *
  have hgl:=linkW.eq_1 n s x
  clear h
  refine S ?_
  refine⟨E,by omega,hj0,?_⟩
  rw[e1]
  refine T ?_
  constructor<;>intro h
  ·have hk:x.kind=1:=by simpa using h
   rw[zC hk]at hgl
   obtain ⟨hp1,hl0,hl1⟩:=hxl hk
   have hup:=upW.eq_1 n x
   rw[Ae hp1.2]at hl0 hl1 hup
   have q6:=Avh n hn hm1 s _ _ hm0 q_ q_ q_ q_ ⟨5,0,0,0,[],upW n x⟩ (by show 0<100000;decide)
   obtain ⟨hm2,hol2⟩:=Aij hn hm1 hm0 q_ q_ ⟨5,0,0,0,[],upW n x⟩
   rw[← hgl]at q6 hm2 hol2
   rw[hup]at q6
   clear hgl hup
   generalize linkW n s x=s1 at *
   have q7:=Aa7 n hn hm1 s1 _ _ hm2 q_ q_ q_ q_ (l[((j:Nat):Int).toNat]'hk0).domain
   rw[← hgs]at q7
   clear h
   refine T ?_
   refine X (Bw Γ.toTy (d:=71) (n:=n.links.length) Ac false E E E E E E E E q_ q_ E E E) ?_
   refine⟨by rw[xM];exact hl1,?_⟩
   refine fW ?_
   refine⟨E,(by rw[xM];exact hl1),true,E,E,?_⟩
   refine T ?_
   refine Ai 71 E ?_
   refine X (I0 [(4,40),(8,41)] [] (Cb E E F14) q6 (.cons (.agg vL) (.cons (.refl _) (.cons (.refl _) .nil))) W E V E) ?_
   refine X (Bz [(1,40),(7,41),(4,42),(8,43)] (Cb E E F16) q7 E W E V) ?_
   exact Ax [(1,42),(7,43)] hlt U
  ·have hk:¬ x.kind=1:=by simpa using h
   rw[zA hk]at hgl
   rw[hgl]at hgs
   have q7:=Aa7 n hn hm1 s _ _ hm0 q_ q_ q_ q_ (l[((j:Nat):Int).toNat]'hk0).domain
   rw[← hgs]at q7
   clear h
   refine T ?_
   refine X (Bz [(4,42),(8,43)] (Cb E E F16) q7 E W E V) ?_
   exact Ax [(1,42),(7,43)] hlt U
 ·have hjj:j=(l.drop 1).length:=qB h
  subst hjj
  have hkl:((l.length:Int)-1).toNat<l.length:=by omega
  have hend:Aut n from_ l=Se n (goW n from_ l (l.drop 1).length) (l[((l.length:Int)-1).toNat]'hkl).domain:=by rw[Aut,Ae hkl,hdl]
  have q7:=Aa7 n hn hm1 _ _ _ hm0 q_ q_ q_ q_ (l[((l.length:Int)-1).toNat]'hkl).domain
  rw[← hend]at q7
  clear hend
  generalize Aut n from_ l=s2 at *
  generalize goW n from_ l (l.drop 1).length=s at *
  subst hlk
  clear h
  refine T ?_
  refine X (Bz [(4,42),(8,43)] (Cb E E F16) q7 E W E V) ?_
  refine Ai 43 E ?_
  exact D
end Go.Sy.YtljngfegfclkpaaGreat
namespace Go.Sy.YtljngfegfclkpaaGreat
open Go.Proofs
attribute [local irreducible] Go.Sy.G Go.Sy.DR
set_option maxRecDepth 100000
set_option maxHeartbeats 8000000
def netW37:Net:=⟨[⟨0,0,⟨#[97]⟩,0,0⟩],[⟨0,0,10,1,-1,⟨#[112]⟩,[]⟩,⟨0,0,10,1,-1,⟨#[113]⟩,[]⟩,⟨0,0,20,1,-1,⟨#[114]⟩,[]⟩],[],[⟨0,10,0,-1,0,[]⟩,⟨0,20,0,-1,0,[]⟩],[],[],[],[]⟩
theorem Aic:netW37.Fin:=by
 constructor<;>first | (unfold Ak;decide) | (intro x hx;unfold Ak;simp only[netW37,yB,wO,tI]at hx;first | (subst hx;decide) | (rcases hx with rfl | rfl<;>decide) | (rcases hx with rfl | rfl | rfl<;>decide) | exact hx.elim)
theorem Aw2:netW37.Num:=by
 refine⟨λ x hx=>?_,λ x hx=>?_⟩
 ·simp only[netW37,yB,wO,tI]at hx
  subst hx
  decide
 ·cases hx
theorem X2:Dd netW37:=λ x hx=>by cases hx
def bytesW37:List UInt8:=Jw ⟨281474976710655,J2,34997,[]⟩
theorem Ast:wscriptT netW37 0 1=([⟨1,0,0,0,bytesW37,[]⟩,⟨2,0,0,0,[],[]⟩],0):=by kernel_rfl
theorem Ass:wscriptT netW37 0 2=([],31):=by kernel_rfl
theorem wayW37:wayT netW37 0 1=([⟨0,0,0,0⟩],true):=by kernel_rfl
theorem wayB37:wayBytes netW37 []=([],2):=by kernel_rfl
theorem Ayw:bytesW37.length=14:=by kernel_rfl
theorem Avg:Sp 4 [] (Ac true):=cT F4 Tryz.ntmps4 λ F hF=>by
 have q1:=U9 netW37 Aic Aw2 X2 0 1
 have q2:=U9 netW37 Aic Aw2 X2 0 2
 have q3:=wayS netW37 Aic X2 0 1
 have q4:=Ae3 netW37 Aic X2 [] (by unfold Ak;decide) (λ h hh=>by cases hh)
 have hbl:=Ayw
 rw[Ast]at q1
 rw[Ass]at q2
 rw[wayW37]at q3
 rw[wayB37]at q4
 generalize bytesW37=bs at *
 dsimp only at q1 q2 q3 q4
 refine fW ?_
 refine Ku 11 Aq netW37.devices E E ?_
 refine Ai 11 E ?_
 refine Ai1 15 (netW37.ports.map Aw) E (.cons (.agg vL) (.cons (.agg vL) (.cons (.agg vL) .nil))) E ?_
 refine Ku 15 Aw netW37.ports E E ?_
 refine Ai 15 E ?_
 refine Ai1 18 (netW37.domains.map An) E (.cons (.agg vL) (.cons (.agg vL) .nil)) E ?_
 refine Ku 18 An netW37.domains E E ?_
 refine Ai 18 E ?_
 refine Am 1 (C7 netW37) E vL ?_
 refine G_vw 21 (Aj netW37) (.agg vL) ?_
 refine C q1 F7 ?_
 refine C q2 F7 ?_
 refine C q3 F9 ?_
 refine X (Ao9 [] [] E F10 q4 (.cons (.refl _) (.cons .nil .nil)) Y E Y E) ?_
 refine⟨Nat.zero_lt_two,?_⟩
 refine T ?_
 refine⟨Nat.zero_lt_two,?_⟩
 refine T ?_
 refine⟨Nat.one_lt_two,?_⟩
 refine T ?_
 exact D
end Go.Sy.YtljngfegfclkpaaGreat
