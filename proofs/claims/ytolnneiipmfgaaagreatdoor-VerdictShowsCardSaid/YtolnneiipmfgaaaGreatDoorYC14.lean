/- Parts of a proof. -/
import Derived.Test.YtolnneiipmfgaaaGreatDoorYC12
import Derived.Test.YtolnneiipmfgaaaGreatDoorYC13
set_option linter.all false
set_option linter.unusedVariables false
set_option linter.unusedSimpArgs false
set_option linter.deprecated false
namespace Go.Sy.YtolnneiipmfgaaaGreatDoor
open Go.Proofs Go.Proofs.Tryz
attribute [local irreducible] Go.Sy.G Go.Sy.DR
set_option maxRecDepth 100000
set_option maxHeartbeats 4000000
def Axo(n:Net)(fw:List Bool)(l:List Int):Prop:=∀p∈l,0≤p∧p<n.ports.length∧(nth n.ports p).link<fw.length
def Ato(n:Net)(fw:List Bool)(at_ from_:Int)(ml l:List Int)(hl:Am l)(hp:Axo n fw l):Sp 256 [.ref 12 (Ta n fw at_ from_ ml) 0,.sl 1 Aa l] (.sl 1 Aa (Cz n fw from_ l)):=cT F256 ntmps256 λF hF=>by
 have q:=Aep l (λp=>decide (p=from_)||!(usableB n fw p)) 317 [] [.ref 1 (.ref 12 (Ta n fw at_ from_ ml) 0) 0] rfl rfl (λp h=>⟨⟨_,_,F317⟩,portsC n fw at_ from_ ml p (hp p h).1 (hp p h).2.1 (hp p h).2.2⟩) hl;unfold Am at hl
 conv=>whnf
 refine Ba 2 1 (.ref 12 (Ta n fw at_ from_ ml) 0) E E E ?_;refine oO ?_;refine Ah (Ad [(0,55)] E F111 (Anj l hl) E Y E ⟨.inr E,Y⟩) E E ?_;refine oO ?_;refine Ah (Ad [(0,55),(1,56)] E F319 q E ⟨E,Y⟩ E ⟨.inl E,.inr E,Y⟩) E E ?_;refine oO ?_;refine Aj 56 E ?_;exact dN
def Awp(n:Net)(hn:n.Fin)(fw:List Bool)(dom from_:Int)(ml:List Int)(hd:Ai dom n.domains.length=true):Sp 257 [.ref 12 (Ta n fw dom from_ ml) 0] (.sl 1 Aa (peersOut n dom from_)):=cT F257 ntmps257 λF hF=>by
 have mu:=C0 hd;have rk:0≤dom:=mu.1;have cd:dom.toNat<n.domains.length:=by omega
 have e2:nth n.domains dom=n.domains[dom.toNat]:=Af cd;have fm:=hn.peers _ (zJ cd);have aa:=peersOut.eq_1 n dom from_;generalize peersOut n dom from_=res at *;rw[e2]at aa;obtain ⟨d,dr⟩:∃d,n.domains[dom.toNat]'cd=d:=⟨_,rfl⟩
 rw[dr]at aa fm;have qc:=Ey d.peers fm
 conv=>whnf
 constructor<;>intro h
 ·rw[zE (by simpa using h)]at aa;subst aa;refine oO ?_;refine An 2 1 Aa E ?_;exact dN
 ·rw[zD (by simpa using h)]at aa;subst aa;refine oO ?_;refine⟨E,rk,cd,?_⟩;rw[dr]
  conv=>whnf
  refine cD qc F111 ?_;refine gH ?_;exact dN
def We(n:Net)(fw:List Bool)(dom:Int):Bool:=Ai dom n.domains.length&&decide (fw.length=n.links.length)&&Ac n
def Awj(n:Net)(hn:n.Fin)(fw:List Bool)(dom from_:Int)(h:We n fw dom=false):Sp 255 [Ao n,.sl 1 Ab fw,Aa dom,Aa from_] (.tup [.val (.pointer none),Ab false]):=cT F255 ntmps255 λF hF=>by
 have qr:=A0 n hn
 conv=>whnf
 constructor<;>intro h1
 ·(refine oT ?_;refine bT ?_;refine bT ?_)
  exact dN
 refine oO ?_;constructor<;>intro h2
 ·(refine oT ?_;refine bT ?_)
  exact dN
 refine oO ?_;constructor<;>intro h3
 ·refine oT ?_;exact dN
 refine oO ?_;refine c0 qr F20 ?_;cases hbn:Ac n
 ·refine oT ?_;exact dN
 ·exfalso;have h4:Ai dom n.domains.length=true:=Qg ⟨by simp at h1;omega,by simp at h2;omega⟩;have h5:fw.length=n.links.length:=by simp at h3;omega
  simp[We,h4,h5,hbn]at h
def A2n(n:Net)(hn:n.Fin)(fw:List Bool)(dom from_:Int)(h:We n fw dom=true):Sp 255 [Ao n,.sl 1 Ab fw,Aa dom,Aa from_] (.tup [.ref 12 (Ta n fw dom from_ (A6 n dom)) 0,Ab (decide (from_=-1)||decide (from_=-2)||inB (A6 n dom) from_)]):=cT F255 ntmps255 λF hF=>by
 have qr:=A0 n hn;simp only[We,zG,zK]at h;obtain ⟨⟨hd,fy⟩,hbn⟩:=h;rw[hbn]at qr;have mu:=C0 hd;have qm:=Qv n hn dom;have qc:=Eb (A5 n dom) from_ (Kw n hn dom);have wz:A5 n dom=A6 n dom:=by rw[A5,zE ⟨⟨mu.1,mu.2⟩,hbn⟩]
 rw[wz]at qm qc;generalize A6 n dom=ml at *
 conv=>whnf
 refine⟨λh1=>yB h1 (by simp;omega),λ_=>?_⟩;refine oO ?_;refine⟨λh1=>yB h1 (by simp;omega),λ_=>?_⟩;refine oO ?_;refine⟨λh1=>yB h1 (by simp;omega),λ_=>?_⟩;refine oO ?_;refine c0 qr F20 ?_;refine oF ?_;refine cD qm F75 ?_;refine gH ?_;constructor<;>intro h1
 ·have h2:from_=-1:=by simpa using h1
  refine Ba 41 12 (Ta n fw dom from_ ml) E E E ?_;refine oT ?_;exact As E (.cons .tmp (.cons .tmp .nil)) (zH (λz=>SV.tup [_,Ab z]) (by simp[h2])) E
 have h2:¬from_=-1:=by simpa using h1
 refine Ba 41 12 (Ta n fw dom from_ ml) E E E ?_;refine oO ?_;constructor<;>intro h3
 ·have h4:from_=-2:=by simpa using h3
  refine oO ?_;exact As E (.cons .tmp (.cons .tmp .nil)) (zH (λz=>SV.tup [_,Ab z]) (by simp[h4])) E
 have h4:¬from_=-2:=by simpa using h3
 refine oO ?_;refine c0 qc F74 ?_;refine oO ?_;exact As E (.cons .tmp (.cons .tmp .nil)) (zH (λz=>SV.tup [_,Ab z]) (by simp[h2,h4])) E
def Ama{n:Net}(hb:Ac n=true){p:Int}(h0:0≤p)(hp:p<n.ports.length):(nth n.ports p).link<n.links.length:=by
 have hk:p.toNat<n.ports.length:=by omega
 have e1:nth n.ports p=n.ports[p.toNat]:=Af hk;rw[e1];by_cases hl:0≤n.ports[p.toNat].link
 ·have:=E7 hb hk hl;omega
 ·omega
def Af7{n:Net}{fw:List Bool}(hb:Ac n=true)(hf:fw.length=n.links.length){l:List Int}(h:∀p∈l,0≤p∧p<n.ports.length):Axo n fw l:=λp hp=>
 ⟨(h p hp).1,(h p hp).2,by rw[hf];exact Ama hb (h p hp).1 (h p hp).2⟩
def If{n:Net}{dom:Int}:∀p∈A6 n dom,0≤p∧p<n.ports.length:=λp hp=>by
 rw[A6,Sn]at hp;exact⟨hp.1,hp.2.1⟩
def Qw{n:Net}(hn:n.Fin)(dom:Int):Am (A6 n dom):=by
 have h1:=I6 (Ug n (nth n.domains dom)) n.ports.length;have h2:=hn.ports;unfold Am at *;rw[A6];omega
def U4(n:Net)(fw:List Bool)(dom from_:Int):Ld n fw dom from_=(We n fw dom&&(decide (from_=-1)||decide (from_=-2)||inB (A6 n dom) from_)):=rfl
def floodS(n:Net)(hn:n.Fin)(fw:List Bool)(dom from_:Int):Sp 180 [Ao n,.sl 1 Ab fw,Aa dom,Aa from_] (.tup [.sl 1 Aa (floodT n fw dom from_).1,.sl 1 Aa (floodT n fw dom from_).2.1,Aa (floodT n fw dom from_).2.2]):=cT F180 ntmps180 λF hF=>by
 have aa:=floodT.eq_1 n fw dom from_;generalize floodT n fw dom from_=res at *;rw[U4]at aa;cases cj:We n fw dom
 ·rw[cj,yG,zE rfl]at aa;subst aa;have q:=Awj n hn fw dom from_ cj
  conv=>whnf
  refine c0 q F255 ?_;refine oT ?_;refine An 8 1 Aa E ?_;refine An 9 1 Aa E ?_;exact dN
 rw[cj,yF]at aa;have q:=A2n n hn fw dom from_ cj;have dw:=cj;simp only[We,zG,zK]at dw;obtain ⟨⟨hd,fy⟩,hbn⟩:=dw;have qp:=Ato n fw dom from_ (A6 n dom) (A6 n dom) (Qw hn dom) (Af7 hbn fy If);have qe:=Awp n hn fw dom from_ (A6 n dom) hd;generalize (decide (from_=-1)||decide (from_=-2)||inB (A6 n dom) from_)=ok at *;generalize A6 n dom=ml at *
 conv=>whnf
 refine c0 q F255 ?_;cases ok
 ·rw[zE rfl]at aa;subst aa;refine oT ?_;refine An 8 1 Aa E ?_;refine An 9 1 Aa E ?_;exact dN
 rw[zD j_]at aa;subst aa;refine oF ?_;refine c0 qp F256 ?_;refine oO ?_;refine c0 qe F257 ?_;exact gF
def Aai(l:List Static)(p:Static→Bool)(f:FuncId)(first cap:List SV)(hc:(SV.clo (.func f) first cap).inn []=true)(hf:∀x∈l,Hb prog f (first++[A2 x]++cap) (Ab (p x)))(hl:Am l):Sp 362 [.sl 4 A2 l,.clo (.func f) first cap] (Aa (Br p l)):=cT F362 ntmps362 λF hF=>by
 unfold Am at hl;have ar:∀x:Static,B8 [] (first++[A2 x]++cap)=true:=λx=>C9 hc rfl
 conv=>whnf
 refine Bi l.length (λj=>H8 (λ_ x=>!(p x)) l j) (λj=>[(0,.sl 4 A2 l),(1,.clo (.func f) first cap),(7,Aa l.length),(8,Aa j)]) (λ_=>[]) [] (Bo _ _) ⟨⟨E,E,Bd _,hc,E,E,E,E,Y⟩,Y,E,E⟩ ?_;intro j hj hI;refine oO ?_;constructor<;>intro h
 ·have h:=zO h;have an:j<l.length:=by omega
  refine oO ?_;refine⟨E,by omega,by omega,?_⟩
  conv=>whnf
  refine Eg (hf l[j] (zJ an)) E E E (by simp only[ar];rfl) E E ?_;refine oO ?_;constructor<;>intro h2
  ·refine oO ?_;refine As E (.cons .tmp .nil) (zH Aa ?_) E;exact Co an (λi hi bc=>by simpa using hI i hi bc) h2
  ·refine gE ?_;exact Bc [] hI an (Bl hI an (by simp[h2])) ⟨⟨E,E,Bd _,hc,E,E,E,E,Y⟩,Y,E,E⟩
 ·have h:=zT h;refine oO ?_;refine As E (.cons .tmp .nil) (zH Aa ?_) E;exact Di (λi hi=>by simpa using hI i hi q_)
def entryC(dom:Int)(m:Nat)(s:Static):Sp 363 [A2 s,.ref 1 (Aa dom) 0,.ref 1 (Bj m) 0] (Ab (decide (s.domain=dom)&&decide (s.mac=(m:Int)))):=cT F363 ntmps363 λF hF=>by
 conv=>whnf
 constructor<;>intro h
 ·refine oO ?_;refine As E (.cons .tmp .nil) (zH Ab ?_) E;have h1:s.domain=dom:=by simpa using h
  rw[zL h1,yF,wF];simp
 ·refine oO ?_;refine As E (.cons .tmp .nil) (zH Ab ?_) E;have h1:¬s.domain=dom:=by simpa using h
  rw[zI h1,yG]
def entryI(n:Net)(hn:n.Fin)(dom:Int)(m:Nat):Sp 299 [Ao n,Aa dom,Bj m] (Aa (D8 n dom m)):=cT F299 ntmps299 λF hF=>by
 have q:=Aai n.statics (λs:Static=>decide (s.domain=dom)&&decide (s.mac=(m:Int))) 363 [] [.ref 1 (Aa dom) 0,.ref 1 (Bj m) 0] rfl (λx _=>⟨⟨_,_,F363⟩,entryC dom m x⟩) hn.statics
 conv=>whnf
 refine Ba 4 1 (Aa dom) E E E ?_;refine Ba 5 1 (Bj m) E E E ?_;refine oO ?_;refine c0 q F362 ?_;exact gF
def staticP(n:Net)(dom:Int)(m:Nat):Int:=if 0≤D8 n dom m then (nth n.statics (D8 n dom m)).port else -1
def Avh(n:Net)(hn:n.Fin)(hb:Ac n=true)(dom:Int)(m:Nat):Sp 332 [Ao n,Aa dom,Bj m] (Aa (staticP n dom m)):=cT F332 ntmps332 λF hF=>by
 have q:=entryI n hn dom m;have qr:=A0 n hn;rw[hb]at qr;have ab:D8 n dom m<n.statics.length:=Ij _ _;have aa:=staticP.eq_1 n dom m;generalize staticP n dom m=res at *;generalize D8 n dom m=i at *
 conv=>whnf
 refine c0 q F299 ?_;refine oO ?_;constructor<;>intro h
 ·rw[zD (by simp at h;omega)]at aa;subst aa;refine oT ?_;exact dN
 ·have h0:0≤i:=by simp at h;omega
  have hk:i.toNat<n.statics.length:=by omega
  have e1:nth n.statics i=n.statics[i.toNat]:=Af hk;rw[zE h0,e1]at aa;refine oO ?_;refine c0 qr F20 ?_;refine oF ?_;refine⟨E,h0,hk,?_⟩
  conv=>whnf
  exact As E (.cons .tmp .nil) (zH Aa aa) E
def knownT(n:Net)(fw:List Bool)(t:List EntryM)(dom from_:Int)(m:Nat):List Int×List Int×Bool :=
 if 0≤staticP n dom m then (Cz n fw from_ [staticP n dom m],[],true)
 else if (findE t m).2=false then ([],[],false)
 else if 0≤(findE t m).1∧inB (A6 n dom) (findE t m).1=true then (Cz n fw from_ [(findE t m).1],[],true)
 else if (findE t m).1<0∧inB (nth n.domains dom).peers (-1-(findE t m).1)=true then (if from_=-1 then ([],[],true) else ([],[-1-(findE t m).1],true))
 else ([],[],false)
def Acy{n:Net}(hb:Ac n=true)(dom:Int)(m:Nat)(h:0≤staticP n dom m):staticP n dom m<n.ports.length:=by
 unfold staticP at h⊢;split at h
 ·rename_i h0;rw[zE h0];have ab:D8 n dom m<n.statics.length:=Ij _ _;have hk:(D8 n dom m).toNat<n.statics.length:=by omega
  simp only[Ac,zG]at hb;have:=allB_iff.1 hb.1.1.1.2 _ hk;simp only[Ll,zG,Ai,zK]at this;rw[Af hk];exact this.1.1.2.2
 ·omega
def knownS(n:Net)(hn:n.Fin)(fw:List Bool)(t:List EntryM)(dom from_:Int)(m:Nat)(hl:Am t)(hw:I64 (-1-(findE t m).1))(cj:We n fw dom=true):Sp 264 [.ref 12 (Ta n fw dom from_ (A6 n dom)) 0,.sl 3 Bf t,Bj m] (.tup [.sl 1 Aa (knownT n fw t dom from_ m).1,.sl 1 Aa (knownT n fw t dom from_ m).2.1,Ab (knownT n fw t dom from_ m).2.2]):=cT F264 ntmps264 λF hF=>by
 simp only[We,zG,zK]at cj;obtain ⟨⟨hd,fy⟩,hbn⟩:=cj;have mu:=C0 hd;have rk:0≤dom:=mu.1;have cd:dom.toNat<n.domains.length:=by omega
 have e2:nth n.domains dom=n.domains[dom.toNat]:=Af cd;have fm:=hn.peers _ (zJ cd);have aa:=knownT.eq_1 n fw t dom from_ m;have qs:=Avh n hn hbn dom m;have hsp:=Acy hbn dom m;have qf:=A16 t m hl;have qp:∀p:Int,0≤p→p<n.ports.length→_:=λp h0 h1=>Ato n fw dom from_ (A6 n dom) [p] (by unfold Am;simp) (Af7 hbn fy (l:=[p]) (λx hx=>by rw[yA]at hx;subst hx;exact⟨h0,h1⟩))
 have em:∀p,inB (A6 n dom) p=true→0≤p∧p<n.ports.length:=λp hp=>If p (inB_mem.1 hp)
 have qc:=λx=>Eb (A6 n dom) x (Qw hn dom)
 rw[e2]at aa;obtain ⟨d,dr⟩:∃d,n.domains[dom.toNat]'cd=d:=⟨_,rfl⟩
 rw[dr]at aa fm;have qc2:=λx=>Eb d.peers x fm
 generalize knownT n fw t dom from_ m=res at *;generalize staticP n dom m=sp at *;generalize findE t m=fe at *;obtain ⟨w,ok⟩:=fe;dsimp only at aa hw qf;generalize A6 n dom=ml at *
 conv=>whnf
 refine cD qs F332 ?_;refine gH ?_;constructor<;>intro h1
 ·have h2:0≤sp:=by simpa using h1
  rw[zE h2]at aa;subst aa;refine oO ?_;refine J3 25 Aa [sp] E E ?_;refine Aj 25 E ?_;refine c0 (qp sp h2 (hsp h2)) F256 ?_;refine oO ?_;refine An 7 1 Aa E ?_;exact dN
 have h2:¬0≤sp:=by simp at h1;omega
 rw[zD h2]at aa;refine oO ?_;refine c0 qf F333 ?_;cases ok
 ·rw[zE rfl]at aa;subst aa;refine oT ?_;refine An 6 1 Aa E ?_;refine An 7 1 Aa E ?_;exact dN
 rw[zD j_]at aa;refine oF ?_;constructor<;>intro h3
 ·have h4:0≤w:=by simpa using h3
  refine oO ?_;refine c0 (qc w) F74 ?_;cases ar:inB ml w
  ·rw[zD (by simp[ar]),zD q_]at aa;subst aa;refine oF ?_;refine⟨λh5=>yB h5 (by simp;omega),λ_=>?_⟩;refine oD ?_;refine⟨z_,?_⟩
   ((conv=>whnf);refine aF ?_;refine rg ?_;conv=>whnf)
   refine An 6 1 Aa E ?_;refine An 7 1 Aa E ?_;exact dN
  ·rw[zE ⟨h4,ar⟩]at aa;subst aa;refine oT ?_;refine J3 49 Aa [w] E E ?_;refine Aj 49 E ?_;refine c0 (qp w h4 (em w ar).2) F256 ?_;refine oO ?_;refine An 7 1 Aa E ?_;exact dN
 have h4:¬0≤w:=by simp at h3;omega
 rw[zD q_]at aa;refine oF ?_;refine⟨λh5=>?_,λh5=>yB h5 (by simp;omega)⟩;refine oD ?_;refine⟨E,rk,cd,?_⟩;rw[dr]
 conv=>whnf
 refine⟨hw,?_⟩
 conv=>whnf
 refine cD (qc2 (-1-w)) F74 ?_;cases ar:inB d.peers (-1-w)
 ·rw[zD (by simp[ar])]at aa;subst aa;refine oD ?_;refine⟨z_,?_⟩
  ((conv=>whnf);refine aF ?_;refine rg ?_;conv=>whnf)
  refine An 6 1 Aa E ?_;refine An 7 1 Aa E ?_;exact dN
 rw[zE ⟨by omega,ar⟩]at aa;refine oD ?_;refine⟨z_,?_⟩
 ((conv=>whnf);refine aT ?_;refine rg ?_;conv=>whnf)
 constructor<;>intro h6
 ·rw[zE (by simpa using h6)]at aa;subst aa;refine oO ?_;refine An 6 1 Aa E ?_;refine An 7 1 Aa E ?_;exact dN
 ·rw[zD (by simpa using h6)]at aa;subst aa;refine oO ?_;refine⟨hw,?_⟩
  conv=>whnf
  refine An 6 1 Aa E ?_;refine J3 78 Aa [-1-w] E E ?_;refine Aj 78 E ?_;exact dN
def Zn{n:Net}(hb:Ac n=true)(dom:Int)(m:Nat):(0≤staticP n dom m↔0≤D8 n dom m)∧(0≤D8 n dom m→staticP n dom m=(nth n.statics (D8 n dom m)).port):=by
 refine⟨⟨λh=>?_,λh=>?_⟩,λh=>by rw[staticP,zE h]⟩
 ·unfold staticP at h;split at h
  ·assumption
  ·omega
 ·rw[staticP,zE h];have ab:D8 n dom m<n.statics.length:=Ij _ _;have hk:(D8 n dom m).toNat<n.statics.length:=by omega
  simp only[Ac,zG]at hb;have:=allB_iff.1 hb.1.1.1.2 _ hk;simp only[Ll,zG,Ai,zK]at this;rw[Af hk];exact this.1.1.2.1
def A7p{n:Net}{fw:List Bool}{t:List EntryM}{dom from_:Int}{m:Nat}(hb:Ac n=true)(hr:Ld n fw dom from_=true)(hg:Dx m=false):Dt n fw t dom from_ m=if (knownT n fw t dom from_ m).2.2=true then ((knownT n fw t dom from_ m).1,(knownT n fw t dom from_ m).2.1,0) else (Cz n fw from_ (A6 n dom),peersOut n dom from_,0):=by
 obtain ⟨h1,h2⟩:=Zn hb dom m;rw[Dt,zD (by rw[hr];decide),zD (by rw[hg];decide)];unfold knownT;by_cases hs:0≤D8 n dom m
 ·rw[zE hs,zE (h1.2 hs),h2 hs];rfl
 rw[zD hs,zD (λh=>hs (h1.1 h))];generalize findE t m=fe;obtain ⟨w,ok⟩:=fe;cases ok
 ·simp
 simp only[Bool.true_eq_false,if_false,true_and];by_cases ha:0≤w∧inB (A6 n dom) w=true
 ·rw[zE ha,zE ha];rfl
 rw[zD ha,zD ha];by_cases hc:w<0∧inB (nth n.domains dom).peers (-1-w)=true
 ·rw[zE hc,zE hc];split<;>rfl
 ·rw[zD hc,zD hc];rfl
def A7q(n:Net)(hn:n.Fin)(fw:List Bool)(t:List EntryM)(dom from_:Int)(m:Nat)(hl:Am t)(hw:I64 (-1-(findE t m).1))(u9:m<18446744073709551616):Sp 186 [Ao n,.sl 1 Ab fw,.sl 3 Bf t,Aa dom,Aa from_,Bj m] (.tup [.sl 1 Aa (Dt n fw t dom from_ m).1,.sl 1 Aa (Dt n fw t dom from_ m).2.1,Aa (Dt n fw t dom from_ m).2.2]):=cT F186 ntmps186 λF hF=>by
 cases cj:We n fw dom
 ·have aa:Dt n fw t dom from_ m=([],[],2):=by
   rw[Dt,zE (by rw[U4,cj];rfl)]
  rw[aa];have q:=Awj n hn fw dom from_ cj;refine fW ?_;refine c0 q F255 ?_;refine fU ?_;refine An 12 1 Aa E ?_;refine An 13 1 Aa E ?_;exact dN
 have q:=A2n n hn fw dom from_ cj;have qk:=knownS n hn fw t dom from_ m hl hw cj;have qg:=On m u9;have dw:=cj;simp only[We,zG,zK]at dw;obtain ⟨⟨hd,fy⟩,hbn⟩:=dw;have qp:=Ato n fw dom from_ (A6 n dom) (A6 n dom) (Qw hn dom) (Af7 hbn fy If);have qe:=Awp n hn fw dom from_ (A6 n dom) hd;have bd:=U4 n fw dom from_;rw[cj,yF]at bd;have d9:Ld n fw dom from_=false→Dt n fw t dom from_ m=([],[],2):=λh=>by rw[Dt,zE h]
 have hgrp:Ld n fw dom from_=true→Dx m=true→Dt n fw t dom from_ m=(Cz n fw from_ (A6 n dom),peersOut n dom from_,0):=λh h2=>by
  rw[Dt,zD (by rw[h];decide),zE h2]
 have jw:=λh h2=>@A7p n fw t dom from_ m hbn h h2
 generalize Dt n fw t dom from_ m=res at *;generalize knownT n fw t dom from_ m=kn at *;obtain ⟨kp,ke,ko⟩:=kn;generalize Ld n fw dom from_=rm at *;generalize (decide (from_=-1)||decide (from_=-2)||inB (A6 n dom) from_)=ok at *;subst bd;generalize A6 n dom=ml at *;dsimp only at jw qk;refine fW ?_;refine c0 q F255 ?_;cases rm
 ·rw[d9 rfl];refine fU ?_;refine An 12 1 Aa E ?_;refine An 13 1 Aa E ?_;exact dN
 refine fU ?_;refine c0 qg F177 ?_;cases hg:Dx m
 ·have jw:=jw rfl hg;refine fU ?_;refine c0 qk F264 ?_;cases ko
  ·rw[zD j_]at jw;subst jw;refine fU ?_;refine c0 qp F256 ?_;refine fU ?_;refine c0 qe F257 ?_;exact gC
  ·rw[zE rfl]at jw;subst jw;exact gC
 ·rw[hgrp rfl hg];refine fU ?_;refine c0 qp F256 ?_;refine fU ?_;refine c0 qe F257 ?_;exact gC
def A0l{t:List EntryM}{m:Nat}(hr:tableB t=true)(h:(findE t m).2=true):∃(i:Nat) (_hi:i<t.length),Dw t m=i∧∀j (hj:j<t.length),t[j].mac=m↔j=i:=by
 rcases Ov (λe=>decide (EntryM.mac e=m)) t with ⟨h1,h2⟩|⟨i,hi,h1,h2,h3⟩
 ·have h4:Dw t m=-1:=h1;rw[findE,h4,zE j_]at h;cases h
 ·have him:t[i].mac=m:=zO h2;refine⟨i,hi,h1,λj hj=>⟨λan=>?_,λe=>by subst e;exact him⟩⟩;simp only[tableB,zG]at hr;have he:=allB_iff.1 hr.2 j hj;simp only[Tz,zG,zK]at he;have:=he.2;rw[an]at this;have h4:Dw t m=i:=h1;omega
def Anm(t:List EntryM)(q:QueuedM)(now:Int)(ht:TabOK t)(hq:QueuedOK q):Sp 182 [.sl 3 Bf t,Ca q,Aa now] (.sl 3 Bf (learnQ t q now)):=cT F182 ntmps182 λF hF=>by
 have aa:=learnQ.eq_1 t q now;generalize learnQ t q now=res at *;have hl:=ht.short;have js:=hl;unfold Am at js;have hs:=hq.frame.src;have h1:=hq.peer
 conv=>whnf
 constructor<;>intro h
 ·rw[zE (by simpa using h)]at aa;subst aa;refine oO ?_;refine Ah (Ad [(0,55)] E F193 (Wb res js) E Y E ⟨.inr E,Y⟩) E E ?_;refine Aj 55 E ?_;exact gF
 rw[zD (by simpa using h)]at aa;clear h;refine oO ?_;constructor<;>intro h
 ·rw[zE (by simpa using h)]at aa;subst aa;refine gE ?_;refine c0 (Ajl t q.frame.src (-1-q.peer) now hl ht.mac q_) F260 ?_;exact gF
 rw[zD (by simpa using h)]at aa;subst aa;refine oO ?_;refine c0 (Ajl t q.frame.src q.from_ now hl ht.mac q_) F260 ?_;exact gF
def Azc(k p d:Int):OutM:=⟨k,p,d,[],noF,0⟩
def A65(k p d:Int)(b:List UInt8)(e:Int):Vo (Azc k p d) (b,e)=if e≠0 then ⟨5,p,d,[],noF,e⟩ else ⟨k,p,d,b,noF,0⟩:=rfl
def Za(l:List OutM)(k p d:Int)(b:List UInt8)(e:Int)(hl:l.length<100000000000):Sq 185 [H3 (Azc k p d),.sl 1 Ak b,Aa e,.ptr 0 0] [(0,.box [.osl 1]),(1,.row 9 H3 l)] (.tup []) [(0,.box [.osl 2]),(1,.non),(2,.row 9 H3 (l++[Vo (Azc k p d) (b,e)]))]:=cT F185 ntmps185 λF hF=>by
 have aa:=A65 k p d b e;generalize Vo (Azc k p d) (b,e)=res at *
 conv=>whnf
 constructor<;>intro h
 ·rw[zE (by simpa using h)]at aa;refine oO ?_;refine A5x 17 [H3 ⟨5,p,d,[],noF,e⟩] E (.cons (.agg vL) .nil) E ?_;refine Ah (Ag Γ.toTy 18 E E E E E (.row E) (.lit (e:=H3) (l:=[res]) E (by rw[aa];rfl)) j_ (by simp;omega) (by simp;omega)) E E ?_;refine oO ?_;exact A4 E .nil [(2,18)] [(0,.box [.osl 2]),(1,.non),(2,.row 9 H3 (l++[res]))] (λ_ h=>h) E E uU
 ·rw[zD (by simpa using h)]at aa;refine oO ?_;refine Ah (Ag Γ.toTy 18 E E E E E (.row E) (.lit (e:=H3) (l:=[res]) E (by rw[aa];rfl)) j_ (by simp;omega) (by simp;omega)) E E ?_;refine oO ?_;exact A4 E .nil [(2,18)] [(0,.box [.osl 2]),(1,.non),(2,.row 9 H3 (l++[res]))] (λ_ h=>h) E E uU
def A7i{t:List EntryM}(ht:TabOK t)(m:Nat):I64 (findE t m).1:=by
 unfold findE;split
 ·unfold I64;dsimp only;omega
 ·rename_i h;have ab:Dw t m<t.length:=Ij _ _;have hk:(Dw t m).toNat<t.length:=by omega
  dsimp only;rw[zU hk];exact ht.wh _ (zJ hk)
def Mv{n:Net}{fw:List Bool}{fr:Int}{l:List Int}{p:Int}(h:p∈Cz n fw fr l):p∈l:=(uO.1 h).1
def Ang{n:Net}(hb:Ac n=true)(fw:List Bool)(t:List EntryM)(dom fr:Int)(m:Nat):∀p∈(Dt n fw t dom fr m).1,0≤p∧p<n.ports.length:=by
 intro p hp;unfold Dt at hp;split at hp
 ·cases hp
 split at hp
 ·exact If p (Mv hp)
 split at hp
 ·rename_i h1;obtain ⟨hs1,m5⟩:=Zn hb dom m;have h2:=hs1.2 h1;have h3:=Acy hb dom m h2;have h4:=yA.1 (Mv hp);rw[h4,←m5 h1];exact⟨h2,h3⟩
 split at hp
 ·rename_i h1;rw[yA.1 (Mv hp)];exact If _ (inB_mem.1 h1.2.2)
 split at hp
 ·cases hp
 ·exact If p (Mv hp)
def Al9(n:Net)(fw:List Bool)(fr:Int)(l:List Int):(Cz n fw fr l).length≤l.length:=tU _ _
def Amc{n:Net}(hn:n.Fin)(dom fr:Int)(hd:Ai dom n.domains.length=true):(peersOut n dom fr).length<2147483648:=by
 unfold peersOut;split
 ·decide
 ·have h:=Oi hd;rw[Af h.2];exact hn.peers _ (zJ h.2)
def Ahu{n:Net}(hn:n.Fin)(fw:List Bool)(t:List EntryM)(dom fr:Int)(m:Nat):(Dt n fw t dom fr m).1.length<2147483648∧(Dt n fw t dom fr m).2.1.length<2147483648:=by
 have h1:=App n dom;have h2:=hn.ports;unfold Am at h2;have h3:=λl=>Al9 n fw fr l
 unfold Dt;split
 ·decide
 rename_i h;have hd:Ai dom n.domains.length=true:=by
  cases hx:Ai dom n.domains.length
  ·exact yB (by rw[Ld,hx];rfl) h
  ·rfl
 have h4:=Amc hn dom fr hd;split
 ·have:=h3 (A6 n dom);exact⟨by dsimp only;omega,h4⟩
 split
 ·have:=h3 [(nth n.statics (D8 n dom m)).port];simp only[yM,xF]at this;exact⟨by dsimp only;omega,by show (0:Nat)<2147483648;decide⟩
 split
 ·have:=h3 [(findE t m).1];simp only[yM,xF]at this;exact⟨by dsimp only;omega,by show (0:Nat)<2147483648;decide⟩
 split
 ·refine⟨by show (0:Nat)<2147483648;decide,?_⟩;dsimp only;split<;>simp
 ·have:=h3 (A6 n dom);exact⟨by dsimp only;omega,h4⟩
def Are(n:Net)(hn:n.Fin)(ay:n.Num)(fw:List Bool)(t:List EntryM)(dom:Int)(q:QueuedM)(now:Int)(ht:TabOK t)(hq:QueuedOK q):Sp 115 [Ao n,.sl 1 Ab fw,.sl 3 Bf t,Aa dom,Ca q,Aa now] (.tup [.sl 3 Bf (bridgeT n fw t dom q now).1,.sl 9 H3 (bridgeT n fw t dom q now).2.1,Aa (bridgeT n fw t dom q now).2.2]):=cT F115 ntmps115 λF hF=>by
 have aa:=bridgeT.eq_1 n fw t dom q now;generalize bridgeT n fw t dom q now=res at *;have qf:=floodS n hn fw dom q.from_;have qr:=Abv t ht.short ht.mac
 conv=>whnf
 refine Ba 6 8 (Ao n) E E E ?_;refine Ba 10 7 (Ca q) E E E ?_;refine oO ?_;cases bd:Ld n fw dom q.from_
 ·rw[zE (.inl bd)]at aa;subst aa;rw[floodT,zE bd]at qf;refine c0 qf F180 ?_
  (refine oT ?_;refine bT ?_)
  refine Al 13 [.sl 9 H3 []] E (.cons .nil .nil) ?_;refine An 12 3 Bf E ?_;exact dN
 rw[floodT,zD (by rw[bd];decide)]at qf;refine c0 qf F180 ?_;refine oF ?_;refine c0 qr F181 ?_;cases jz:tableB t
 ·rw[zE (.inr jz)]at aa;subst aa;refine oT ?_;refine Al 13 [.sl 9 H3 []] E (.cons .nil .nil) ?_;refine An 12 3 Bf E ?_;exact dN
 rw[zD (by simp[bd,jz])]at aa;have ql:=Anm t q now ht hq;have hu:=Ww ht hq now;generalize learnQ t q now=u at *;have qro:=An0 n hn ay dom q.frame.dst;generalize routerT n dom q.frame.dst=ro at *;obtain ⟨irb,ok⟩:=ro;dsimp only at aa qro;have hbn:Ac n=true:=by
  simp only[Ld,zG]at bd;exact bd.1.2
 refine oF ?_;refine c0 ql F182 ?_;refine oO ?_;refine c0 qro F183 ?_;cases ok;rotate_left
 ·rw[zE rfl]at aa;have qh:=Ayt n hn ay irb q.frame hq.frame;generalize hopT n irb q.frame=hp at *;obtain ⟨to,g,e⟩:=hp;dsimp only at aa qh;refine oT ?_;refine c0 qh F184 ?_;refine oO ?_;constructor<;>intro h
  ·rw[zE (by simpa using h)]at aa;subst aa;refine oO ?_;refine Al 13 [.sl 9 H3 []] E (.cons .nil .nil) ?_;exact dN
  ·rw[zD (by simpa using h)]at aa;subst aa;refine oO ?_;refine kW ?_;refine A5x 84 [H3 ⟨4,0,to,[],g,0⟩] E (.cons (.agg vL) .nil) E ?_;refine J3 84 H3 [⟨4,0,to,[],g,0⟩] E E ?_;refine Aj 84 E ?_;exact dN
 rw[zD j_]at aa;have hs:=hq.frame.src;have iv:=hq.frame.dst;have fy:=A7i hu q.frame.dst;have qd:=A7q n hn fw u dom q.from_ q.frame.dst hu.short (by unfold I64 at *;omega) q_;have pv:=Ang hbn fw u dom q.from_ q.frame.dst;have ns:=Ahu hn fw u dom q.from_ q.frame.dst;generalize Dt n fw u dom q.from_ q.frame.dst=dc at *;obtain ⟨ports,peers,e0⟩:=dc;dsimp only at aa qd pv ns;obtain ⟨w4,pw⟩:=ns;refine oF ?_;refine c0 qd F186 ?_;refine oO ?_;refine Sz 13 0 1000 9 H3 E E E E ?_;refine A8 ports.length (λj=>[(3,Aa dom),(6,.ref 8 (Ao n) 0),(10,.ref 7 (Ca q) 0),(12,.sl 3 Bf u),(13,.ptr 13 0),(23,.clo (.func 185) [] [.ptr 13 0]),(25,.sl 1 Aa peers),(100,.sl 1 Aa ports),(101,Aa ports.length),(102,Aa j)])
  (λj=>[(13,.box [.osl 1000]),(1000,.row 9 H3 ((ports.take j).map (Uo n dom q.frame)))]) [(13,13),(1000,1000)] uU ?_
 intro j hj;refine oO ?_;constructor<;>intro h
 ·have ab:j<ports.length:=qA h;have ai:(j:Int).toNat<ports.length:=by simpa using ab
  obtain ⟨p,hp⟩:∃p,ports[j]=p:=⟨_,rfl⟩
  have e1:ports[(j:Int).toNat]'ai=p:=hp;have hs:(ports.take (j+1)).map (Uo n dom q.frame)=(ports.take j).map (Uo n dom q.frame)++[Uo n dom q.frame p]:=by
   rw[yC ab,wZ,hp];rfl
  have kh:((ports.take j).map (Uo n dom q.frame)).length=j:=by rw[xA,zY];omega
  have j4:=pv p (by rw[←hp];exact zJ ab);have x6:p.toNat<n.ports.length:=by omega
  have ql:=A39 n hn p dom q.frame hq.frame;have hop:Uo n dom q.frame p=Vo (Azc (if (nth n.ports p).link<0 then 1 else 2) p 0) ((leaveT n p dom q.frame).1,(leaveT n p dom q.frame).2):=rfl;rw[hop,Af x6]at hs;clear hop;obtain ⟨acc,ic⟩:∃acc,(ports.take j).map (Uo n dom q.frame)=acc:=⟨_,rfl⟩
  rw[ic]at hs kh⊢;obtain ⟨x,hx⟩:∃x,n.ports[p.toNat]'x6=x:=⟨_,rfl⟩
  rw[hx]at hs;clear h;refine oO ?_;refine⟨E,by omega,ai,?_⟩;rw[e1]
  conv=>whnf
  refine⟨E,j4.1,x6,?_⟩;rw[hx]
  conv=>whnf
  constructor<;>intro h
  ·rw[zD (qA h)]at hs;refine oO ?_;refine c0 ql F187 ?_;refine oO ?_;refine Ah (L3 [(0,13),(1,1000),(2,1001)] [] (Av E E F185) (Za acc 2 p 0 (leaveT n p dom q.frame).1 (leaveT n p dom q.frame).2 q_) (.cons (.agg vL) vL) ⟨E,E,Y⟩ E ⟨.inl E,.inl E,.inr E,Y⟩ E) E E ?_;refine gE ?_;exact Az [(13,13),(1000,1001)] ab ⟨⟨E,E,E,E,E,E,E,E,E,E,E,E,E,E,E,E,E,E,E,E,Y⟩,⟨.inl E,E,.inl (zH (Ob.row 9 H3) hs),E,Y⟩,E,E⟩
  ·rw[zE (qB h)]at hs;refine oO ?_;refine c0 ql F187 ?_;refine oO ?_;refine Ah (L3 [(0,13),(1,1000),(2,1001)] [] (Av E E F185) (Za acc 1 p 0 (leaveT n p dom q.frame).1 (leaveT n p dom q.frame).2 q_) (.cons (.agg vL) vL) ⟨E,E,Y⟩ E ⟨.inl E,.inl E,.inr E,Y⟩ E) E E ?_;refine gE ?_;exact Az [(13,13),(1000,1001)] ab ⟨⟨E,E,E,E,E,E,E,E,E,E,E,E,E,E,E,E,E,E,E,E,Y⟩,⟨.inl E,E,.inl (zH (Ob.row 9 H3) hs),E,Y⟩,E,E⟩
 have jc:j=ports.length:=qB h;subst jc;clear h;rw[yN];obtain ⟨ki,t6⟩:∃ki,ports.map (Uo n dom q.frame)=ki:=⟨_,rfl⟩
 have hal0:ki.length=ports.length:=by rw[←t6,xA]
 rw[t6]at aa⊢;refine oO ?_;refine A8 peers.length (λj=>[(3,Aa dom),(6,.ref 8 (Ao n) 0),(10,.ref 7 (Ca q) 0),(12,.sl 3 Bf u),(13,.ptr 13 0),(23,.clo (.func 185) [] [.ptr 13 0]),(130,.sl 1 Aa peers),(131,Aa peers.length),(132,Aa j)])
  (λj=>[(13,.box [.osl 1000]),(1000,.row 9 H3 (ki++(peers.take j).map (Xg n dom q.frame)))]) [(13,13),(1000,1000)] ⟨⟨rfl,rfl,rfl,rfl,rfl,rfl,rfl,rfl,rfl,rfl,rfl,rfl,rfl,rfl,rfl,rfl,rfl,rfl,trivial⟩,⟨.inl rfl,rfl,.inl (zH (Ob.row 9 H3) y_),rfl,trivial⟩,rfl,rfl⟩ ?_
 intro j hj;refine oO ?_;constructor<;>intro h
 ·have ab:j<peers.length:=qA h;have ai:(j:Int).toNat<peers.length:=by simpa using ab
  obtain ⟨p,hp⟩:∃p,peers[j]=p:=⟨_,rfl⟩
  have e1:peers[(j:Int).toNat]'ai=p:=hp;have hs:ki++(peers.take (j+1)).map (Xg n dom q.frame)=(ki++(peers.take j).map (Xg n dom q.frame))++[Xg n dom q.frame p]:=by
   rw[yC ab,wZ,hp,xD];rfl
  have kh:(ki++(peers.take j).map (Xg n dom q.frame)).length≤ports.length+j:=by rw[zQ,xA,zY];omega
  have ql:=Auf n hn ay dom p q.frame hq.frame;have hop:Xg n dom q.frame p=Vo (Azc 3 0 p) ((meshT n dom p q.frame).1,(meshT n dom p q.frame).2):=rfl;rw[hop]at hs;clear hop;obtain ⟨acc,ic⟩:∃acc,ki++(peers.take j).map (Xg n dom q.frame)=acc:=⟨_,rfl⟩
  rw[ic]at hs kh⊢;clear h;refine oO ?_;refine⟨E,by omega,ai,?_⟩;rw[e1]
  conv=>whnf
  refine c0 ql F188 ?_;refine oO ?_;refine Ah (L3 [(0,13),(1,1000),(2,1001)] [] (Av E E F185) (Za acc 3 0 p (meshT n dom p q.frame).1 (meshT n dom p q.frame).2 q_) (.cons (.agg vL) vL) ⟨E,E,Y⟩ E ⟨.inl E,.inl E,.inr E,Y⟩ E) E E ?_;refine gE ?_;exact Az [(13,13),(1000,1001)] ab ⟨⟨E,E,E,E,E,E,E,E,E,E,E,E,E,E,E,E,E,E,Y⟩,⟨.inl E,E,.inl (zH (Ob.row 9 H3) hs),E,Y⟩,E,E⟩
 have jc:j=peers.length:=qB h;subst jc;clear h;rw[yN];subst aa;refine oO ?_;refine kW ?_;refine Aj 1000 E ?_;exact dN
def Tf{l:List QueuedM}(h:Jv l):l.length<1000000∧Wm l:=⟨by have:=h.1;omega,λq hq=>by have:=(h.2 q hq).frame.body;omega⟩
def Aey{α:Type}{l:List α}{i:Nat}(h:i<l.length)(d:α):(l[i]?).getD d=l[i]:=by
 rw[zU h];rfl
def placeB_iff{d:Int}{k:Nat}:Ai d k=true↔0≤d∧d.toNat<k:=by
 simp only[Ai,zG,zK];omega
def Ayj(n:Net)(m:MacM)(d:Bool)(dom:Int)(hl:Jv (queueL m dom)):Sq 31 [.ptr 0 0,Aa dom] (En n m d) (.sl 7 Ca (if Ai dom m.queues.length then queueL m dom else [])) (En n m d):=cT F31 ntmps31 λF hF=>by
 have h1:=Awc n m d dom;have a7:=placeB_iff (d:=dom) (k:=m.queues.length);generalize Ai dom m.queues.length=b at *;have hb:=Tf hl;have h2:=Af5 _ (-1) hb.1 hb.2;have h3:takeT (queueL m dom) (-1)=(noQ,queueL m dom,false):=by rw[takeT];exact zE (.inl j_)
 rw[h3]at h2;clear h3 hb hl;have aa:=queueL.eq_1 m dom;generalize queueL m dom=res at *
 conv=>whnf
 refine Ah (Ad [] E F78 h1 E ⟨E,E,E,E,Y⟩ E ⟨.inl E,.inl E,.inl E,.inl E,Y⟩) E E ?_;refine oO ?_;cases b
 ·(refine⟨λ_=>?_,λh=>False.elim (yB h j_)⟩;refine rg ?_;conv=>whnf)
  refine An 4 7 Ca E ?_;exact done E (.cons .tmp .nil) [] (En n m d) (λ_ h=>h) E E uU
 have hd:=a7.1 rfl;have ab:dom.toNat<m.queues.length:=hd.2;rw[Aey ab]at aa;subst aa
 (refine⟨λh=>False.elim (yB h j_),λ_=>?_⟩;refine rg ?_;conv=>whnf)
 refine⟨hd.1,by omega,?_⟩
 conv=>whnf
 refine⟨E,ab,?_⟩
 conv=>whnf
 refine c0 h2 F79 ?_;refine oO ?_;exact done E (.cons .tmp .nil) [] (En n m d) (λ_ h=>h) E E uU
def Xa(m:MacM):Prop:=∀i,0≤m.drops i∧m.drops i≤1000000000000
def Zq(n:Net)(m:MacM)(d:Bool)(dom:Int)(q:QueuedM)(e:Int)(he:0≤e∧e<64)(hd:e=0→0≤dom∧dom.toNat<m.queues.length)(hb:Xa m)(hl:Jv (queueL m dom))(hq:QueuedOK q):Sq 114 [.ptr 0 0,Aa dom,Ca q,Aa e] (En n m d) (.tup []) (En n (comeM m dom q e) d):=cT F114 ntmps114 λF hF=>by
 have li:=Tf hl;have hp:=Ao1 _ q li.1 li.2 (by have:=hq.frame.body;omega);have h1:=Aq3 n m d e he.1 he.2 (hb _);have h3:=Aq3 n m d 3 j_ j_ (hb _);have aa:=comeM.eq_1 m dom q e;generalize comeM m dom q e=res at *
 conv=>whnf
 constructor<;>intro h
 ·rw[zE (by simpa using h)]at aa;subst aa;refine oO ?_;refine Ah (Ad [] E F117 h1 E ⟨E,E,E,E,Y⟩ E ⟨.inl E,.inl E,.inl E,.inl E,Y⟩) E E ?_;refine oO ?_;exact done E .nil [] (En n (Dd m e) d) (λ_ h=>h) E E uU
 have h0:e=0:=by simpa using h
 have hd:=hd h0;rw[zD (by rw[h0];decide)]at aa;clear h li h1 hl he;have t7:=queueL.eq_1 m dom;rw[Aey hd.2]at t7;generalize queueL m dom=l at *;generalize pushT l q=r at *;obtain ⟨l2,ok⟩:=r;subst t7;refine oO ?_;refine⟨hd.1,hd.2,?_⟩
 conv=>whnf
 refine⟨E,hd.2,?_⟩
 conv=>whnf
 refine cD hp F179 ?_;refine gH ?_;cases ok
 ·rw[zD y_]at aa;subst aa
  (refine⟨λ_=>?_,λh=>False.elim (by simp at h)⟩;refine rg ?_;conv=>whnf)
  refine Ah (Ad [] E F117 h3 E ⟨E,E,E,E,Y⟩ E ⟨.inl E,.inl E,.inl E,.inl E,Y⟩) E E ?_;refine oO ?_;exact done E .nil [] (En n (Dd m 3) d) (λ_ h=>h) E E uU
 ·rw[zE rfl]at aa;subst aa
  (refine⟨λh=>False.elim (by simp at h),λ_=>?_⟩;refine rg ?_;conv=>whnf)
  refine⟨hd.1,hd.2,?_⟩
  conv=>whnf
  refine⟨E,hd.2,l2,E,E,?_⟩
  conv=>whnf
  exact A4 E .nil [] (En n (Q4 m dom l2) d) (λ_ h=>h) E E uU
def Aol(n:Net)(m:MacM)(d:Bool)(dom at_:Int)(hl:Jv (queueL m dom)):Sq 41 [.ptr 0 0,Aa dom,Aa at_] (En n m d) (.tup [Ca (takeM m dom at_).2.1,Ab (takeM m dom at_).2.2]) (En n (takeM m dom at_).1 d):=cT F41 ntmps41 λF hF=>by
 have li:=Tf hl;have hp:=Af5 _ at_ li.1 li.2;have h1:=Awc n m d dom;have a7:=placeB_iff (d:=dom) (k:=m.queues.length);have aa:=takeM.eq_1 m dom at_;generalize takeM m dom at_=res at *;generalize Ai dom m.queues.length=b at *;have t7:=queueL.eq_1 m dom;clear hl li;generalize queueL m dom=l at *;generalize takeT l at_=r at *;obtain ⟨q,l2,ok⟩:=r
 conv=>whnf
 refine Ah (Ad [] E F78 h1 E ⟨E,E,E,E,Y⟩ E ⟨.inl E,.inl E,.inl E,.inl E,Y⟩) E E ?_;refine oO ?_;cases b
 ·rw[zE rfl]at aa;subst aa
  (refine⟨λ_=>?_,λh=>False.elim (yB h j_)⟩;refine rg ?_;conv=>whnf)
  refine Al 6 [Aa 0,Aa 0,Aa 0,Bj 0,Bj 0,Aa 0,.sl 1 Ak []] E vL ?_;exact done E (.cons (.cell E E E E) (.cons .tmp .nil)) [] (En n m d) (λ_ h=>h) E E uU
 have hd:=a7.1 rfl;rw[Aey hd.2]at t7;subst t7;rw[zD y_]at aa;subst aa
 (refine⟨λh=>False.elim (yB h j_),λ_=>?_⟩;refine rg ?_;conv=>whnf)
 refine⟨hd.1,hd.2,?_⟩
 conv=>whnf
 refine⟨E,hd.2,?_⟩
 conv=>whnf
 refine c0 hp F79 ?_;refine oO ?_;refine⟨hd.1,hd.2,?_⟩
 conv=>whnf
 refine⟨E,hd.2,l2,E,E,?_⟩
 conv=>whnf
 exact done E (.cons (.cell E E E E) (.cons .tmp .nil)) [] (En n (Q4 m dom l2) d) (λ_ h=>h) E E uU
def As2(n:Net)(hn:n.Fin)(m:MacM)(d:Bool)(J D:Int)(ay:MacOK n m J D)(hJ:J<1000000000000)(hD:D≤1000000000000)(port:Int)(b:List UInt8)(hb:b.length<100000):Sq 39 [.ptr 0 0,Aa port,.sl 1 Ak b] (En n m d) (.tup []) (En n (injectT n m port b) d):=cT F39 ntmps39 λF hF=>by
 have aa:=injectT.eq_1 n m port b;generalize injectT n m port b=res at *;have a7:=placeB_iff (d:=port) (k:=n.ports.length);have ie:=ay.inj;have ax:MacOK n ⟨m.up,m.tables,m.queues,m.now,m.injected+1,m.drops⟩ (J+1) D:=⟨ay.up,ay.tabs,ay.ques,ay.tab,ay.que,ay.now,⟨by dsimp only;omega,by dsimp only;omega⟩,ay.drp⟩
 have ep:Xa ⟨m.up,m.tables,m.queues,m.now,m.injected+1,m.drops⟩:=λi=>⟨(ay.drp i).1,by have:=(ay.drp i).2;dsimp only at *;omega⟩
 have he:=Ahl n port b;have gb:=Ahm (n:=n) (port:=port) (b:=b);have q1:=Aqz n hn port b hb;have hfr:=Acm n port b;generalize enterT n port b=r at *;have q2:=λ (hp:0≤port∧port.toNat<n.ports.length)=>Zq n ⟨m.up,m.tables,m.queues,m.now,m.injected+1,m.drops⟩ d r.1 ⟨port,0,m.injected+1,r.2.1⟩ r.2.2 ⟨he.1,by have:=he.2;omega⟩ (λ h=>by
  have:=gb h;exact⟨this.1,by show r.1.toNat<m.queues.length;rw[ay.ques];exact this.2⟩) ep (I3 ax _) (J7 hfr _ ⟨by omega,by have:=hn.ports;unfold Am at this;omega⟩ j_)
 conv=>whnf
 constructor<;>intro h
 ·have h:=zO h;rw[zE (.inl (by cases hx:Ai port n.ports.length;rfl;exact yB (a7.1 hx) q_))]at aa;subst aa
  (refine oT ?_;refine bT ?_)
  (skip)
  exact done E .nil [] (En n res d) (λ_ h=>h) E E uU
 have h0:=zT h;clear h;refine oO ?_;constructor<;>intro h
 ·have h:=zO h;rw[zE (.inl (by cases hx:Ai port n.ports.length;rfl;exact yB (a7.1 hx) q_))]at aa;subst aa;refine oT ?_
  (skip)
  exact done E .nil [] (En n res d) (λ_ h=>h) E E uU
 have h1:=zT h;clear h;have hp:0≤port∧port.toNat<n.ports.length:=by omega
 rw[a7.2 hp,Af hp.2]at aa;obtain ⟨p,jt⟩:∃p,n.ports[port.toNat]'hp.2=p:=⟨_,rfl⟩
 rw[jt]at aa;refine oO ?_;refine⟨E,hp.1,hp.2,?_⟩;rw[jt]
 conv=>whnf
 constructor<;>intro h
 ·have h:=zO h;rw[zE (.inr h)]at aa;subst aa;refine oO ?_;exact done E .nil [] (En n res d) (λ_ h=>h) E E uU
 have h2:=zT h;clear h;rw[zD (by simp;omega)]at aa;subst aa;refine gE ?_;refine c0 q1 F113 ?_;refine oO ?_;refine Bv (Ad [] E F114 (q2 hp) E ⟨E,E,E,E,Y⟩ E ⟨.inl E,.inl E,.inl E,.inl E,Y⟩) z_ E ?_;refine gH ?_;refine A4 E .nil [] (En n (comeM _ _ _ _) d) (λ_ h=>h) E E uU
def Afn(n:Net)(hn:n.Fin)(m:MacM)(d:Bool)(J D:Int)(ay:MacOK n m J D)(hD:D≤1000000000000)(o:OutM)(ho:OutOK n o)(origin:Int):Sq 118 [.ptr 0 0,H3 o,Aa origin] (En n m d) (.sl 3 Ej (goesM n m o origin).2) (En n (goesM n m o origin).1 d):=cT F118 ntmps118 λF hF=>by
 have aa:=goesM.eq_1 n m o origin;generalize goesM n m o origin=res at *;have ep:Xa m:=λi=>⟨(ay.drp i).1,by have:=(ay.drp i).2;omega⟩
 have o6:o.bytes.length<100000:=by have:=ho.bytes;omega
 have ar:∀{x:Int},DomIn n x→0≤x∧x.toNat<m.queues.length:=λh=>by rw[ay.ques];exact h
 conv=>whnf
 constructor<;>intro h
 ·have h1:o.kind=1:=by simpa using h
  rw[zE h1]at aa;subst aa;refine oO ?_;refine J3 34 Ej [⟨o.port,origin,o.bytes⟩] E E ?_;refine Aj 34 E ?_;exact done E (.cons .tmp .nil) [] (En n m d) (λ_ h=>h) E E uU
 have h1:¬o.kind=1:=by simpa using h
 rw[zD h1]at aa;clear h;refine oO ?_;constructor<;>intro h
 ·have h2:o.kind=2:=by simpa using h
  rw[zE h2]at aa;have q1:=Aug n hn o.port o.bytes o6;have he:=Az2 n o.port o.bytes;have hd:=λh=>ar (Az3 (n:=n) (port:=o.port) (b:=o.bytes) h)
  have hf:=Ap2 n o.port o.bytes;have ht:=Ap1 hn o.port o.bytes;generalize linkT n o.port o.bytes=r at *;have q2:=Zq n m d r.2.1 ⟨r.1,0,origin,r.2.2.1⟩ r.2.2.2 he hd ep (I3 ay _) (J7 hf _ q_ j_);subst aa;refine oO ?_;refine cD q1 F191 ?_;refine gH ?_;refine kW ?_;refine Ah (Ad [] E F114 q2 E ⟨E,E,E,E,Y⟩ E ⟨.inl E,.inl E,.inl E,.inl E,Y⟩) E E ?_;refine oO ?_;refine An 6 3 Ej E ?_;exact done E (.cons .tmp .nil) [] (En n (comeM _ _ _ _) d) (λ_ h=>h) E E uU
 have h2:¬o.kind=2:=by simpa using h
 rw[zD h2]at aa;clear h;refine oO ?_;constructor<;>intro h
 ·have h2:o.kind=3:=by simpa using h
  rw[zE h2]at aa;have q1:=Auh n hn o.bytes o6;have he:=A0y n o.bytes;have hd:=λh=>ar (Ak6 (n:=n) (b:=o.bytes) h).2
  have hf:=Aq9 n o.bytes;have ht:=Ahv hn o.bytes;generalize comeT n o.bytes=r at *;have q2:=Zq n m d r.2.1 ⟨-1,r.1,origin,r.2.2.1⟩ r.2.2.2 he hd ep (I3 ay _) (J7 hf _ j_ ht);subst aa;refine oO ?_;refine cD q1 F192 ?_;refine gH ?_;refine kW ?_;refine Ah (Ad [] E F114 q2 E ⟨E,E,E,E,Y⟩ E ⟨.inl E,.inl E,.inl E,.inl E,Y⟩) E E ?_;refine oO ?_;refine An 6 3 Ej E ?_;exact done E (.cons .tmp .nil) [] (En n (comeM _ _ _ _) d) (λ_ h=>h) E E uU
 have h3:¬o.kind=3:=by simpa using h
 rw[zD h3]at aa;clear h;refine oO ?_;constructor<;>intro h
 ·have h4:o.kind=4:=by simpa using h
  rw[zE h4]at aa;have hf:=ho.frame h4;have q2:=Zq n m d o.domain ⟨-2,0,origin,o.frame⟩ 0 j_ (λ_=>ar hf.2) ep (I3 ay _) (J7 hf.1 _ j_ j_);subst aa;refine oO ?_;refine Ah (Ad [] E F114 q2 E ⟨E,E,E,E,Y⟩ E ⟨.inl E,.inl E,.inl E,.inl E,Y⟩) E E ?_;refine oO ?_;refine An 6 3 Ej E ?_;exact done E (.cons .tmp .nil) [] (En n (comeM _ _ _ _) d) (λ_ h=>h) E E uU
 have h4:¬o.kind=4:=by simpa using h
 rw[zD h4]at aa;have h5:o.kind=5:=by have:=ho.kind;omega
 have he:=ho.err h5;have q2:=Aq3 n m d o.error he.1 he.2 (ep _);subst aa;clear h;refine oO ?_;refine Ah (Ad [] E F117 q2 E ⟨E,E,E,E,Y⟩ E ⟨.inl E,.inl E,.inl E,.inl E,Y⟩) E E ?_;refine oO ?_;refine An 6 3 Ej E ?_;exact done E (.cons .tmp .nil) [] (En n (Dd m o.error) d) (λ_ h=>h) E E uU
def Ape(up:List Bool)(dn lk:Int)(fw:List Bool):List SV:=[.sl 1 Ab up,.val (.int .u32 dn),.val (.int .i32 lk),.val (.int .u32 0),.sl 1 Ab fw]
def Xk(n:Net)(up:List Bool)(dn lk:Int)(fw:List Bool):Obs:=[(1,.box (Ape up dn lk fw)),(2,.box [.ptr 1 0]),(3,.box (Da n))]
def Azf(n:Net)(hn:n.Fin)(up fw:List Bool)(dn lk:Int):Sq 189 [.ptr 3 0,.ptr 2 0] (Xk n up dn lk fw) (.tup []) (Xk n up dn lk (Ki n up)):=cT F189 ntmps189 λF hF=>by
 have hf:∃e,Sp 37 [Ao n,.sl 1 Ab up] (.tup [.sl 1 Ab (Ki n up),Aa e]):=by
  unfold Ki;split
  ·rename_i h;exact⟨0,Aks n up hn h⟩
  ·rename_i h;exact⟨2,Ahc n up hn (by simpa using h)⟩
 obtain ⟨e,hf⟩:=hf;generalize Ki n up=r at *
 conv=>whnf
 refine cD hf F37 ?_;refine gH ?_;exact A4 E .nil [] (Xk n up dn lk r) (λ_ h=>h) E E uU
def A32(a:Addr)(x:Int)(w:World)(hc:w.cell? a=some (.int .u32 x)):(callFunc 222 #[.pointer (some a)]).run prog w=.ok (.value (.int .u32 x)) w :=
 run_call_load func222 z_ z_ z_ .u32 z_ hc
def Ajz(n:Net)(up fw:List Bool)(dn lk:Int):Sq 165 [.ptr 1 1] (Xk n up dn lk fw) (Ab (dn != 0)) (Xk n up dn lk fw):=cT F165 ntmps165 λF hF=>by
 conv=>whnf
 refine Ah (X6 A32 E E E E) E E ?_;refine oO ?_;exact done E (.cons .tmp .nil) [] (Xk n up dn lk fw) (λ_ h=>h) E E uU
def Z0(w:World):(callFunc 350 #[]).run prog w=.ok (.value (.tuple #[])) w:=run_call_mark0 func350 z_ z_ z_ .disable z_ w
def Adb(w:World):(callFunc 352 #[]).run prog w=.ok (.value (.tuple #[])) w:=run_call_mark0 func352 z_ z_ z_ .enable z_ w
def Al6(a:Addr)(w:World):(callFunc 353 #[.pointer (some a)]).run prog w=.ok (.value (.tuple #[])) w:=run_call_marked func353 z_ z_ z_ .acquire z_ a w
def Al5(a:Addr)(w:World):(callFunc 355 #[.pointer (some a)]).run prog w=.ok (.value (.tuple #[])) w:=run_call_marked func355 z_ z_ z_ .releaseMerge z_ a w
def Afi(a:Addr)(x:Value)(u:FrameMode)(w:World)(hc:w.cell? a=some x)(hz:w.frozen? a=false):CallsD prog 225 #[.pointer (some a),.bool true] u w λe u' w'=>u'=u∧(e=.returned (.tuple #[])∧w'=w.drew.setCell a (.int .u32 1)):=by
 have fk:w.drew.cell? a=some x:=by go_simp
 have hz':w.drew.frozen? a=false:=by go_simp
 have br:=run_call_store (P:=prog) func291 z_ z_ z_ z_ (k:=.u32) (y:=1) fk hz'
 go_enter_d func225,ntmps225
 go_wp2
 go_region_calls
 all_goals (go_end0;exact⟨rfl,rfl⟩)
def Aeh(a:Addr)(u:FrameMode)(w:World)(hc:w.cell? a=some (.int .i32 1))(hz:w.frozen? a=false):CallsD prog 224 #[.pointer (some a)] u w λe u' w'=>u'=u∧(e=.returned (.tuple #[])∧w'=w.setCell a (.int .i32 0)):=by
 have hd:=Z0;have he:=Adb;have hr:=Al5;have ni:=run_call_add (P:=prog) func356 z_ z_ z_ .i32 z_ (y:=-1) (s:=0) hc hz (by simp[go_sem];rfl);have ny:=run_convert_to_unsafe (P:=prog) (src:=477) (dst:=481) Tryz.underlying477 Tryz.underlying481 z_ hc
 go_enter_d func224,ntmps224
 go_wp2
 go_end0
 go_wp2
 go_end0
 exact⟨E,E⟩
def Azz(a:Addr)(w:World)(hc:w.cell? a=some (.int .i32 0))(hz:w.frozen? a=false):Calls prog 223 #[.pointer (some a)] w λe w'=>e=.returned (.tuple #[])∧w'=w.setCell a (.int .i32 1):=by
 have hd:=Z0;have he:=Adb;have ha:=Al6;have hcas:=run_call_cas_hit (P:=prog) func351 z_ z_ z_ .i32 z_ (y:=1) hc hz;have fk:(w.setCell a (.int .i32 1)).cell? a=some (.int .i32 1):=World.cell?_setCell_same w a _ hc;have ny:=run_convert_to_unsafe (P:=prog) (src:=477) (dst:=481) Tryz.underlying477 Tryz.underlying481 z_ fk
 go_enter func223,ntmps223
 go_wp2
 first|go_end0|(simp only[Exit.inBlock,Exit.then];refine bodyPost_ret (results_none rfl _ _ _) rfl ?_)|refine bodyPost_ret (results_none rfl _ _ _) rfl ?_
 go_wp2
 go_end0
 exact⟨E,E⟩
end Go.Sy.YtolnneiipmfgaaaGreatDoor
namespace Go.Sy.YtolnneiipmfgaaaGreatDoor
open Go.Proofs Go.Proofs.Tryz
set_option maxRecDepth 100000
set_option maxHeartbeats 4000000
theorem Ctx.behind{K:Nat→Prop}{κ κ2:Ka}{w w1 w2:World}(s:Step K κ w κ w1)(c:Ctx ⟨w1,κ,[]⟩ κ2 w2):Ctx ⟨w,κ,[]⟩ κ2 w2 where
 size:=wN s.size c.size
 os:=c.os.trans s.os
 tape:=c.tape.trans s.tape
 output:=c.output.trans s.output
 M:=c.M
 old:=λb hb h=>by
  refine(c.old b (yW hb s.size) h).trans ?_;by_cases hm:κ.M b
  ·exact s.mkeep b hm
  ·exact s.blk b hb (λ ho=>by
    rcases ho with ⟨k,hk⟩|ho
    ·exact h k hk
    ·exact hm ho)
 own:=λk b hk=>by
  rcases c.own k b hk with h|h
  ·exact .inl (wN s.size h)
  ·exact .inr h
 nam:=c.nam
def A0t{κ:Ka}{w:World}(hi:Inv κ w):Step (λ_=>False) κ w κ w.drew∧Inv κ w.drew:=by
 have g:=Grew.drew w;exact⟨⟨g.size,g.os,g.tape,g.output,E,λb _=>rfl,λb _ _=>rfl,λ_ _ _ _=>rfl,λ_ _=>rfl,λ_ h=>h.elim,λ_ h=>.inl h⟩,⟨hi.inj,hi.bnd,hi.apart,hi.mbnd⟩⟩
def Aze(n:Net)(hn:n.Fin)(up fw:List Bool):Sq 166 [.ptr 1 1,.clo (.func 189) [] [.ptr 3 0,.ptr 2 0]] (Xk n up 0 0 fw) (.tup []) (Xk n up 1 0 (Ki n up)):=by
 intro κ w vs hi az jl ax;have o1:=ax (1,.box (Ape up 0 0 fw)) (by simp[Xk]);have o2:=ax (2,.box [.ptr 1 0]) (by simp[Xk]);have o3:=ax (3,.box (Da n)) (by simp[Xk]);obtain ⟨b,e1,c1,c2,st1,inv1,vd⟩:=D6 (off:=2) (x:=.val (.int .i32 1)) (v:=.int .i32 1) hi o1 rfl (λ _ _=>by simp only[Rd]) rfl;obtain ⟨b2,_,_,_,e2,_⟩:=id o2;obtain ⟨b3,_,_,_,e3,_⟩:=id o3;simp only[RdL,Rd,e1,e2,e3]at jl;obtain ⟨v0,r0,rfl,rfl,v1,r1,rfl,⟨fs,cs,rfl,ss,nj⟩,rfl⟩:=jl;subst ss;obtain ⟨p3,q3,rfl,rfl,p2,q2,rfl,rfl,rfl⟩:=nj;have gn:=Azf n hn up fw 0 1 κ (w.setCell ⟨b,2,none⟩ (.int .i32 1)) [.pointer (some ⟨b3,0,none⟩),.pointer (some ⟨b2,0,none⟩)] inv1 az (by simp only[RdL,Rd,e2,e3];exact⟨_,_,rfl,rfl,_,_,rfl,rfl,rfl⟩) (λ p hp=>by
  simp only[Xk,yH,xU,uH]at hp;rcases hp with rfl|rfl|rfl
  ·exact vd
  ·exact ObOK.step st1 (show ¬(2:Nat)=1 by decide) _ o2
  ·exact ObOK.step st1 (show ¬ (3:Nat)=1 by decide) _ o3)
 obtain ⟨u1,x7,i7⟩:=c1 1 (.val (.int .u32 0)) rfl;obtain ⟨u2,su,py⟩:=c1 2 (.val (.int .i32 0)) rfl;rw[i7.val]at x7;rw[py.val]at su;have f1:=c2 1 (show 1<5 by decide);have f2:=c2 2 (show 2<5 by decide);have hl:=A32 ⟨b,1,none⟩ 0 (w.setCell ⟨b,2,none⟩ (.int .i32 1)) ((World.cell?_setCell_other _ ⟨b,2,none⟩ ⟨b,1,none⟩ _ y_).trans x7);have hnot:∀(x:Bool) (w:World),(Op.unary .not (.bool x)).run prog w=.ok (.bool (!x)) w:=λ_ _=>rfl
 go_enter_defers func166,ntmps166
 go_wp2_with (first|(go_at_call 223;refine(Azz ⟨b,2,none⟩ _ (by assumption) (by assumption)).mono ?_;rintro e w' ⟨rfl,rfl⟩)|(go_at_call 189;refine gn.mono ?_;rintro e w' ⟨v,κ2,rfl,lh,kg,lj,sw⟩)|(go_at_call 165;go_in))
 have p1:=sw (1,.box (Ape up 0 1 (Ki n up))) (by simp[Xk]);have k1:κ2 1=.blk b:=by
  obtain ⟨bb,_,_,_,q1,_⟩:=id p1;rcases lh.nam 1 (by rw[e1];intro h;cases h) with h|h
  ·rw[h];exact e1
  ·rw[h]at q1;cases q1
 obtain ⟨ba,a1,a2,a3,_,_,_⟩:=D6 (off:=1) (x:=.val (.int .u32 1)) (v:=.int .u32 1) kg p1 rfl (λ_ _=>by simp only[Rd]) rfl;rw[k1]at a1;cases a1;obtain ⟨x8,vf⟩:=A0t kg;have p2:=ObOK.step x8 (k:=1) (λh=>h) _ p1;obtain ⟨ba,a1,_,_,st3,vg,vh⟩:=D6 (off:=1) (x:=.val (.int .u32 1)) (v:=.int .u32 1) vf p2 rfl (λ_ _=>by simp only[Rd]) rfl;rw[k1]at a1;cases a1;have vh:ObOK κ2 (w'.drew.setCell ⟨b,1,none⟩ (.int .u32 1)) 1 (.box (Ape up 1 1 (Ki n up))):=vh;obtain ⟨ba,a1,a4,a5,st4,pz,vi⟩:=D6 (off:=2) (x:=.val (.int .i32 0)) (v:=.int .i32 0) vg vh rfl (λ_ _=>by simp only[Rd]) rfl;rw[k1]at a1;cases a1;have vi:ObOK κ2 ((w'.drew.setCell ⟨b,1,none⟩ (.int .u32 1)).setCell ⟨b,2,none⟩ (.int .i32 0)) 1 (.box (Ape up 1 0 (Ki n up))):=vi;obtain ⟨v1,t8,i7⟩:=a2 1 (.val (.int .u32 0)) rfl;rw[i7.val]at t8;obtain ⟨v2,lj,py⟩:=a4 2 (.val (.int .i32 1)) rfl;rw[py.val]at lj;refine leaves_cons (f:=225) (args:=#[.pointer (some ⟨b,1,none⟩),.bool true]) y_ (by simp[go_sem]) ?_;refine(Afi ⟨b,1,none⟩ (.int .u32 0) .returning _ t8 (a3 1 (show 1<5 by decide))).mono ?_;rintro e u' x9 ⟨rfl,rfl,rfl⟩;refine leaves_cons (f:=224) (args:=#[.pointer (some ⟨b,2,none⟩)]) (by simp[settle]) (by simp[go_sem]) ?_;refine(Aeh ⟨b,2,none⟩ _ _ lj (a5 2 (show 2<5 by decide))).mono ?_;rintro e u' x9 ⟨rfl,rfl,rfl⟩;have br:Step (·=1) κ2 w' κ2 ((w'.drew.setCell ⟨b,1,none⟩ (.int .u32 1)).setCell ⟨b,2,none⟩ (.int .i32 0)):=(x8.weaken (λ_ h=>h.elim)).trans (st3.trans st4);refine⟨.tuple #[],by simp[results,Tryz.results166],.tuple #[],κ2,E,Ctx.behind st1 (lh.step pz br),pz,⟨[],E,E⟩,λp hp=>?_⟩;simp only[Xk,yH,xU,uH]at hp;rcases hp with rfl|rfl|rfl
 ·exact vi
 ·exact ObOK.step br (show ¬(2:Nat)=1 by decide) _ (sw (2,.box [.ptr 1 0]) (by simp[Xk]))
 ·exact ObOK.step br (show ¬(3:Nat)=1 by decide) _ (sw (3,.box (Da n)) (by simp[Xk]))
attribute [local irreducible] Go.Sy.G Go.Sy.DR
def Aa8(n:Net)(up:List Bool)(d:Bool):Obs:=[(1,.box (Le n up d)),(2,.box [.ptr 1 0]),(3,.box (Da n))]
def A61(n:Net)(hn:n.Fin)(up:List Bool):Sq 99 [.ptr 1 1,.clo (.func 189) [] [.ptr 3 0,.ptr 2 0]] (Aa8 n up false) (.tup []) (Aa8 n up true):=cT F99 ntmps99 λF hF=>by
 have q1:Sq 165 [.ptr 1 1] (Aa8 n up false) (Ab false) (Aa8 n up false):=Ajz n up [] 0 0;have q2:Sq 166 [.ptr 1 1,.clo (.func 189) [] [.ptr 3 0,.ptr 2 0]] (Aa8 n up false) (.tup []) (Aa8 n up true):=Aze n hn up []
 conv=>whnf
 refine Ah (Ad [] E F165 q1 E ⟨E,E,E,Y⟩ E ⟨.inl E,.inl E,.inl E,Y⟩) E E ?_;refine oT ?_;refine Ah (Ad [] E F166 q2 E ⟨E,E,E,Y⟩ E ⟨.inl E,.inl E,.inl E,Y⟩) E E ?_;refine oO ?_;exact A4 E .nil [] (Aa8 n up true) (λ_ h=>h) E E uU
def A60(n:Net)(up:List Bool):Sq 99 [.ptr 1 1,.clo (.func 189) [] [.ptr 3 0,.ptr 2 0]] (Aa8 n up true) (.tup []) (Aa8 n up true):=cT F99 ntmps99 λF hF=>by
 have q1:Sq 165 [.ptr 1 1] (Aa8 n up true) (Ab true) (Aa8 n up true):=Ajz n up (Ki n up) 1 0
 conv=>whnf
 refine Ah (Ad [] E F165 q1 E ⟨E,E,E,Y⟩ E ⟨.inl E,.inl E,.inl E,Y⟩) E E ?_;refine oF ?_;exact A4 E .nil [] (Aa8 n up true) (λ_ h=>h) E E uU
def A6z(n:Net)(hn:n.Fin)(up:List Bool)(d:Bool):Sq 99 [.ptr 1 1,.clo (.func 189) [] [.ptr 3 0,.ptr 2 0]] (Aa8 n up d) (.tup []) (Aa8 n up true):=by
 cases d
 ·exact A61 n hn up
 ·exact A60 n up
def Ayk(n:Net)(hn:n.Fin)(up:List Bool)(d:Bool):Sq 116 [.ptr 1 0,Ao n] [(1,.box (Le n up d))] (.sl 1 Ab (Ki n up)) [(1,.box (Le n up true))]:=cT F116 ntmps116 λF hF=>by
 conv=>whnf
 refine Ah (Ad [] E F99 (A6z n hn up d) E ⟨E,E,E,Y⟩ E ⟨.inl E,.inl E,.inl E,Y⟩) E E ?_;refine oO ?_;exact done E (.cons .tmp .nil) [] [(1,.box (Le n up true))] (λ_ h=>h) E E uU
end Go.Sy.YtolnneiipmfgaaaGreatDoor
namespace Go.Sy.YtolnneiipmfgaaaGreatDoor
open Go.Proofs Go.Proofs.Tryz
def Ad5{n:Net}{fw:List Bool}{t:List EntryM}{dom:Int}{q:QueuedM}{now:Int}(ht:TabOK t)(hq:QueuedOK q):TabOK (bridgeT n fw t dom q now).1:=by
 unfold bridgeT;split
 ·exact Acb
 split
 ·split
  ·exact Ww ht hq now
  ·exact Ww ht hq now
 ·exact Ww ht hq now
def Ad6{n:Net}(_hn:n.Fin)(ay:n.Num){fw:List Bool}{t:List EntryM}{dom:Int}{q:QueuedM}{now:Int}(hq:QueuedOK q):∀o∈(bridgeT n fw t dom q now).2.1,OutOK n o:=by
 intro o ho;unfold bridgeT at ho;split at ho
 ·cases ho
 rename_i h0;have hb:Ac n=true:=by
  cases hx:Ac n
  ·exact yB (.inl (by unfold Ld;rw[hx];simp)) h0
  ·rfl
 split at ho
 ·split at ho
  ·cases ho
  ·rename_i h1;have h1:=Decidable.not_not.1 h1;have ar:∀(d:Int),(lookT n (routerT n dom q.frame.dst).1 d).2=true→0≤(lookT n (routerT n dom q.frame.dst).1 d).1∧(lookT n (routerT n dom q.frame.dst).1 d).1.toNat<n.irbs.length:=λd h=>Vq h
   rw[yA.1 ho];exact⟨by dsimp only;omega,by simp,λ_=>⟨A7d n ay _ _ ar,A4l ar h1⟩,λh=>by dsimp only at h;omega⟩
 ·rcases yL.1 ho with h|h
  ·obtain ⟨p,_,rfl⟩:=yS.1 h;unfold Uo;exact Apv (by dsimp only;split<;>omega) (Aiy _ _ _ _ hq.frame) (Aue _ _ _ _)
  ·obtain ⟨p,_,rfl⟩:=yS.1 h;unfold Xg;exact Apv (by dsimp only;omega) (by have:=Amo n dom p q.frame;omega) (Azr _ _ _ _)
def Wd{n:Net}(hn:n.Fin)(fw:List Bool)(t:List EntryM)(dom:Int)(q:QueuedM)(now:Int):(bridgeT n fw t dom q now).2.1.length<4294967296:=by
 unfold bridgeT;split
 ·show (0:Nat)<4294967296;decide
 split
 ·split
  ·show (0:Nat)<4294967296;decide
  ·show (1:Nat)<4294967296;decide
 ·have:=Ahu hn fw (learnQ t q now) dom q.from_ q.frame.dst;simp only[zQ,xA];omega
def Aas(n:Net)(origin:Int):∀(a b:List OutM) (m:MacM),By n m origin (a++b)=((By n (By n m origin a).1 origin b).1,(By n m origin a).2++(By n (By n m origin a).1 origin b).2)
 |[],b,m=>by simp[By]
 |o::a,b,m=>by
  rw[xY,By,By,Aas n origin a b];simp
def Y3(n:Net)(m:MacM)(origin:Int)(l:List OutM)(j:Nat)(hj:j<l.length):By n m origin (l.take (j+1))=((goesM n (By n m origin (l.take j)).1 l[j] origin).1,(By n m origin (l.take j)).2++(goesM n (By n m origin (l.take j)).1 l[j] origin).2):=by
 rw[yC hj,Aas];simp[By]
def Wz(n:Net)(m:MacM)(o:OutM)(origin:Int):(goesM n m o origin).2.length≤1:=by
 unfold goesM;split
 ·simp
 split
 ·simp
 split
 ·simp
 split<;>simp
def Sl(n:Net)(origin:Int):∀(l:List OutM) (m:MacM),(By n m origin l).2.length≤l.length
 |[],m=>by simp[By]
 |o::l,m=>by
  rw[By];have h1:=Sl n origin l (goesM n m o origin).1;have h2:=Wz n m o origin;simp only[zQ,yM];omega
attribute [local irreducible] Go.Sy.G Go.Sy.DR
set_option maxRecDepth 100000
set_option maxHeartbeats 4000000
def Ao8{n:Net}{m:MacM}{J D:Int}(h:MacOK n m J D)(hD:0≤D)(dom:Int){r:List EntryM×List OutM×Int}(hr:TabOK r.1):MacOK n (Vl m dom r) J (D+1):=by
 unfold Vl;split
 ·exact V9 h hD 2
 split
 ·exact V9 (Awf h dom hr) hD _
 ·exact(Awf h dom hr).mono (wB _) q_
def queL(q:QueuedM):List SV:=[Aa q.from_,Aa q.peer,Aa q.origin,Bj q.frame.dst,Bj q.frame.src,Aa q.frame.typ,.sl 1 Ak q.frame.body]
def A24(n:Net)(m:MacM)(q:QueuedM)(l:List SeenM):Obs:=[(0,.box (Um n 1 m.now m.injected m.drops)),(1,.box (Le n m.up true)),(2,.row 1 Qc m.tables),(3,.row 1 Q9 m.queues),(7,.box (queL q)),(1000,.row 3 Ej l)]
def A2g(n:Net)(hn:n.Fin)(ck:n.Num)(m:MacM)(d:Bool)(J D:Int)(ay:MacOK n m J D)(sx:0≤D)(hD:D≤900000000000)(dom at_:Int):Sq 40 [.ptr 0 0,Aa dom,Aa at_] (En n m d) (.sl 3 Ej (pickT n m dom at_).2) (En n (pickT n m dom at_).1 (if (takeM m dom at_).2.2 then true else d)):=cT F40 ntmps40 λF hF=>by
 have aa:=pickT.eq_1 n m dom at_;generalize pickT n m dom at_=res at *;have q1:=Aol n m d dom at_ (I3 ay dom);have ax:=Afe ay dom at_;have a7:(takeM m dom at_).2.2=true→0≤dom∧dom.toNat<m.queues.length:=λh=>by
  unfold takeM at h;split at h
  ·cases h
  ·rename_i h2;exact placeB_iff.1 (by cases hx:Ai dom m.queues.length;exact yB hx h2;rfl)
 have ua:(takeM m dom at_).1.tables=m.tables:=by unfold takeM;split<;>rfl
 generalize takeM m dom at_=r at *;obtain ⟨m1,q,ok⟩:=r;have htq:m.queues.length=m.tables.length:=by rw[ay.ques,ay.tabs]
 conv=>whnf
 refine Ah (Ad [] E F41 q1 E ⟨E,E,E,E,Y⟩ E ⟨.inl E,.inl E,.inl E,.inl E,Y⟩) E E ?_;refine oO ?_;cases ok
 ·rw[zE rfl]at aa;subst aa
  (refine⟨λ_=>?_,λh=>False.elim (by simp at h)⟩;refine rg ?_;conv=>whnf)
  refine An 6 3 Ej E ?_;exact done E (.cons .tmp .nil) [] (En n m1 d) (λ_ h=>h) E E uU
 rw[zD y_]at aa;have hd:=a7 rfl;have iv:0≤dom∧dom.toNat<m1.tables.length:=by rw[ua,←htq];exact hd
 dsimp only at aa ax;have q2:=Ayk n hn m1.up d;have q3:=Are n hn ck (Ki n m1.up) (tableL m1 dom) dom q m1.now (Abu ax.1 dom) ax.2;have gv:=Ad5 (n:=n) (fw:=Ki n m1.up) (dom:=dom) (now:=m1.now) (Abu ax.1 dom) ax.2;have dw:=Ad6 (fw:=Ki n m1.up) (t:=tableL m1 dom) (dom:=dom) (now:=m1.now) hn ck ax.2;have hb3:=Wd hn (Ki n m1.up) (tableL m1 dom) dom q m1.now;have hb4:=Ard n (Ki n m1.up) (tableL m1 dom) dom q m1.now;rw[Z2]at aa;have hz:=Ao8 ax.1 sx dom gv;generalize bridgeT n (Ki n m1.up) (tableL m1 dom) dom q m1.now=b at *;obtain ⟨t,out,e⟩:=b;have dw:∀o∈out,OutOK n o:=dw;have hb3:out.length<4294967296:=hb3;have hb4:Cf e:=hb4;have ht0:=tableL.eq_1 m1 dom;rw[Aey iv.2]at ht0;generalize tableL m1 dom=t0 at *;subst ht0
 (refine⟨λh=>False.elim (by simp at h),λ_=>?_⟩;refine rg ?_;conv=>whnf)
 refine Bv (Ad [] E F116 q2 E ⟨E,Y⟩ E ⟨.inl E,Y⟩) z_ E ?_;refine oD ?_;refine⟨iv.1,iv.2,?_⟩
 conv=>whnf
 refine⟨E,iv.2,?_⟩
 conv=>whnf
 refine cD q3 F115 ?_;refine gH ?_;constructor<;>intro h
 ·have h2:¬e=2:=by simpa using h
  clear h;refine oO ?_;refine⟨iv.1,iv.2,?_⟩
  conv=>whnf
  refine⟨E,iv.2,t,E,E,?_⟩
  conv=>whnf
  constructor<;>intro h
  ·have h3:¬e=0:=by simpa using h
   clear h;have sk:Vl m1 dom (t,out,e)=Dd (E1 m1 dom t) e:=by
    unfold Vl;rw[zD h2,zE h3]
   rw[sk]at aa hz;subst aa;have q4:=Aq3 n (E1 m1 dom t) true e hb4.1 hb4.2 ⟨(ax.1.drp _).1,by have:=(ax.1.drp e.toNat).2;show m1.drops e.toNat≤1000000000000;omega⟩;refine oO ?_;refine Ah (Ad [] E F117 q4 E ⟨E,E,E,E,Y⟩ E ⟨.inl E,.inl E,.inl E,.inl E,Y⟩) E E ?_;refine oO ?_;have ep:Xa (Dd (E1 m1 dom t) e):=λi=>⟨(hz.drp i).1,by have:=(hz.drp i).2;omega⟩
   refine Ce 12 1000 3 Ej E E ?_;refine A8 out.length (λj=>[(0,.ptr 0 0),(7,.ptr 7 0),(12,.osl 1000),(69,.sl 9 H3 out),(70,Aa out.length),(71,Aa j)]) (λj=>A24 n (By n (Dd (E1 m1 dom t) e) q.origin (out.take j)).1 q (By n (Dd (E1 m1 dom t) e) q.origin (out.take j)).2) [] uU ?_;intro j hj;refine oO ?_;constructor<;>intro h
   ·have ab:j<out.length:=qA h;have ai:(j:Int).toNat<out.length:=by simpa using ab
    obtain ⟨o,gd⟩:∃o,out[j]=o:=⟨_,rfl⟩
    have e1:out[(j:Int).toNat]'ai=o:=gd;have hs:=Y3 n (Dd (E1 m1 dom t) e) q.origin out j ab;rw[gd]at hs;have p5:=V2 hn q.origin (out.take j) hz q_ (λx hx=>dw x (wR hx));have hlen:(out.take j).length=j:=by rw[zY];omega
    rw[hlen]at p5;have lq:=Sl n q.origin (out.take j) (Dd (E1 m1 dom t) e);rw[hlen]at lq;have q5:=Afn n hn (By n (Dd (E1 m1 dom t) e) q.origin (out.take j)).1 true J _ p5 q_ o (dw o (by rw[←gd];exact zJ ab)) q.origin;have fy:=Wz n (By n (Dd (E1 m1 dom t) e) q.origin (out.take j)).1 o q.origin;clear h;refine oO ?_;refine⟨E,by omega,ai,?_⟩;rw[e1]
    conv=>whnf
    refine Ah (Ad [] E F118 q5 E ⟨E,E,E,E,Y⟩ E ⟨.inl E,.inl E,.inl E,.inl E,Y⟩) E E ?_;refine oO ?_;refine Ah (Ag Γ.toTy 81 E E E E E (.row E) .sl y_ q_ q_) E E ?_;refine gE ?_;have g1:(By n (Dd (E1 m1 dom t) e) q.origin (out.take (j+1))).1=(goesM n (By n (Dd (E1 m1 dom t) e) q.origin (out.take j)).1 o q.origin).1:=by rw[hs]
    have g2:(By n (Dd (E1 m1 dom t) e) q.origin (out.take (j+1))).2=(By n (Dd (E1 m1 dom t) e) q.origin (out.take j)).2++(goesM n (By n (Dd (E1 m1 dom t) e) q.origin (out.take j)).1 o q.origin).2:=by rw[hs]
    refine Az [(1000,81)] ab ⟨⟨E,E,E,E,E,E,E,E,E,E,E,E,Y⟩,?_,E,E⟩;dsimp only;rw[g1,g2];exact⟨.inl E,E,.inl E,E,.inl E,E,.inl E,E,.inl E,E,.inl E,E,Y⟩
   ·have jc:j=out.length:=qB h;subst jc;rw[yN];clear h;refine oO ?_;refine Aj 1000 E ?_;exact done E (.cons .tmp .nil) [] (En n (By n (Dd (E1 m1 dom t) e) q.origin out).1 true) (λ_ h=>h) E E uU
  ·have h3:e=0:=by simpa using h
   clear h;have sk:Vl m1 dom (t,out,e)=E1 m1 dom t:=by
    unfold Vl;rw[zD h2,zD (λh=>h h3)]
   rw[sk]at aa hz;subst aa;refine oO ?_;have ep:Xa (E1 m1 dom t):=λi=>⟨(hz.drp i).1,by have:=(hz.drp i).2;omega⟩
   refine Ce 12 1000 3 Ej E E ?_;refine A8 out.length (λj=>[(0,.ptr 0 0),(7,.ptr 7 0),(12,.osl 1000),(69,.sl 9 H3 out),(70,Aa out.length),(71,Aa j)]) (λj=>A24 n (By n (E1 m1 dom t) q.origin (out.take j)).1 q (By n (E1 m1 dom t) q.origin (out.take j)).2) [] uU ?_;intro j hj;refine oO ?_;constructor<;>intro h
   ·have ab:j<out.length:=qA h;have ai:(j:Int).toNat<out.length:=by simpa using ab
    obtain ⟨o,gd⟩:∃o,out[j]=o:=⟨_,rfl⟩
    have e1:out[(j:Int).toNat]'ai=o:=gd;have hs:=Y3 n (E1 m1 dom t) q.origin out j ab;rw[gd]at hs;have p5:=V2 hn q.origin (out.take j) hz q_ (λx hx=>dw x (wR hx));have hlen:(out.take j).length=j:=by rw[zY];omega
    rw[hlen]at p5;have lq:=Sl n q.origin (out.take j) (E1 m1 dom t);rw[hlen]at lq;have q5:=Afn n hn (By n (E1 m1 dom t) q.origin (out.take j)).1 true J _ p5 q_ o (dw o (by rw[←gd];exact zJ ab)) q.origin;have fy:=Wz n (By n (E1 m1 dom t) q.origin (out.take j)).1 o q.origin;clear h;refine oO ?_;refine⟨E,by omega,ai,?_⟩;rw[e1]
    conv=>whnf
    refine Ah (Ad [] E F118 q5 E ⟨E,E,E,E,Y⟩ E ⟨.inl E,.inl E,.inl E,.inl E,Y⟩) E E ?_;refine oO ?_;refine Ah (Ag Γ.toTy 81 E E E E E (.row E) .sl y_ q_ q_) E E ?_;refine gE ?_;have g1:(By n (E1 m1 dom t) q.origin (out.take (j+1))).1=(goesM n (By n (E1 m1 dom t) q.origin (out.take j)).1 o q.origin).1:=by rw[hs]
    have g2:(By n (E1 m1 dom t) q.origin (out.take (j+1))).2=(By n (E1 m1 dom t) q.origin (out.take j)).2++(goesM n (By n (E1 m1 dom t) q.origin (out.take j)).1 o q.origin).2:=by rw[hs]
    refine Az [(1000,81)] ab ⟨⟨E,E,E,E,E,E,E,E,E,E,E,E,Y⟩,?_,E,E⟩;dsimp only;rw[g1,g2];exact⟨.inl E,E,.inl E,E,.inl E,E,.inl E,E,.inl E,E,.inl E,E,Y⟩
   ·have jc:j=out.length:=qB h;subst jc;rw[yN];clear h;refine oO ?_;refine Aj 1000 E ?_;exact done E (.cons .tmp .nil) [] (En n (By n (E1 m1 dom t) q.origin out).1 true) (λ_ h=>h) E E uU
 ·have h2:e=2:=by simpa using h
  clear h;subst h2;have sk:Vl m1 dom (t,out,2)=Dd m1 2:=by
   unfold Vl;rw[zE rfl]
  rw[sk]at aa hz;subst aa;have q4:=Aq3 n m1 true 2 j_ j_ ⟨(ax.1.drp _).1,by have:=(ax.1.drp (Int.toNat 2)).2;omega⟩;refine oT ?_;refine Ah (Ad [] E F117 q4 E ⟨E,E,E,E,Y⟩ E ⟨.inl E,.inl E,.inl E,.inl E,Y⟩) E E ?_;refine oO ?_;have ep:Xa (Dd m1 2):=λi=>⟨(hz.drp i).1,by have:=(hz.drp i).2;omega⟩
  refine Ce 12 1000 3 Ej E E ?_;refine A8 out.length (λj=>[(0,.ptr 0 0),(7,.ptr 7 0),(12,.osl 1000),(69,.sl 9 H3 out),(70,Aa out.length),(71,Aa j)]) (λj=>A24 n (By n (Dd m1 2) q.origin (out.take j)).1 q (By n (Dd m1 2) q.origin (out.take j)).2) [] uU ?_;intro j hj;refine oO ?_;constructor<;>intro h
  ·have ab:j<out.length:=qA h;have ai:(j:Int).toNat<out.length:=by simpa using ab
   obtain ⟨o,gd⟩:∃o,out[j]=o:=⟨_,rfl⟩
   have e1:out[(j:Int).toNat]'ai=o:=gd;have hs:=Y3 n (Dd m1 2) q.origin out j ab;rw[gd]at hs;have p5:=V2 hn q.origin (out.take j) hz q_ (λx hx=>dw x (wR hx));have hlen:(out.take j).length=j:=by rw[zY];omega
   rw[hlen]at p5;have lq:=Sl n q.origin (out.take j) (Dd m1 2);rw[hlen]at lq;have q5:=Afn n hn (By n (Dd m1 2) q.origin (out.take j)).1 true J _ p5 q_ o (dw o (by rw[←gd];exact zJ ab)) q.origin;have fy:=Wz n (By n (Dd m1 2) q.origin (out.take j)).1 o q.origin;clear h;refine oO ?_;refine⟨E,by omega,ai,?_⟩;rw[e1]
   conv=>whnf
   refine Ah (Ad [] E F118 q5 E ⟨E,E,E,E,Y⟩ E ⟨.inl E,.inl E,.inl E,.inl E,Y⟩) E E ?_;refine oO ?_;refine Ah (Ag Γ.toTy 81 E E E E E (.row E) .sl y_ q_ q_) E E ?_;refine gE ?_;have g1:(By n (Dd m1 2) q.origin (out.take (j+1))).1=(goesM n (By n (Dd m1 2) q.origin (out.take j)).1 o q.origin).1:=by rw[hs]
   have g2:(By n (Dd m1 2) q.origin (out.take (j+1))).2=(By n (Dd m1 2) q.origin (out.take j)).2++(goesM n (By n (Dd m1 2) q.origin (out.take j)).1 o q.origin).2:=by rw[hs]
   refine Az [(1000,81)] ab ⟨⟨E,E,E,E,E,E,E,E,E,E,E,E,Y⟩,?_,E,E⟩;dsimp only;rw[g1,g2];exact⟨.inl E,E,.inl E,E,.inl E,E,.inl E,E,.inl E,E,.inl E,E,Y⟩
  ·have jc:j=out.length:=qB h;subst jc;rw[yN];clear h;refine oO ?_;refine Aj 1000 E ?_;exact done E (.cons .tmp .nil) [] (En n (By n (Dd m1 2) q.origin out).1 true) (λ_ h=>h) E E uU
def Ax0(l:List (List EntryM))(now:Int)(j:Nat)(hj:j<l.length):((l.take j).map (λt=>ageT t now)++l.drop j).set j (ageT l[j] now)=(l.take (j+1)).map (λt=>ageT t now)++l.drop (j+1):=by
 apply tI
 ·simp only[yP,zQ,xA,zY,yQ];omega
 intro i h1 h2;simp only[yP,zQ,xA,zY,yQ]at h1;rw[vH];by_cases hi:j=i
 ·subst hi;rw[zE rfl,yU (by simp;omega)];simp
 ·rw[zD hi];by_cases ab:i<j
  ·rw[yU (by simp;omega),yU (by simp;omega)];simp
  ·rw[xO (by simp;omega),xO (by simp;omega)];simp only[vQ,xA,zY];congr 1;omega
def A0e{P:Program}{o:Oper}{s:SS}{x y:Operand}{at_:Array TypeId}{k k':IntKind}{m n r:Int}(hr:(if n<m then n else m)=r)(h:o.op=.call ⟨.builtin .min,#[x,y],at_⟩)(hx:ev s x=.val (.int k m))(hy:ev s y=.val (.int k' n)):Good P o s ⟨.val (.int k r),[],[]⟩:=by
 have:=Aan (P:=P) h hx hy;rwa [hr]at this
def Aer(l:List (List EntryM))(now:Int)(j:Nat):List (List EntryM):=(l.take j).map (λt=>ageT t now)++l.drop j
def A5s(l:List (List EntryM))(now:Int)(j:Nat)(hj:j<l.length)(h2:j<(Aer l now j).length):(Aer l now j)[j]=l[j]:=by
 have h:(Aer l now j)[j]? = l[j]?:=by
  unfold Aer;have hm:min j l.length=j:=by omega
  rw[wA (by simp;omega),List.getElem?_drop,xA,zY,hm,tS,Nat.add_zero]
 rw[zU hj,zU h2]at h;exact Option.some.inj h
def Arp(l:List (List EntryM))(now:Int)(j:Nat):(Aer l now j).length=l.length:=by
 unfold Aer;simp only[zQ,xA,zY,yQ];omega
def tickO(n:Net)(m:MacM)(d:Bool)(now:Int)(j:Nat):Obs:=[(0,.box (Um n 1 now m.injected m.drops)),(1,.box (Le n m.up d)),(2,.row 1 Qc (Aer m.tables now j)),(3,.row 1 Q9 m.queues)]
def A2f(n:Net)(m:MacM)(d:Bool)(J D:Int)(ay:MacOK n m J D)(hs:Am n.domains):Sq 42 [.ptr 0 0] (En n m d) (.tup []) (En n (Xo m) d):=cT F42 ntmps42 λF hF=>by
 unfold Am at hs;have hnow:=ay.now;have ua:m.tables.length<2147483648:=by rw[ay.tabs];exact hs
 have dt:=ay.tab;obtain ⟨nw,ya⟩:∃nw,(if 1099511627776<m.now+1 then 1099511627776 else m.now+1)=nw:=⟨_,rfl⟩
 have kl:Xo m=⟨m.up,Aer m.tables nw m.tables.length,m.queues,nw,m.injected,m.drops⟩:=by
  have:min (m.now+1) 1099511627776=nw:=by rw[←ya];split<;>omega
  unfold Xo Aer;rw[this,yN,wQ,xM]
 rw[kl]
 conv=>whnf
 refine iW ?_;refine Ah (A0e ya E E E) E E ?_;refine oO ?_;refine A8 m.tables.length (λj=>[(0,.ptr 0 0),(16,.osl 2),(17,Aa m.tables.length),(18,Aa j)]) (λj=>tickO n m d nw j) [] uU ?_;intro j hj;refine oO ?_;constructor<;>intro h
 ·have ab:j<m.tables.length:=qA h;have kh:=Arp m.tables nw j;have ai:(j:Int).toNat<(Aer m.tables nw j).length:=by rw[kh];simpa using ab
  obtain ⟨t,gd⟩:∃t,m.tables[j]=t:=⟨_,rfl⟩
  have e1:(Aer m.tables nw j)[(j:Int).toNat]'ai=t:=(A5s m.tables nw j ab (by rw[kh];exact ab)).trans gd;have hs:=Ax0 m.tables nw j ab;rw[gd]at hs;have ht:=dt t (by rw[←gd];exact zJ ab);clear h;refine oO ?_;refine⟨by omega,ai,?_⟩
  conv=>whnf
  refine⟨E,ai,?_⟩;rw[e1]
  conv=>whnf
  refine cD (A6e t nw ht.short ht.mac) F119 ?_;refine oD ?_;refine⟨by omega,ai,?_⟩
  conv=>whnf
  refine⟨E,ai,ageT t nw,E,E,?_⟩
  conv=>whnf
  refine kW ?_;refine iW ?_;exact Az [] ab ⟨⟨E,E,E,E,E,E,E,E,Y⟩,⟨.inl E,E,.inl E,E,.inl (zH (Ob.row 1 Qc) hs.symm),E,.inl E,E,Y⟩,E,E⟩
 ·have jc:j=m.tables.length:=qB h;subst jc;clear h;refine oO ?_;exact A4 E .nil [] (En n ⟨m.up,Aer m.tables nw m.tables.length,m.queues,nw,m.injected,m.drops⟩ d) (λ_ h=>h) E E uU
def Aom(n:Net)(m:MacM)(d:Bool):Obs:=[(0,.box (Um n 4 m.now m.injected m.drops)),(1,.non),(2,.row 1 Qc m.tables),(3,.row 1 Q9 m.queues),(4,.box (Le n m.up d))]
def upT(m:MacM)(up:List Bool):MacM:=⟨up,m.tables,m.queues,m.now,m.injected,m.drops⟩
def doD(n:Net)(m:MacM)(d:Bool)(x:StepM):Bool :=
 if x.kind=1 then d else if x.kind=2 then (if (takeM m x.domain x.at_).2.2 then true else d) else if x.kind=3 then d else if x.kind=4 then d else if x.kind=5 then (if x.up.length=n.links.length then false else d) else d
def As3(n:Net)(hn:n.Fin)(ck:n.Num)(m:MacM)(d:Bool)(J D:Int)(ay:MacOK n m J D)(hJ:J<900000000000)(sx:0≤D)(hD:D≤900000000000)(x:StepM)(hb:x.bytes.length<100000):Sq 16 [.ptr 0 0,Du x] (En n m d) (.tup [.sl 3 Ej (doT n m x).2,Aa 0]) (Aom n (doT n m x).1 (doD n m d x)):=cT F16 ntmps16 λF hF=>by
 have aa:=doT.eq_1 n m x;generalize doT n m x=res at *;have dr:=doD.eq_1 n m d x;generalize doD n m d x=dd at *
 conv=>whnf
 refine Ah (Aar (d:=900) E E E) E E ?_;refine oF ?_;constructor<;>intro h
 ·have h1:x.kind=1:=by simpa using h
  rw[zE h1]at aa dr;subst aa;subst dr;have q1:=As2 n hn m dd J D ay q_ q_ x.port x.bytes hb;refine oO ?_;refine Ah (Ad [] E F39 q1 E ⟨E,E,E,E,Y⟩ E ⟨.inl E,.inl E,.inl E,.inl E,Y⟩) E E ?_;refine oO ?_;refine An 4 3 Ej E ?_;refine M3 1 4 E E j_ ?_;exact done E (.cons .tmp (.cons .tmp .nil)) [] (Aom n (injectT n m x.port x.bytes) dd) (λ_ h=>h) E E uU
 have h1:¬x.kind=1:=by simpa using h
 rw[zD h1]at aa dr;clear h;refine oO ?_;constructor<;>intro h
 ·have h1:x.kind=2:=by simpa using h
  rw[zE h1]at aa dr;subst aa;have q1:=A2g n hn ck m d J D ay sx hD x.domain x.at_;rw[←dr]at q1;refine oO ?_;refine Ah (Ad [] E F40 q1 E ⟨E,E,E,E,Y⟩ E ⟨.inl E,.inl E,.inl E,.inl E,Y⟩) E E ?_;refine oO ?_;refine M3 1 4 E E j_ ?_;exact done E (.cons .tmp (.cons .tmp .nil)) [] (Aom n (pickT n m x.domain x.at_).1 dd) (λ_ h=>h) E E uU
 have h1:¬x.kind=2:=by simpa using h
 rw[zD h1]at aa dr;clear h;refine oO ?_;constructor<;>intro h
 ·have h1:x.kind=3:=by simpa using h
  rw[zE h1]at aa dr;subst aa;subst dr;have q1:=Aol n m dd x.domain x.at_ (I3 ay _);refine oO ?_;refine Ah (Ad [] E F41 q1 E ⟨E,E,E,E,Y⟩ E ⟨.inl E,.inl E,.inl E,.inl E,Y⟩) E E ?_;refine oO ?_;refine An 4 3 Ej E ?_;refine M3 1 4 E E j_ ?_;exact done E (.cons .tmp (.cons .tmp .nil)) [] (Aom n (takeM m x.domain x.at_).1 dd) (λ_ h=>h) E E uU
 have h1:¬x.kind=3:=by simpa using h
 rw[zD h1]at aa dr;clear h;refine oO ?_;constructor<;>intro h
 ·have h1:x.kind=4:=by simpa using h
  rw[zE h1]at aa dr;subst aa;subst dr;have q1:=A2f n m dd J D ay hn.domains;refine oO ?_;refine Ah (Ad [] E F42 q1 E ⟨E,E,E,E,Y⟩ E ⟨.inl E,.inl E,.inl E,.inl E,Y⟩) E E ?_;refine oO ?_;refine An 4 3 Ej E ?_;refine M3 1 4 E E j_ ?_;exact done E (.cons .tmp (.cons .tmp .nil)) [] (Aom n (Xo m) dd) (λ_ h=>h) E E uU
 have h1:¬x.kind=4:=by simpa using h
 rw[zD h1]at aa dr;clear h;refine oO ?_;constructor<;>intro h
 ·have h1:x.kind=5:=by simpa using h
  rw[zE h1]at aa dr;clear h;refine oO ?_;refine kW ?_;constructor<;>intro h
  ·have h2:x.up.length=n.links.length:=qA h;rw[zE h2]at aa dr;subst aa;subst dr;clear h;have j5:=hn.links;unfold Am at j5;refine oO ?_;refine c0 (Avp x.up q_) F43 ?_;refine oO ?_;refine An 4 3 Ej E ?_;refine Al 55 (Le n x.up false) E vL ?_;exact done E (.cons .tmp (.cons .tmp .nil)) [(4,55)] (Aom n (upT m x.up) false) (λ_ h=>h) E E uU
  ·have h2:¬x.up.length=n.links.length:=qB h;rw[zD h2]at aa dr;subst aa;subst dr;clear h;refine oO ?_;refine An 4 3 Ej E ?_;refine M3 1 4 E E j_ ?_;exact done E (.cons .tmp (.cons .tmp .nil)) [] (Aom n m dd) (λ_ h=>h) E E uU
 have h1:¬x.kind=5:=by simpa using h
 rw[zD h1]at aa dr;subst aa;subst dr;clear h;refine oO ?_;refine An 4 3 Ej E ?_;refine M3 1 4 E E j_ ?_;exact done E (.cons .tmp (.cons .tmp .nil)) [] (Aom n m dd) (λ_ h=>h) E E uU
def Afm(n:Net)(hn:n.Fin)(hb:okB n (List.replicate n.links.length true)=false):Sp 15 [Ao n] (.tup [.val (.pointer none),Aa 2]):=cT F15 ntmps15 λF hF=>by
 have j5:=hn.links;unfold Am at j5;have q1:=Awk n.links.length q_;have q2:=Ahc n (List.replicate n.links.length true) hn hb;generalize List.replicate n.links.length true=up at *
 conv=>whnf
 refine J3 7 Ab [true] E E ?_;refine Aj 7 E ?_;refine oO ?_;refine c0 q1 F36 ?_;refine oO ?_;refine c0 q2 F37 ?_;refine oT ?_;exact dN
def Awb(n:Net)(hn:n.Fin)(hb:okB n (List.replicate n.links.length true)=true):Sq 15 [Ao n] [] (.tup [.ptr 0 0,Aa 0]) (En n (newT n) false):=cT F15 ntmps15 λF hF=>by
 have j5:=hn.links;have u6:=hn.domains;unfold Am at j5 u6;have q1:=Awk n.links.length q_;have q2:=Aks n (List.replicate n.links.length true) hn hb;have sy:=newT.eq_1 n;generalize newT n=m at *;generalize List.replicate n.links.length true=up at *
 conv=>whnf
 refine J3 7 Ab [true] E E ?_;refine Aj 7 E ?_;refine oO ?_;refine c0 q1 F36 ?_;refine oO ?_;refine c0 q2 F37 ?_;refine oF ?_;refine cD (copyS n hn) F38 ?_;refine oD ?_;refine Bv (B4 Γ.toTy (d:=28) (n:=n.domains.length) (λ_:Unit=>.val (.slice none 0 0)) () E E E E E E E E q_ q_ E E E) z_ E ?_;refine oD ?_;refine Bv (B4 Γ.toTy (d:=32) (n:=n.domains.length) (λ_:Unit=>.val (.slice none 0 0)) () E E E E E E E E q_ q_ E E E) z_ E ?_;refine oD ?_;refine⟨z_,?_⟩;refine Arv 28 (e':=Qc) (l':=List.replicate n.domains.length []) E y_ (λM w i h1 h2 v hv=>?_) ?_
 ·rw[tL];simp only[RdD]at hv;exact Aie hv
 refine Arv 32 (e':=Q9) (l':=List.replicate n.domains.length []) E y_ (λM w i h1 h2 v hv=>?_) ?_
 ·rw[tL];simp only[RdD]at hv;exact Aie hv
 refine Al 24 (Le n up false) E vL ?_;refine oO ?_;subst sy;exact done E (.cons .tmp (.cons .tmp .nil)) [(0,34),(1,24),(2,28),(3,32)] (En n ⟨up,List.replicate n.domains.length [],List.replicate n.domains.length [],0,0,λ_=>0⟩ false) (λ_ h=>h) E E uU
end Go.Sy.YtolnneiipmfgaaaGreatDoor
namespace Go.Sy.YtolnneiipmfgaaaGreatDoor
open Go.Proofs Go.Proofs.Tryz
def Ac4(n:Net):∀(a b:List StepM) (m:MacM),D7 n m (a++b)=((D7 n (D7 n m a).1 b).1,(D7 n m a).2++(D7 n (D7 n m a).1 b).2)
 |[],b,m=>by simp[D7]
 |o::a,b,m=>by
  rw[xY,D7,D7,Ac4 n a b];simp
def Ayr(n:Net)(m:MacM)(l:List StepM)(j:Nat)(hj:j<l.length):D7 n m (l.take (j+1))=((doT n (D7 n m (l.take j)).1 l[j]).1,(D7 n m (l.take j)).2++(doT n (D7 n m (l.take j)).1 l[j]).2):=by
 rw[yC hj,Ac4];simp[D7]
def runF(n:Net)(s:MacM×Bool)(l:List StepM):MacM×Bool:=l.foldl (λs x=>((doT n s.1 x).1,doD n s.1 s.2 x)) s
def Aop(n:Net):∀(l:List StepM) (s:MacM×Bool),(runF n s l).1=(D7 n s.1 l).1
 |[],s=>rfl
 |x::l,s=>by
  have:=Aop n l ((doT n s.1 x).1,doD n s.1 s.2 x);rw[D7];exact this
def runD(n:Net)(m:MacM)(d:Bool)(l:List StepM):Bool:=(runF n (m,d) l).2
def Ays(n:Net)(m:MacM)(d:Bool)(l:List StepM)(j:Nat)(hj:j<l.length):runD n m d (l.take (j+1))=doD n (D7 n m (l.take j)).1 (runD n m d (l.take j)) l[j]:=by
 unfold runD;rw[yC hj];have:=Aop n (l.take j) (m,d);unfold runF at this⊢;rw[xN];show doD n (List.foldl _ (m,d) (l.take j)).1 _ l[j]=_;rw[this]
def A47{n:Net}(hn:n.Fin)(ck:n.Num){m:MacM}{J D:Int}(h:MacOK n m J D)(hJ:0≤J)(hD:0≤D)(x:StepM):MacOK n (doT n m x).1 (J+1) (D+4294967298):=by
 unfold doT;split
 ·exact(Auu hn h hJ hD _ _).mono q_ q_
 split
 ·have ax:=Afe h x.domain x.at_;unfold pickT;split
  ·exact ax.1.mono q_ q_
  ·have hb:=Wd hn (Ki n (takeM m x.domain x.at_).1.up) (tableL (takeM m x.domain x.at_).1 x.domain) x.domain (takeM m x.domain x.at_).2.1 (takeM m x.domain x.at_).1.now;have h1:=Ao8 ax.1 hD x.domain (Ad5 (n:=n) (fw:=Ki n (takeM m x.domain x.at_).1.up) (dom:=x.domain) (now:=(takeM m x.domain x.at_).1.now) (Abu ax.1 x.domain) ax.2);have h2:=V2 hn (takeM m x.domain x.at_).2.1.origin (Z2 n (takeM m x.domain x.at_).1 x.domain (takeM m x.domain x.at_).2.1).2.1 h1 q_ (Ad6 hn ck ax.2);refine h2.mono q_ ?_;unfold Z2;omega
 split
 ·exact(Afe h x.domain x.at_).1.mono q_ q_
 split
 ·have h1:=h.now;refine⟨h.up,by unfold Xo;simp only[xA];exact h.tabs,h.ques,λt ht=>?_,h.que,?_,?_,λi=>?_⟩
  ·unfold Xo at ht;obtain ⟨t0,ht0,rfl⟩:=yS.1 ht;exact A71 (h.tab t0 ht0) _
  ·unfold Xo;dsimp only;omega
  ·have:=h.inj;unfold Xo;dsimp only;omega
  ·have:=h.drp i;unfold Xo;dsimp only;omega
 split
 ·split
  ·rename_i h2;exact MacOK.mono (n:=n) (m:=⟨x.up,m.tables,m.queues,m.now,m.injected,m.drops⟩) ⟨h2,h.tabs,h.ques,h.tab,h.que,h.now,h.inj,h.drp⟩ q_ q_
  ·exact h.mono q_ q_
 ·exact h.mono q_ q_
def Axf{n:Net}(hn:n.Fin)(m:MacM)(x:StepM):(doT n m x).2.length<4294967296:=by
 unfold doT;split
 ·show (0:Nat)<4294967296;decide
 split
 ·unfold pickT;split
  ·show (0:Nat)<4294967296;decide
  ·have hb:=Wd hn (Ki n (takeM m x.domain x.at_).1.up) (tableL (takeM m x.domain x.at_).1 x.domain) x.domain (takeM m x.domain x.at_).2.1 (takeM m x.domain x.at_).1.now;have h2:=Sl n (takeM m x.domain x.at_).2.1.origin (Z2 n (takeM m x.domain x.at_).1 x.domain (takeM m x.domain x.at_).2.1).2.1 (Vl (takeM m x.domain x.at_).1 x.domain (Z2 n (takeM m x.domain x.at_).1 x.domain (takeM m x.domain x.at_).2.1));unfold Z2 at h2⊢;omega
 split
 ·show (0:Nat)<4294967296;decide
 split
 ·show (0:Nat)<4294967296;decide
 split
 ·show (0:Nat)<4294967296;decide
 ·show (0:Nat)<4294967296;decide
def Awi{n:Net}(hn:n.Fin)(ck:n.Num):∀(l:List StepM) {m:MacM} {J D:Int},MacOK n m J D→0≤J→0≤D→MacOK n (D7 n m l).1 (J+l.length) (D+l.length*4294967298)
 |[],m,J,D,h,_,_=>by
  rw[D7];exact h.mono y_ y_
 |x::l,m,J,D,h,hJ,hD=>by
  rw[D7];have:=Awi hn ck l (A47 hn ck h hJ hD x) q_ q_;exact this.mono (by simp only[yM];omega) (by simp only[yM];omega)
def Afs{n:Net}(hn:n.Fin):∀(l:List StepM) (m:MacM),(D7 n m l).2.length≤l.length*4294967296
 |[],m=>by simp[D7]
 |x::l,m=>by
  rw[D7];have h1:=Afs hn l (doT n m x).1;have h2:=Axf hn m x;simp only[zQ,yM];omega
def Aml(n:Net):MacOK n (newT n) 0 0:=by
 refine⟨by simp[newT],by simp[newT],by simp[newT],λt ht=>?_,λl hl=>?_,by simp[newT],by simp[newT],λi=>by simp[newT]⟩
 ·have:t=[]:=(List.mem_replicate.1 ht).2;rw[this];exact Acb
 ·have:l=[]:=(List.mem_replicate.1 hl).2;rw[this];exact Adh
def Ar4(n:Net):List Bool:=List.replicate n.links.length true
def runT(n:Net)(l:List StepM):List SeenM×Int:=if okB n (Ar4 n)=true then ((D7 n (newT n) l).2,0) else ([],2)
structure ScriptOK(l:List StepM):Prop where
 few:l.length≤200
 bytes:∀x∈l,x.bytes.length≤2000
attribute [local irreducible] Go.Sy.G Go.Sy.DR
set_option maxRecDepth 100000
set_option maxHeartbeats 4000000
def runO(n:Net)(m:MacM)(d:Bool)(l:List SeenM):Obs:=[(0,.box (Um n 1 m.now m.injected m.drops)),(1,.box (Le n m.up d)),(2,.row 1 Qc m.tables),(3,.row 1 Q9 m.queues),(1000,.row 3 Ej l)]
def Awa(n:Net)(hn:n.Fin)(ck:n.Num)(l:List StepM)(hl:ScriptOK l):Sp 7 [Ao n,.sl 6 Du l] (.tup [.sl 3 Ej (runT n l).1,Aa (runT n l).2]):=cT F7 ntmps7 λF hF=>by
 have aa:=runT.eq_1 n l;generalize runT n l=res at *;have hlen:=hl.few;cases ax:okB n (Ar4 n)
 ·rw[zD (by rw[ax];simp)]at aa;subst aa;have q1:=Afm n hn ax
  conv=>whnf
  refine c0 q1 F15 ?_;refine oT ?_;refine An 4 3 Ej E ?_;exact dN
 ·rw[zE ax]at aa;subst aa;have q1:=Awb n hn ax;have eh:=Aml n;generalize newT n=m0 at *
  conv=>whnf
  refine Ah (Ad [(0,800),(1,801),(2,802),(3,803)] E F15 q1 E Y E ⟨.inr E,.inr E,.inr E,.inr E,Y⟩) E E ?_;refine oF ?_;refine Ce 8 1000 3 Ej E E ?_;refine A8 l.length (λj=>[(6,.ptr 0 0),(8,.osl 1000),(21,.sl 6 Du l),(22,Aa l.length),(23,Aa j)]) (λj=>runO n (D7 n m0 (l.take j)).1 (runD n m0 false (l.take j)) (D7 n m0 (l.take j)).2) [(0,800),(1,801),(2,802),(3,803)] uU ?_;intro j hj;refine oO ?_;constructor<;>intro h
  ·have ab:j<l.length:=qA h;have ai:(j:Int).toNat<l.length:=by simpa using ab
   obtain ⟨x,gd⟩:∃x,l[j]=x:=⟨_,rfl⟩
   have e1:l[(j:Int).toNat]'ai=x:=gd;have hs:=Ayr n m0 l j ab;have u6:=Ays n m0 false l j ab;rw[gd]at hs u6;have zs:=hl.bytes x (by rw[←gd];exact zJ ab);have p5:=Awi hn ck (l.take j) eh (wB _) (wB _);have er:(l.take j).length=j:=by rw[zY];omega
   have hjf:=Afs hn (l.take j) m0;rw[er]at p5 hjf;have q5:=As3 n hn ck (D7 n m0 (l.take j)).1 (runD n m0 false (l.take j)) _ _ p5 q_ q_ q_ x q_;have fy:=Axf hn (D7 n m0 (l.take j)).1 x;clear h;refine oO ?_;refine⟨E,by omega,ai,?_⟩;rw[e1]
   conv=>whnf
   refine Ah (Ad [(4,30)] E F16 q5 E ⟨E,E,E,E,Y⟩ E ⟨.inl E,.inl E,.inl E,.inl E,.inr E,Y⟩) E E ?_;refine oO ?_;refine Ah (Ag Γ.toTy 35 E E E E E (.row E) .sl y_ q_ q_) E E ?_;refine gE ?_;have g1:(D7 n m0 (l.take (j+1))).1=(doT n (D7 n m0 (l.take j)).1 x).1:=by rw[hs]
   have g2:(D7 n m0 (l.take (j+1))).2=(D7 n m0 (l.take j)).2++(doT n (D7 n m0 (l.take j)).1 x).2:=by rw[hs]
   refine Az [(1,30),(1000,35)] ab ⟨⟨E,E,E,E,E,E,E,E,E,E,Y⟩,?_,E,E⟩;dsimp only;rw[g1,g2,u6];exact⟨.inl E,E,.inl E,E,.inl E,E,.inl E,E,.inl E,E,Y⟩
  ·have jc:j=l.length:=qB h;subst jc;rw[yN];clear h;refine oO ?_;refine Aj 1000 E ?_;exact dN
end Go.Sy.YtolnneiipmfgaaaGreatDoor
namespace Go.Sy.YtolnneiipmfgaaaGreatDoor
open Go.Proofs Go.Proofs.Tryz
def Ah7{P:Hop→Prop}{S:Srch}(h:∀f∈S.list,P f.hop)(d k:Int){x:Hop}(hx:P x)(a:Int):∀f∈(meetT S d k x a).list,P f.hop:=by
 rw[meetT];split
 ·exact h
 ·rw[Om];split<;>(intro f hf;rcases yL.1 hf with hf|hf;exact h f hf;rw[yA]at hf;subst hf;exact hx)
def Ah8{P:Hop→Prop}{k i:Int}:∀{l:List Hop} {S:Srch},(∀f∈S.list,P f.hop)→(∀h∈l,P h)→∀f∈(ext1 S k i l).list,P f.hop
 |[],S,h,_=>h
 |x::l,S,h,hl=>Ah8 (l:=l) (Ah7 h x.domain k (hl x y_) i) (λy hy=>hl y (by simp[hy]))
def Arl{P:Hop→Prop}{i:Int}:∀{l:List Lead} {S:Srch},(∀f∈S.list,P f.hop)→(∀q∈l,P ⟨3,0,q.domain,q.addr⟩)→∀f∈(ext2 S i l).list,P f.hop
 |[],S,h,_=>h
 |x::l,S,h,hl=>Arl (l:=l) (Ah7 h x.domain 1 (hl x y_) i) (λy hy=>hl y (by simp[hy]))
def A7x{P:Hop→Prop}{n:Net}(h1:∀d,∀x∈Do n d,P x)(h2:∀d,∀q∈routesT n d,P ⟨3,0,q.domain,q.addr⟩){S:Srch}(h:∀f∈S.list,P f.hop)(i:Int):∀f∈(extT n S i).list,P f.hop:=by
 rw[extT];split
 ·exact Arl (Ah8 h (h1 _)) (h2 _)
 ·exact Ah8 h (h1 _)
def A08{P:Hop→Prop}{n:Net}{dev:Int}(h:∀d,P ⟨0,0,d,0⟩)(l:List Int):∀f∈(O3 n dev l).list,P f.hop:=by
 suffices hs:∀(l:List Int) (S:Srch),(∀f∈S.list,P f.hop)→∀f∈(l.foldl (J2 n dev) S).list,P f.hop from hs l _ (λf hf=>by simp[Km]at hf)
 intro l
 induction l with
 |nil=>exact λS h=>h
 |cons x l ih=>
  intro S hS;refine ih _ ?_;rw[J2];split
  ·exact hS
  ·exact Ah7 hS _ _ (h _) _
def Ah6{P:Hop→Prop}{n:Net}(h1:∀d,∀x∈Do n d,P x)(h2:∀d,∀q∈routesT n d,P ⟨3,0,q.domain,q.addr⟩){to:Int}:∀(k:Nat) (S:Srch) (i:Nat),S.OK n→Backs S.list→(∀f∈S.list,P f.hop)→i≤S.list.length→(Es n to k S i).2=true →
  ∀h∈(Es n to k S i).1,P h
 |0,S,i,_,_,_,_,h=>by cases h
 |k+1,S,i,ok,bk,hk,hi,h=>by
  rw[Es]at h⊢;split at h
  ·rename_i ab;rw[zE ab];split at h
   ·rename_i bx;rw[zE bx];exact(Ad7 bk hk ab).1
   ·rename_i bx;rw[zD bx];have yb:=bk.ext (n:=n) (i:=i) ⟨by omega,by omega⟩;exact Ah6 h1 h2 k _ _ (ok.ext i) yb.1 (A7x h1 h2 hk i) q_ h
  ·cases h
def A7w{P:Hop→Prop}{n:Net}(h1:∀d,∀x∈Do n d,P x)(h2:∀d,∀q∈routesT n d,P ⟨3,0,q.domain,q.addr⟩)(h3:∀d,P ⟨0,0,d,0⟩){from_ to:Int}(h:(wayT n from_ to).2=true):∀x∈(wayT n from_ to).1,P x:=by
 rw[wayT]at h⊢;split at h
 ·rename_i hc;rw[zE hc];have hp:=K0 hc.1;have w5:(beginT n from_).OK n:=by
   rw[beginT,Af hp.2];exact W9 λv hv h0=>Kg hc.2.2.2 hp.2 hv h0
  have w6:Backs (beginT n from_).list:=by rw[beginT];exact T7 _ _ _
  exact Ah6 h1 h2 _ _ _ w5 w6 (by rw[beginT];exact A08 h3 _) (xQ _) h
 ·cases h
def LinkOK(n:Net)(h:Hop):Prop:=h.kind=1→(0≤h.port∧h.port.toNat<n.ports.length)∧0≤(nth n.ports h.port).link∧(nth n.ports h.port).link.toNat<n.links.length
def Apc{n:Net}{i:Int}(h:0≤Bb n i):(0≤i∧i.toNat<n.ports.length)∧0≤(nth n.ports i).link∧(nth n.ports i).link.toNat<n.links.length:=by
 have ht:=Ek h;unfold Bb at h;split at h
 ·rename_i hc;have e1:nth n.ports i=n.ports[i.toNat]:=Af ht.1.2;rw[e1]at hc⊢;exact⟨ht.1,hc.2.1,(E7 hc.2.2 ht.1.2 hc.2.1).1⟩
 ·omega
def way_links{n:Net}{from_ to:Int}(h:(wayT n from_ to).2=true):∀x∈(wayT n from_ to).1,LinkOK n x:=by
 refine A7w (λd x hx=>?_) (λd q _ e=>?_) (λd e=>?_) h
 ·rw[Do]at hx;split at hx
  ·rcases yL.1 hx with hx|hx
   ·obtain ⟨p,_,hp⟩:=wE.1 hx;rw[linkHop]at hp;split at hp
    ·rename_i hc;simp only[Option.some.injEq]at hp;subst hp;intro _;refine Apc ?_;rw[linkDomT]at hc;split at hc
     ·rename_i hd;rw[crossT]at hd;split at hd
      ·rename_i lh;exact lh.1
      ·cases hd
     ·cases hc
    ·cases hp
   ·obtain ⟨p,hp,rfl⟩:=yS.1 hx;intro e;simp[Kv]at e
  ·cases hx
 ·simp at e
 ·simp at e
def Mq:Nat:=2203318222849
def stepB(n:Net)(l:List Hop)(i:Nat)(h:Hop):Bool:=Ai h.domain n.domains.length&&!(decide (h.kind=3)&&(decide (i=0)||decide ((nth n.domains (nth l ((i:Int)-1)).domain).irb<0)))
def Yr(l:List Hop):Int:=Br (λh=>decide (h.kind=3)) l
def Mo(a:Nat):PacketM:=⟨0,0,64,17,1,a,[]⟩
def irbOf(n:Net)(l:List Hop):Irb:=nth n.irbs (nth n.domains (nth l (Yr l-1)).domain).irb
def frameW(n:Net)(l:List Hop):FrameM:=if 0<Yr l then ⟨hostN (irbOf n l).addr,Mq,2048,(ipPutT (Mo (nth l (Yr l)).addr.toNat)).1⟩ else ⟨281474976710655,Mq,34997,[]⟩
def wayBytes(n:Net)(l:List Hop):List UInt8×Int:=if Ac n=true∧l≠[]∧H7 (stepB n l) l=true then (Lu (frameW n l),0) else ([],2)
def injectW(n:Net)(from_:Int)(l:List Hop):StepM :=
 ⟨1,from_,0,0,if (nth n.domains (nth l 0).domain).vlan≠(nth n.ports from_).native then Lu (tagT (takeF (wayBytes n l).1).1 (nth n.domains (nth l 0).domain).vlan).1 else (wayBytes n l).1,[]⟩
structure GoM where
 m:MacM
 d:Bool
 out:List StepM
def doW(n:Net)(s:GoM)(x:StepM):GoM:=⟨(doT n s.m x).1,doD n s.m s.d x,s.out++[x]⟩
def pickX(m:MacM)(d:Int):StepM:=⟨2,0,d,if (((if Ai d m.queues.length then queueL m d else []).length:Int)-1)<0 then 0 else ((if Ai d m.queues.length then queueL m d else []).length:Int)-1,[],[]⟩
def Vk(n:Net)(s:GoM)(d:Int):GoM:=doW n s (pickX s.m d)
def upW(n:Net)(h:Hop):List Bool:=(List.replicate n.links.length false).set (nth n.ports h.port).link.toNat true
def linkW(n:Net)(s:GoM)(h:Hop):GoM:=if h.kind=1 then doW n s ⟨5,0,0,0,[],upW n h⟩ else s
def goW(n:Net)(from_:Int)(l:List Hop):Nat→GoM
 |0=>doW n ⟨newT n,false,[]⟩ (injectW n from_ l)
 |k+1=>Vk n (linkW n (goW n from_ l k) (nth l ((k+1:Nat):Int))) (nth l ((k:Nat):Int)).domain
def A0r(n:Net)(from_:Int)(l:List Hop):GoM:=Vk n (goW n from_ l (l.length-1)) (nth l ((l.length:Int)-1)).domain
def wscriptT(n:Net)(from_ to:Int):List StepM×Int :=
 if K1 n from_=true∧K1 n to=true∧from_≠to∧okB n (Ar4 n)=true then
  (if (wayT n from_ to).2=true then ((A0r n from_ (wayT n from_ to).1).out,0) else ([],31))
 else ([],2)
section
variable {n:Net} {up:List Bool} {ranks roots costs:List Int}
end
attribute [local irreducible] Go.Sy.G Go.Sy.DR
set_option maxRecDepth 100000
set_option maxHeartbeats 4000000
def Ayy(n:Net)(x y:Int)(h0:0≤x)(h1:x<n.devices.length)(h2:0≤y)(h3:y<n.devices.length)(h:nth (Cv n) x=nth (Cv n) y):x=y:=by
 have hl:=Jg n;rw[Af q_,Af q_]at h;by_cases nz:x.toNat=y.toNat
 ·omega
 ·exact yB h (Al4 n q_ q_ nz)
def Sc(m k:Nat):List Bool:=(List.replicate m false).set k true
def Aca{m k i:Nat}(hi:i<m):(Sc m k).getD i false=decide (i=k):=by
 rw[Bn (by simpa [Sc] using hi)];simp only[Sc,vH,tL];by_cases h:k=i
 ·simp[h]
 ·rw[zD h];simp;omega
def A6y(n:Net)(k:Nat)(hk:k<n.links.length)(h:okB n (Sc n.links.length k)=true)(i:Nat)(hi:i<n.links.length):(Ack n (Sc n.links.length k))[i]? = some (decide (i=k)):=by
 obtain ⟨hu,hr,aj⟩:=ok_iff.1 h;have S:=Qb h;obtain ⟨a,b,ha,hb,nu,tu,af,ee,rq⟩:=Ap0 hr hi;have l5:=Aw6 S hr aj hi ha hb nu tu ee rq;rw[Aca hi]at l5;simp only[Ack,A0i,vN,zU hi,uE,Option.some.injEq];by_cases hik:i=k
 ·subst hik;rw[zL rfl]at l5⊢;refine l5.2 ⟨E,?_⟩;have nn:(Sc n.links.length i).getD i false=true:=by rw[Aca hi];simp
  have hop:=Aae hr hi ha hb ee nu nn;have hda:=Kr hr nu;have hdb:=Kr hr tu;have mz:=U1 S hr hop;have yc:∀(p:Nat),p<n.ports.length→(p=a∨p=b)→nth (Mc n (Sc n.links.length i)) (B7 n p)≠nth (Cv n) (B7 n p)→E9 n (Sc n.links.length i) (Cv n) (Mc n (Sc n.links.length i)) (Mg n (Sc n.links.length i)) (B7 n p)=p:=λp hp hpab hn=>by
   have hdp:=Kr hr hp;obtain ⟨q,j,e1,e2,e3,_⟩:=Alb S hr hdp.1 hdp.2 hn;obtain ⟨k',j9,h1,h2,h3,h4,_⟩:=Aci hr e1;rw[Aca j9]at h3;have o8:k'=i:=by simpa using h3
   subst o8;rw[Af (l:=n.links) (i:=(k':Int)) (by simpa using j9)]at h4;simp only[zZ]at h4;rw[ha,hb]at h4;rw[e3];have hqab:q=a∨q=b:=by omega
   rcases hpab with rfl|rfl<;>rcases hqab with rfl|rfl
   ·rfl
   ·exact yB e2.symm af
   ·exact yB e2 af
   ·rfl
  by_cases hra:nth (Mc n (Sc n.links.length i)) (B7 n a)=nth (Cv n) (B7 n a)
  ·refine .inr (yc b tu (.inr E) λhrb=>af (Ayy n _ _ hda.1 hda.2 hdb.1 hdb.2 ?_));rw[←hra,←hrb,mz]
  ·exact .inl (yc a nu (.inl E) hra)
 ·rw[zI hik]at l5⊢;cases hf:Am0 (Afu n (Sc n.links.length k)) n.links[i]
  ·rfl
  ·exact yB (l5.1 hf).1 y_
end Go.Sy.YtolnneiipmfgaaaGreatDoor
namespace Go.Sy.YtolnneiipmfgaaaGreatDoor
instance:Inhabited Vec:=⟨⟨0,0,0,0,0⟩⟩
section
variable {n:Net} {up:List Bool} {ranks roots costs:List Int}
end
open Go.Proofs Go.ChangeShapes Go.WideShapes Go.ChangeAt Go.RowKit
set_option maxRecDepth 100000
section
variable {H:Type} {enc:TypeId×Value→H} {W:World}
end
open Go.Proofs Go.Proofs.Tryz
def Th(n:Net)(of:List Int):Bool :=
 decide (of.length=n.ports.length)&&Ac n&&(List.range of.length).all λi=>if (nth n.ports (i:Int)).link<0 then decide (0≤nth of (i:Int))&&decide (nth of (i:Int)≤9) else decide (nth of (i:Int)=-1)
def Il(n:Net)(i:Int):List Int→List ByteArray→List ByteArray→List Int×Int
 |ow,d::ds,p::ps=>
  let at_:=Og n (Cg n d) p
  if at_<0 then (ow,31) else if 0≤(nth n.ports at_).link∨nth ow at_≠-1 then (ow,39) else Il n i (ow.set at_.toNat i) ds ps
 |ow,_,_=>(ow,0)
def Sx(n:Net)(L:List TenM):Nat→List Int→List TenM→List Int×Int×Int×Int
 |_,ow,[]=>(ow,0,0,0)
 |i,ow,t::r=>
  if Q2 t=false∨10≤i then ([],2,t.row,2) else if (L.take i).any (λx=>x.name==t.name)=true then ([],2,t.row,30)
  else if (Il n i ow t.devs t.ports).2≠0 then ([],2,t.row,(Il n i ow t.devs t.ports).2) else Sx n L (i+1) (Il n i ow t.devs t.ports).1 r
def Ah2(n:Net)(ow:List Int):Nat→List Port→Nat
 |i,[]=>i
 |i,p::r=>if p.link<0∧nth ow i=-1 then i else Ah2 n ow (i+1) r
def assignT(n:Net)(L:List TenM):List Int×Int×Int×Int :=
 if Ac n=false then ([],0,0,2) else
 let a:=Sx n L 0 (List.replicate n.ports.length (-1)) L
 if a.2.2.2≠0 then a else
 if Ah2 n a.1 0 n.ports<n.ports.length then ([],1,(nth n.ports (Ah2 n a.1 0 n.ports)).row,39) else (a.1,0,0,0)
def Tp(n:Net)(ow:List Int)(from_:Nat)(a:Int):Nat→List Int→Option Nat
 |_,[]=>none
 |to,b::r=>if ¬(a<0∨b<0∨a=b)∧(wayT n from_ to).2=true then some to else Tp n ow from_ a (to+1) r
def Vs(n:Net)(ow:List Int):Nat→List Int→Int×Int×Bool
 |_,[]=>(0,0,false)
 |from_,a::r=>match Tp n ow from_ a 0 ow with
  |some to=>(from_,to,true)
  |none=>Vs n ow (from_+1) r
def leaksT(n:Net)(ow:List Int):Int×Int×Bool:=if Th n ow=false then (0,0,false) else Vs n ow 0 ow
def Vd(w row e:Int):ReportM:=⟨3,w,row,e,0,0,[]⟩
def Ae8(n:Net)(a:List Int×Int×Int×Int):ReportM :=
 if a.2.2.2≠0 then Vd a.2.1 a.2.2.1 a.2.2.2 else if (leaksT n a.1).2.2=false then ⟨1,0,0,0,0,0,[]⟩
 else ⟨2,0,0,0,(leaksT n a.1).1,(leaksT n a.1).2.1,(wscriptT n (leaksT n a.1).1 (leaksT n a.1).2.1).1⟩
def verifyT(b c:List UInt8):ReportM :=
 if (netTextT b).2.2≠0 then Vd 1 (netTextT b).2.1 (netTextT b).2.2 else if (policyT c).2.2≠0 then Vd 2 (policyT c).2.1 (policyT c).2.2
 else Ae8 (netTextT b).1 (assignT (netTextT b).1 (policyT c).1)
def A2k(x y:StepM):Prop:=y.kind=x.kind∧y.port=x.port∧y.domain=x.domain∧y.bytes=x.bytes∧y.up.length=x.up.length
instance (x y:StepM):Decidable (A2k x y):=by unfold A2k;infer_instance
def A8c(l:List StepM)(x:StepM)(k:Nat):Prop:=∃h:k<l.length,A2k x l[k]∧0≤l[k].at_∧l[k].at_≤x.at_
instance (l:List StepM)(x:StepM)(k:Nat):Decidable (A8c l x k):=by unfold A8c;infer_instance
attribute [local irreducible] Go.Sy.G Go.Sy.DR
set_option maxHeartbeats 4000000
def ownAt(n:Net)(of:List Int)(i:Nat):Bool:=if (nth n.ports (i:Int)).link<0 then decide (0≤nth of (i:Int))&&decide (nth of (i:Int)≤9) else decide (nth of (i:Int)=-1)
def Atu(n:Net)(of:List Int):Th n of=(decide (of.length=n.ports.length)&&Ac n&&(List.range of.length).all (ownAt n of)):=rfl
def Ay0{k:Nat}{p:Nat→Bool}(h:∀i,i<k→p i=true):(List.range k).all p=true:=by
 rw[yV];intro i hi;exact h i (xC.1 hi)
def Ayz{k j:Nat}{p:Nat→Bool}(hj:j<k)(h:p j=false):(List.range k).all p=false:=by
 rw[Bool.eq_false_iff];intro ha;have:=yV.1 ha j (xC.2 hj);rw[h]at this;cases this
def Amd(n:Net)(hn:n.Fin)(of:List Int):Sp 26 [Ao n,.sl 1 Aa of] (Ab (Th n of)):=cT F26 ntmps26 λF hF=>by
 have aa:=Atu n of;generalize Th n of=res at *;have qr:=A0 n hn;have oc:=hn.ports;unfold Am at oc;generalize Ac n=nr at *;refine T ?_;constructor<;>intro h
 ·rw[zI (show ¬of.length=n.ports.length by simp at h;omega),yG,yG]at aa;subst aa;exact gB
 have hlen:of.length=n.ports.length:=by simp at h;omega
 rw[zL hlen,yF]at aa;refine gD qr F20 ?_;cases nr
 ·rw[yG]at aa;subst aa;exact gB
 rw[yF]at aa;refine T ?_;refine Bi of.length (λj=>∀i,i<j→ownAt n of i=true) (λj=>[(2,.ptr 2 0),(19,.sl 1 Aa of),(20,Aa of.length),(21,Aa j)]) (λ_=>[(2,.box (Da n))]) [] (λi hi=>yB hi (Nat.not_lt_zero i)) U ?_;intro j hj hI;refine T ?_;constructor<;>intro h
 ·have ab:j<of.length:=qA h;have ai:(j:Int).toNat<of.length:=by simpa using ab
  have lu:(j:Int).toNat<n.ports.length:=by rw[←hlen];exact ai
  have jy:=ownAt.eq_1 n of j;rw[Af lu,Af ai]at jy;obtain ⟨w,hw⟩:∃w,of[(j:Int).toNat]'ai=w:=⟨_,rfl⟩
  obtain ⟨p,hp⟩:∃p,n.ports[(j:Int).toNat]'lu=p:=⟨_,rfl⟩
  rw[hw,hp]at jy;have bad:ownAt n of j=false→res=false:=λhb=>by rw[aa];exact Ayz ab hb
  have good:ownAt n of j=true→∀i,i<j+1→ownAt n of i=true:=λhb i hi=>by
   by_cases he:i=j
   ·subst he;exact hb
   ·exact hI i q_
  generalize ownAt n of j=g at *;clear h;refine S ?_;refine⟨E,by omega,ai,?_⟩;rw[hw];refine S ?_;refine⟨E,by omega,lu,?_⟩;rw[hp];refine T ?_;constructor<;>intro h1
  ·have hl:=zO h1;rw[zD q_]at jy;refine T ?_;constructor<;>intro h2
   ·have hr:=bad (by rw[jy];simp at h2;simp;omega);subst hr;exact gB
   ·have hx:=good (by rw[jy];simp at h2;simp;omega);refine T ?_;refine Bc [] hI ab hx ?_;exact U
  ·have hl:=zT h1;rw[zE q_,←Bool.decide_and]at jy;refine T ?_;constructor<;>intro h2
   ·have hr:=bad (by rw[jy];exact zI (by have:=zO h2;omega));subst hr;exact gB
   refine T ?_;constructor<;>intro h3
   ·have hr:=bad (by rw[jy];exact zI (by have:=zO h3;omega));subst hr;exact gB
   have hx:=good (by rw[jy];exact zL (by have:=zT h2;have:=zT h3;omega));refine T ?_;refine Bc [] hI ab hx ?_;exact U
 ·have jc:j=of.length:=qB h;subst jc;have hr:res=true:=by rw[aa];exact Ay0 hI
  subst hr;exact gB
end Go.Sy.YtolnneiipmfgaaaGreatDoor
