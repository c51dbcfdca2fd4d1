/- Parts of a proof. -/
import Derived.Test.YticmobkdaneelaaGreatDoorYE14
set_option linter.all false
set_option linter.unusedVariables false
set_option linter.unusedSimpArgs false
set_option linter.deprecated false
namespace Go.Sy.YticmobkdaneelaaGreatDoor
open Go.Proofs Go.Proofs.Tryz
attribute [local irreducible] Go.Sy.G Go.Sy.DR
set_option maxRecDepth 100000
set_option maxHeartbeats 4000000
def Tg(l:List UInt8)(hl:l.length<2147483648):Sp 288 [.sl 1 Al l] (.sl 1 Al l):=cT F288 ntmps288 λF hF=>by
 conv=>whnf
 refine D1 E (.inl E) E E E .sl E E ?_;intro b hb;cases b
 ·refine oF ?_;refine Af (Ag Γ.toTy 7 E E E E E (.lit (e:=Al) (l:=[]) E E) .sl y_ (by simp;omega) (by simp;omega)) E E ?_;refine Aj 7 E ?_;exact gE
 ·have h0:l=[]:=zZ (hb rfl);subst h0;refine oT ?_;refine Au 2 1 Al E ?_;exact dN
def cut6(b:List UInt8)(k j:Nat)(hj:j<6)(h:k+6≤b.length):Hv (((b.drop k).take 6).take (j+1))=Hv (((b.drop k).take 6).take j)*256+(b[k+j]'q_).toNat:=by
 rw[Awh _ (by rw[yA,yO];omega)];congr 2;rw[wA,vT]
def Aoh(b:List UInt8)(k:Nat)(h:k+6≤b.length)(hb:b.length<100000):Sp 287 [.sl 1 Al b,Aa k] (.tup [A2 (Hv ((b.drop k).take 6)),Ab true]):=cT F287 ntmps287 λF hF=>by
 ((conv=>whnf);refine aF ?_;refine rg ?_;conv=>whnf)
 refine iW ?_
 (refine⟨λh=>False.elim (by simp at h;omega),λ_=>?_⟩;refine rg ?_;conv=>whnf)
 refine A5 6 (λj=>[(0,.sl 1 Al b),(1,Aa k),(6,A2 (Hv (((b.drop k).take 6).take j))),(17,Aa j)]) (λ_=>[]) [] kU ?_;intro j hj;have cw:=Oi _ (((b.drop k).take 6).take j) rfl;refine oO ?_;constructor<;>intro h2
 ·have y7:j<6:=by have:=zK h2;omega
  have hs:=cut6 b k j y7 h;have jy:(((b.drop k).take 6).take j).length=j:=by rw[yA,yA,yO];omega
  rw[jy]at cw;have h5:Hv (((b.drop k).take 6).take j)<1099511627776:=yV cw (by
   have:(256:Nat) ^ j≤256 ^ 5:=wY j_ q_;exact this)
  have dp:((k:Int)+(j:Int)).toNat<b.length:=by omega
  obtain ⟨c,hc⟩:∃c,b[((k:Int)+(j:Int)).toNat]'dp=c:=⟨_,rfl⟩
  have fc:b[k+j]'q_=c:=by rw[←hc];congr 1
  rw[fc]at hs;have hcat:=A4w _ c h5;refine oO ?_;refine⟨by decide,?_⟩
  conv=>whnf
  refine iW ?_;refine⟨E,by omega,dp,?_⟩;rw[hc]
  conv=>whnf
  refine iW ?_;exact Ay [] y7 ⟨⟨E,E,E,E,zH (λz:Int=>SV.val (.int .u64 z)) (hcat.trans (zH Int.ofNat hs.symm)).symm,E,E,E,Y⟩,Y,E,E⟩
 ·have y7:j=6:=by have:=zQ h2;omega
  subst y7;rw[List.take_take,Nat.min_self];exact gE
def Aib(a b:UInt8):Hv [a,b]=a.toNat*256+b.toNat:=by simp[Hv]
def Yt{b:List UInt8}{k:Nat}(h:k+2≤b.length):(b.drop k).take 2=[b[k]'q_,b[k+1]'q_]:=by
 rw[yP (by omega:k<b.length),yP (by omega:k+1<b.length)];rfl
def Ya(b:List UInt8)(hb:b.length<100000):Sp 214 [.sl 1 Al b] (.tup [Cu (takeF b).1,Aa (takeF b).2]):=cT F214 ntmps214 λF hF=>by
 have aa:=takeF.eq_1 b;generalize takeF b=res at *
 conv=>whnf
 constructor<;>intro h
 ·rw[zG (qA h)]at aa;subst aa;refine oO ?_;refine Ak 2 [A2 0,A2 0,Aa 0,.sl 1 Al []] E vL ?_;exact dN
 rw[zD (qB h)]at aa;have yx:14≤b.length:=qB h;refine oO ?_;constructor<;>intro h
 ·rw[zG (qA h)]at aa;subst aa;refine oO ?_;refine Ak 2 [A2 0,A2 0,Aa 0,.sl 1 Al []] E vL ?_;exact dN
 rw[zD (qB h)]at aa;have q1:=Aoh b 0 q_ hb;have q2:=Aoh b 6 q_ hb;rw[Yt q_,Aib]at aa;have hp:=I1 (b[12]'q_) (b[13]'q_);have ga:(b.drop 14).length=b.length-14:=yO;have hn:((b.length:Int)-14)=((b.length-14:Nat):Int):=by omega
 have tc:(b.drop 14).take (List.replicate (b.length-14) (0:UInt8)).length++(List.replicate (b.length-14) (0:UInt8)).drop (b.drop 14).length=b.drop 14:=by
  have e1:(List.replicate (b.length-14) (0:UInt8)).drop (b.length-14)=[]:=uQ y_;rw[uU,ga,e1,xC];exact xK q_
 have vw:(b.take b.length).drop 14=b.drop 14:=by rw[yN]
 have i12:(12:Int).toNat<b.length:=by show 12<_;omega
 have i13:(13:Int).toNat<b.length:=by show 13<_;omega
 refine oO ?_;refine c0 q1 F287 ?_;refine oO ?_;refine c0 q2 F287 ?_;refine gF ?_;refine Af (Ce Γ.toTy (d:=32) (n:=b.length-14) Al 0 E E E E E E (zH (λz=>SV.val (.int .i64 z)) hn) (zH (λz=>SV.val (.int .i64 z)) hn) q_ q_ E E E) E E ?_;refine oO ?_;refine Af (Dt (lo:=14) (hi:=b.length) Γ.toTy E E E E (.inr ⟨_,_,E,E⟩) (.inl ⟨E,E⟩) q_ (yG _)) E E ?_;rw[vw];refine oO ?_;refine Af (Aba Γ.toTy E E E E E .sl) E E ?_;rw[tc];refine Aj 32 E ?_;refine oO ?_;refine⟨E,by decide,i12,?_⟩
 conv=>whnf
 refine⟨by decide,?_⟩
 conv=>whnf
 refine⟨E,by decide,i13,?_⟩
 conv=>whnf
 refine kW ?_;refine At E (.cons (.cell E E E E) (.cons .tmp .nil)) ?_ E;rw[aa];show SV.tup [.agg [_,_,Aa ((b[12].toNat*256+b[13].toNat:Nat):Int),_],_]=_;rw[←hp];rfl
def Mz(m:Nat)(h:m<18446744073709551616):Sp 172 [A2 m] (Ab (Ex m)):=cT F172 ntmps172 λF hF=>by
 have e:=Ajd m h;refine fW ?_;refine At E (.cons .tmp .nil) ?_ E;exact zH Ab e.symm
def Vv(f:FrameM):Sp 212 [Cu f] (Ab (decide (f.typ=33024))):=cT F212 ntmps212 λF hF=>by
 conv=>whnf
 refine At E (.cons .tmp .nil) ?_ E;refine zH Ab ?_;rw[wN];simp;omega
def Tc(p:Port)(tg:Bool)(ef:Int)(hl:An p.tagged):Sp 216 [A4 p,Ab tg,Aa ef] (.tup [Aa (vlanT p tg ef).1,Ab (vlanT p tg ef).2]):=cT F216 ntmps216 λF hF=>by
 have aa:=vlanT.eq_1 p tg ef;generalize vlanT p tg ef=res at *;have q:=D7 p.tagged ef hl;have hz:decide (p.native≠0)=(p.native != 0):=by rw[wN];simp
 rw[hz]at aa;cases tg
 ·rw[zG (.inl rfl)]at aa;subst aa
  ((conv=>whnf);refine aT ?_;refine rg ?_;conv=>whnf)
  refine kW ?_;exact dN
 ((conv=>whnf);refine aF ?_;refine rg ?_;conv=>whnf)
 constructor<;>intro h
 ·rw[zG (.inr (by simpa using h))]at aa;subst aa;refine oO ?_;refine kW ?_;exact dN
 rw[zD (by simpa using h)]at aa;refine oO ?_;refine c0 q F38 ?_;cases hi:inB p.tagged ef
 ·rw[zD (by simp[hi])]at aa;subst aa;refine oF ?_;exact dN
 ·rw[zG hi]at aa;subst aa;refine oT ?_;exact dN
def A39(n:Nat)(h:n<9223372036854775808):bits .and .i64 (n:Int) 4095=((n%4096:Nat):Int):=by
 have:=K9 n 4095 h j_;rw[show ((4095:Nat):Int)=4095 from rfl]at this;rw[this];have h2:=uE n 12;rw[show 2^12-1=4095 from rfl,show 2^12=4096 from rfl]at h2;rw[h2]
def A35{b:List UInt8}(h:4≤b.length):b.take 2=[b[0]'q_,b[1]'q_]∧(b.drop 2).take 2=[b[2]'q_,b[3]'q_]:=by
 have h1:=Yt (b:=b) (k:=0) q_;have h2:=Yt (b:=b) (k:=2) q_;exact⟨h1,h2⟩
abbrev zF:List SV:=[A2 0,A2 0,Aa 0,.sl 1 Al []]
def Awm(f:FrameM)(hb:f.body.length<100000):Sp 215 [Cu f] (.tup [Cu (stripT f).1,Aa (stripT f).2.1,Aa (stripT f).2.2.1,Aa (stripT f).2.2.2]):=cT F215 ntmps215 λF hF=>by
 have aa:=stripT.eq_1 f;generalize stripT f=res at *;have q0:=Vv f;obtain ⟨d,s,t,b⟩:=f;dsimp only at aa hb q0
 conv=>whnf
 refine c0 q0 F212 ?_;by_cases ht:t=33024;rotate_left
 ·rw[zG ht]at aa;subst aa;rw[zL ht];refine oT ?_;refine Ak 2 zF E vL ?_;exact dN
 rw[zD (by simpa using ht)]at aa;rw[zO ht];refine oF ?_;constructor<;>intro h
 ·rw[zG (by have:=zK h;dsimp only at this;omega)]at aa;subst aa;refine oO ?_;refine Ak 2 zF E vL ?_;exact dN
 have h4:4≤b.length:=by have:=zQ h;dsimp only at this;omega
 rw[zD q_,(A35 h4).1,(A35 h4).2,Aib,Aib]at aa;have c1:=Tg (b.drop 4) (by rw[yO];omega);have vw:(b.take b.length).drop 4=b.drop 4:=by rw[yN]
 rw[←vw]at c1;have i0:(0:Int).toNat<b.length:=by show 0<_;omega
 have i1:(1:Int).toNat<b.length:=by show 1<_;omega
 have i2:(2:Int).toNat<b.length:=by show 2<_;omega
 have i3:(3:Int).toNat<b.length:=by show 3<_;omega
 have e0:b[(0:Int).toNat]'i0=b[0]'q_:=rfl;have e1:b[(1:Int).toNat]'i1=b[1]'q_:=rfl;have e2:b[(2:Int).toNat]'i2=b[2]'q_:=rfl;have e3:b[(3:Int).toNat]'i3=b[3]'q_:=rfl;have ig:=I1 (b[0]'q_) (b[1]'q_);have ec:=I1 (b[2]'q_) (b[3]'q_);have l0:=(b[0]'q_).toNat_lt;have l1:=(b[1]'q_).toNat_lt;obtain ⟨P,hP⟩:∃P,(b[0]'q_).toNat*256+(b[1]'q_).toNat=P:=⟨_,rfl⟩
 obtain ⟨Q,hQ⟩:∃Q,(b[2]'q_).toNat*256+(b[3]'q_).toNat=Q:=⟨_,rfl⟩
 have hPl:P<65536:=by omega
 rw[hP]at ig aa;rw[hQ]at ec aa;have ha:=A39 P q_;have hs:(P:Int).fdiv (2^(min (Int.toNat 12) IntKind.i64.bits))=((P/4096:Nat):Int):=Aux P 12 j_;refine oO ?_;refine⟨E,by decide,i0,?_⟩;rw[e0]
 conv=>whnf
 refine⟨by decide,?_⟩
 conv=>whnf
 refine⟨E,by decide,i1,?_⟩;rw[e1]
 conv=>whnf
 refine⟨z_,?_⟩;rw[ig]
 conv=>whnf
 refine⟨E,by decide,i2,?_⟩;rw[e2]
 conv=>whnf
 refine⟨by decide,?_⟩
 conv=>whnf
 refine⟨E,by decide,i3,?_⟩;rw[e3]
 conv=>whnf
 refine⟨z_,?_⟩;rw[ec]
 conv=>whnf
 refine⟨by decide,?_⟩;rw[ha,hs]
 conv=>whnf
 constructor<;>intro h
 ·rw[zG (.inl (qA h))]at aa;subst aa;refine oO ?_;refine Ak 2 zF E vL ?_;exact dN
 have h5:¬4094<P%4096:=qB h;refine oO ?_;constructor<;>intro h
 ·rw[zG (.inr (by have:(Q:Int)=33024:=(by simpa using h);omega))]at aa;subst aa;refine oO ?_;refine Ak 2 zF E vL ?_;exact dN
 have h6:¬Q=33024:=λe=>by rw[e]at h;simp at h
 rw[zD q_]at aa;subst aa;refine oO ?_;refine Bw (Dt (lo:=4) (hi:=b.length) Γ.toTy E E E E (.inr ⟨_,_,E,E⟩) (.inl ⟨E,E⟩) h4 (yG _)) z_ E ?_;refine oD ?_;refine cD c1 F288 ?_;refine gH ?_;refine At E (.cons (.cell E E E E) (.cons .tmp (.cons .tmp (.cons .tmp .nil)))) ?_ E;show SV.tup [.agg [_,_,_,.sl 1 Al (b.drop 4)],_,_,_]=SV.tup [.agg [_,_,_,.sl 1 Al ((b.take b.length).drop 4)],_,_,_];rw[vw];rfl
def Wa(f:FrameM)(h:FrameOK f):Sq 148 [Cu f] [] (.tup [.osl 0,Aa 0]) [(0,.row 1 Al (So f))]:=Acw f.dst f.src f.typ f.body h.dst h.src h.typ h.body
def A0d(f:FrameM)(v:Nat)(h:FrameOK f)(hv:v≤4094):Sp 147 [Cu f,Aa v,Aa 0] (.tup [Cu (tagT f v).1,Aa (tagT f v).2]):=by
 have aa:=tagT.eq_1 f v;have q0:=Vv f;obtain ⟨d,s,t,b⟩:=f;have h1:=h.typ;have h2:=h.body;dsimp only at aa q0 h1 h2;by_cases ht:t=33024
 ·rw[zG ht]at aa;rw[aa];rw[zO ht]at q0;refine El Γ hm 100 F147 ntmps147 E λF hF=>by
   conv=>whnf
   refine c0 q0 F212 ?_
   (refine oT ?_;refine bT ?_;refine bT ?_;refine bT ?_;refine bT ?_)
   refine Ak 6 zF E vL ?_;exact dN
 rw[zD ht]at aa;by_cases hb:1500<b.length
 ·rw[zG hb]at aa;rw[aa];rw[zL ht]at q0;refine El Γ hm 100 F147 ntmps147 E λF hF=>by
   conv=>whnf
   refine c0 q0 F212 ?_
   (refine oF ?_;refine bF ?_)
   (refine⟨λh=>False.elim (by simp at h;omega),λ_=>?_⟩;refine rg ?_;(conv=>whnf);refine aF ?_;refine rg ?_;(conv=>whnf);refine aF ?_;refine rg ?_;(conv=>whnf);refine aF ?_;refine rg ?_;(conv=>whnf);refine⟨λh=>False.elim (by simp at h;omega),λ_=>?_⟩;refine rg ?_;(conv=>whnf);refine⟨λ_=>?_,λh=>False.elim (by simp at h;omega)⟩;refine rg ?_;conv=>whnf)
   refine Ak 6 zF E vL ?_;exact dN
 rw[zD hb]at aa;rw[aa];exact Auu d s t v b ht h1 hv q_
def takeF_bad{b:List UInt8}(h:(takeF b).2≠0):(takeF b).1=noF:=by
 unfold takeF at h⊢;split
 ·rfl
 rw[zD (by assumption)]at h;split
 ·rfl
 rw[zD (by assumption)]at h;exact zY E h
def Ys{b:List UInt8}(h:(takeF b).2=0):FrameOK (takeF b).1:=by
 unfold takeF at h⊢;split
 ·rw[zG (by assumption)]at h;cases h
 rw[zD (by assumption)]at h;split
 ·rw[zG (by assumption)]at h;cases h
 rename_i h1 h2;have l1:((b.take 6).length)=6:=by rw[yA];omega
 have l2:(((b.drop 6).take 6).length)=6:=by rw[yA,yO];omega
 have l3:(((b.drop 12).take 2).length)=2:=by rw[yA,yO];omega
 have a1:=Oi _ _ l1;have a2:=Oi _ _ l2;have a3:=Oi _ _ l3;refine⟨a1,a2,?_,?_⟩
 ·dsimp only;exact Nat.le_of_lt_succ a3
 ·dsimp only;rw[yO];omega
def A0h{f:FrameM}(hf:FrameOK f)(h:(stripT f).2.2.2=0):FrameOK (stripT f).1:=by
 unfold stripT at h⊢;split
 ·rw[zG (by assumption)]at h;cases h
 rw[zD (by assumption)]at h;split
 ·rw[zG (by assumption)]at h;cases h
 rw[zD (by assumption)]at h;split
 ·rw[zG (by assumption)]at h;cases h
 rename_i h1 h2 h3;have l3:(((f.body.drop 2).take 2).length)=2:=by rw[yA,yO];omega
 have a3:=Oi _ _ l3;have hb:=hf.body;refine⟨hf.dst,hf.src,?_,?_⟩
 ·dsimp only;exact Nat.le_of_lt_succ a3
 ·dsimp only;rw[yO];omega
def strip_bad{f:FrameM}(h:(stripT f).2.2.2≠0):(stripT f).1=noF∧(stripT f).2.1=0:=by
 unfold stripT at h⊢;split
 ·exact⟨E,E⟩
 rw[zD (by assumption)]at h;split
 ·exact⟨E,E⟩
 rw[zD (by assumption)]at h;split
 ·exact⟨E,E⟩
 rw[zD (by assumption)]at h;exact zY E h
def Aps(n:Net)(hn:n.Fin)(port:Int)(b:List UInt8)(hb:b.length<100000):Sp 149 [Am n,Aa port,.sl 1 Al b] (.tup [Aa (enterT n port b).1,Cu (enterT n port b).2.1,Aa (enterT n port b).2.2]):=cT F149 ntmps149 λF hF=>by
 have aa:=enterT.eq_1 n port b;generalize enterT n port b=res at *;have hr:=A1 n hn;refine fW ?_;by_cases js:port<0
 ·rw[zG (.inl (by rw[Ah,zL q_];rfl))]at aa;subst aa
  (repeat (first|(refine⟨λh=>False.elim (by first|(exact zY h j_)|(simp at h;done)|(simp at h;omega)),λ_=>?_⟩;(refine fU ?_))|(refine⟨λ_=>?_,λh=>False.elim (by first|(exact zY h j_)|(simp at h;done)|(simp at h;omega))⟩;(refine fU ?_))))
  refine Ak 7 zF E vL ?_;exact dN
 refine⟨λh=>zY (zK h) js,λ_=>?_⟩;refine Bf 3 8 (Am n) E E E ?_;by_cases ve:(n.ports.length:Int)≤port
 ·rw[zG (.inl (by rw[Ah,zL (by omega:¬port<_),wR]))]at aa;subst aa;refine fU ?_
  (repeat (first|(refine⟨λh=>False.elim (by first|(exact zY h j_)|(simp at h;done)|(simp at h;omega)),λ_=>?_⟩;(refine fU ?_))|(refine⟨λ_=>?_,λh=>False.elim (by first|(exact zY h j_)|(simp at h;done)|(simp at h;omega))⟩;(refine fU ?_))))
  refine Ak 7 zF E vL ?_;exact dN
 have bh:Ah port n.ports.length=true:=by rw[Ah,zO q_,zO q_];rfl
 refine fU ?_
 (refine⟨λh=>False.elim (by first|(exact zY h j_)|(simp at h;done)|(simp at h;omega)),λ_=>?_⟩;(refine fU ?_))
 refine c0 hr F22 ?_;cases hbn:Ac n
 ·rw[zG (.inr hbn)]at aa;subst aa;refine fU ?_;refine Ak 7 zF E vL ?_;exact dN
 rw[zD (by simp[hbn,bh])]at aa;have gr:0≤port:=by omega
 have hk:port.toNat<n.ports.length:=by omega
 have e1:nth n.ports port=n.ports[port.toNat]:=Ai hk;have nn:=hn.tagged _ (zI hk);obtain ⟨p,hp⟩:∃p,n.ports[port.toNat]'hk=p:=⟨_,rfl⟩
 rw[hp]at e1 nn;have qt:=Ya b hb;have eh:=@Ys b;have iq:=@takeF_bad b;generalize takeF b=tf at *;obtain ⟨f,e⟩:=tf;dsimp only at aa qt eh iq;have qi:=Vv f;refine fU ?_;refine c0 qt F214 ?_;refine fU ?_;refine c0 qi F212 ?_;by_cases he:e=0;rotate_left
 ·rw[zG he]at aa;subst aa;obtain rfl:=iq he;refine fU ?_
  (refine⟨λh=>False.elim (by first|(exact zY h j_)|(simp at h;done)|(simp at h;omega)),λ_=>?_⟩;(refine fU ?_))
  (refine⟨λh=>False.elim (by first|(exact zY h j_)|(simp at h;done)|(simp at h;omega)),λ_=>?_⟩;(refine fU ?_))
  refine⟨E,gr,hk,?_⟩;rw[hp];refine fW ?_;refine c0 (Tc p false 0 nn) F216 ?_;refine fU ?_
  (repeat (first|(refine⟨λh=>False.elim (by first|(exact zY h j_)|(simp at h;done)|(simp at h;omega)),λ_=>?_⟩;(refine fU ?_))|(refine⟨λ_=>?_,λh=>False.elim (by first|(exact zY h j_)|(simp at h;done)|(simp at h;omega))⟩;(refine fU ?_))))
  refine Ak 7 zF E vL ?_;exact dN
 subst he;rw[zD j_]at aa;have j6:=eh rfl;by_cases ht:f.typ=33024
 ·rw[zG ht]at aa;rw[zO ht];have qs:=Awm f (by have:=j6.body;omega);have hso:=@A0h f j6;have hsb:=@strip_bad f;generalize stripT f=st at *;obtain ⟨g,ef,prio,e2⟩:=st;dsimp only at aa qs hso hsb;refine fU ?_;refine c0 qs F215 ?_;by_cases dr:e2=0;rotate_left
  ·rw[zG dr]at aa;subst aa;obtain ⟨rfl,rfl⟩:=hsb dr;refine fU ?_
   (refine⟨λh=>False.elim (by first|(exact zY h j_)|(simp at h;done)|(simp at h;omega)),λ_=>?_⟩;(refine fU ?_))
   refine⟨E,gr,hk,?_⟩;rw[hp];refine fW ?_;refine c0 (Tc p true 0 nn) F216 ?_;refine fU ?_
   (repeat (first|(refine⟨λh=>False.elim (by first|(exact zY h j_)|(simp at h;done)|(simp at h;omega)),λ_=>?_⟩;(refine fU ?_))|(refine⟨λ_=>?_,λh=>False.elim (by first|(exact zY h j_)|(simp at h;done)|(simp at h;omega))⟩;(refine fU ?_))))
   refine Ak 7 zF E vL ?_;exact dN
  subst dr;rw[zD j_]at aa;have hgo:=hso rfl;have hgs:=hgo.src;have qg:=Mz g.src q_;rw[Hs,e1]at aa;have qv:=Tc p true ef nn;have qd:=Kd n hn p.dev (vlanT p true ef).1;refine fU ?_;refine c0 qg F172 ?_;cases xl:Ex g.src;rotate_left
  ·rw[zG xl]at aa;subst aa;refine fU ?_;refine⟨E,gr,hk,?_⟩;rw[hp];refine fW ?_;refine c0 qv F216 ?_;refine fU ?_
   (repeat (first|(refine⟨λh=>False.elim (by first|(exact zY h j_)|(simp at h;done)|(simp at h;omega)),λ_=>?_⟩;(refine fU ?_))|(refine⟨λ_=>?_,λh=>False.elim (by first|(exact zY h j_)|(simp at h;done)|(simp at h;omega))⟩;(refine fU ?_))))
   refine Ak 7 zF E vL ?_;exact dN
  rw[zD (by simp[xl])]at aa;refine fU ?_;refine⟨E,gr,hk,?_⟩;rw[hp];refine fW ?_;refine c0 qv F216 ?_;generalize vlanT p true ef=vl at *;obtain ⟨vl,vok⟩:=vl;dsimp only at aa qd⊢;cases vok
  ·rw[zG rfl]at aa;subst aa;refine fU ?_;refine Ak 7 zF E vL ?_;exact dN
  rw[zD y_]at aa;subst aa;refine fU ?_;refine cD qd F102 ?_;refine fU ?_;refine⟨z_,?_⟩;refine fW ?_;exact dN
 ·rw[zD ht]at aa;rw[zL ht];have hgo:=j6;have hgs:=hgo.src;have qg:=Mz f.src q_;rw[Hs,e1]at aa;have qv:=Tc p false 0 nn;have qd:=Kd n hn p.dev (vlanT p false 0).1;refine fU ?_;refine c0 qg F172 ?_;cases xl:Ex f.src;rotate_left
  ·rw[zG xl]at aa;subst aa;refine fU ?_;refine⟨E,gr,hk,?_⟩;rw[hp];refine fW ?_;refine c0 qv F216 ?_;refine fU ?_
   (repeat (first|(refine⟨λh=>False.elim (by first|(exact zY h j_)|(simp at h;done)|(simp at h;omega)),λ_=>?_⟩;(refine fU ?_))|(refine⟨λ_=>?_,λh=>False.elim (by first|(exact zY h j_)|(simp at h;done)|(simp at h;omega))⟩;(refine fU ?_))))
   refine Ak 7 zF E vL ?_;exact dN
  rw[zD (by simp[xl])]at aa;refine fU ?_;refine⟨E,gr,hk,?_⟩;rw[hp];refine fW ?_;refine c0 qv F216 ?_;generalize vlanT p false 0=vl at *;obtain ⟨vl,vok⟩:=vl;dsimp only at aa qd⊢;cases vok
  ·rw[zG rfl]at aa;subst aa;refine fU ?_;refine Ak 7 zF E vL ?_;exact dN
  rw[zD y_]at aa;subst aa;refine fU ?_;refine cD qd F102 ?_;refine fU ?_;refine⟨z_,?_⟩;refine fW ?_;exact dN
def Cc{i:Int}{n:Nat}(h:Ah i n=true):0≤i∧i<n:=by simpa [Ah] using h
def Oq(i:Int)(n:Nat):Sp 299 [Aa i,Aa n] (Ab (Ah i n)):=cT F299 ntmps299 λF hF=>by
 conv=>whnf
 (repeat' (first|(refine⟨λh=>?_,λh=>?_⟩<;>(repeat (first|simp only[zJ]at h|simp only[zX]at h))<;>((refine oO ?_)))|(refine At rfl (.cons .tmp .nil) ?_ rfl)))
 all_goals (refine zH Ab ?_)
 all_goals grind [Ah]
def As8(n:Net)(f:FrameM)(h:FrameOK f)(v:Int):Sp 301 [Am n,Cu f,Aa v] (.tup [.sl 1 Al (So f),Aa 0]):=cT F301 ntmps301 λF hF=>by
 conv=>whnf
 refine Af (Ad [(0,55)] E F148 (Wa f h) E Y E ⟨.inr E,Y⟩) E E ?_;refine Aj 55 E ?_;exact gE
def tag_ok{f:FrameM}(hf:FrameOK f)(v:Nat)(_hv:v≤4094)(h:(tagT f v).2=0):FrameOK (tagT f v).1:=by
 unfold tagT at h⊢;split
 ·rw[zG (by assumption)]at h;cases h
 rw[zD (by assumption)]at h;split
 ·rw[zG (by assumption)]at h;cases h
 refine⟨hf.dst,hf.src,?_,?_⟩
 ·show (33024:Nat)≤65535;decide
 ·dsimp only;simp;omega
def Alc(n:Net)(f:FrameM)(h:FrameOK f)(v:Nat)(hv:v≤4094):Sp 300 [Am n,Cu f,Aa v] (.tup [.sl 1 Al (if (tagT f v).2≠0 then [] else So (tagT f v).1),Aa (if (tagT f v).2≠0 then (tagT f v).2 else 0)]):=by
 have q:=A0d f v h hv;have ho:=tag_ok h v hv;generalize tagT f v=t at *;obtain ⟨g,e⟩:=t;dsimp only at q ho⊢;refine El Γ hm 100 F300 ntmps300 E λF hF=>by
  conv=>whnf
  refine c0 q F147 ?_;refine oO ?_;by_cases he:e=0
  ·subst he
   (refine⟨λh=>False.elim (zY h j_),λ_=>?_⟩;refine rg ?_;conv=>whnf)
   refine Bf 8 4 (Cu g) E E E ?_;refine oO ?_;refine Af (Ad [(0,55)] E F148 (Wa g (ho E)) E Y E ⟨.inr E,Y⟩) E E ?_;refine Aj 55 E ?_;exact gE
  ·rw[zG he,zG he]
   (refine⟨λ_=>?_,λh=>False.elim (by simp at h;omega)⟩;refine rg ?_;conv=>whnf)
   refine Au 6 1 Al E ?_;exact dN
def At0{n:Net}(h:Ac n=true){i:Nat}(hi:i<n.domains.length):1≤n.domains[i].vlan∧n.domains[i].vlan≤4094:=by
 simp only[Ac,zE]at h;have hb:Ik (O1 n) n.domains=true:=h.1.1.1.1.1.1.1.2;have:=allB_iff.1 hb i hi;simp only[O1,zE,zJ]at this;omega
def A2t(n:Net)(hn:n.Fin)(port dom:Int)(f:FrameM)(h:FrameOK f):Sp 225 [Am n,Aa port,Aa dom,Cu f] (.tup [.sl 1 Al (leaveT n port dom f).1,Aa (leaveT n port dom f).2]):=cT F225 ntmps225 λF hF=>by
 have aa:=leaveT.eq_1 n port dom f;generalize leaveT n port dom f=res at *;have hr:=A1 n hn;have hpS:=Oq port n.ports.length;have hdS:=Oq dom n.domains.length
 conv=>whnf
 refine c0 hpS F299 ?_;cases bh:Ah port n.ports.length
 ·rw[zG (.inl bh)]at aa;subst aa
  (refine oT ?_;refine bT ?_;refine bT ?_)
  refine Au 8 1 Al E ?_;exact dN
 refine oF ?_;refine c0 hdS F299 ?_;cases ga:Ah dom n.domains.length
 ·rw[zG (.inr (.inl ga))]at aa;subst aa
  (refine oT ?_;refine bT ?_)
  refine Au 8 1 Al E ?_;exact dN
 refine oF ?_;refine c0 hr F22 ?_;cases hbn:Ac n
 ·rw[zG (.inr (.inr hbn))]at aa;subst aa;refine oT ?_;refine Au 8 1 Al E ?_;exact dN
 rw[zD (by simp[hbn,bh,ga])]at aa;have s9:=Cc bh;have l7:=Cc ga;have gr:0≤port:=s9.1;have p5:0≤dom:=l7.1;have hk:port.toNat<n.ports.length:=by omega
 have ck:dom.toNat<n.domains.length:=by omega
 have e1:nth n.ports port=n.ports[port.toNat]:=Ai hk;have e2:nth n.domains dom=n.domains[dom.toNat]:=Ai ck;have nn:=hn.tagged _ (zI hk);have hv:=At0 hbn ck;obtain ⟨p,hp⟩:∃p,n.ports[port.toNat]'hk=p:=⟨_,rfl⟩
 obtain ⟨d,hd⟩:∃d,n.domains[dom.toNat]'ck=d:=⟨_,rfl⟩
 rw[hp]at e1 nn;rw[hd]at e2 hv;rw[e1,e2]at aa;have qm:=Zi p d.vlan nn;refine oF ?_;refine⟨E,gr,hk,E,p5,ck,?_⟩;rw[hp,hd]
 conv=>whnf
 refine kW ?_;constructor<;>intro h1
 ·rw[zG (.inl (by simpa using h1))]at aa;subst aa;refine oT ?_;refine Au 8 1 Al E ?_;exact dN
 refine Bf 10 7 (A4 p) E E E ?_;refine oO ?_;refine c0 qm F106 ?_;cases dt:Dl p d.vlan
 ·rw[zG (.inr dt)]at aa;subst aa;refine oT ?_;refine Au 8 1 Al E ?_;exact dN
 rw[zD (by simp at h1;simp[dt,h1])]at aa;have qt:=Vv f;by_cases ht:f.typ=33024
 ·rw[zG ht]at aa;subst aa;rw[zO ht]at qt;refine oF ?_;refine c0 qt F212 ?_;refine oT ?_;refine Au 8 1 Al E ?_;exact dN
 rw[zD ht]at aa;rw[zL ht]at qt;refine oF ?_;refine c0 qt F212 ?_;refine oF ?_;constructor<;>intro h2
 ·rw[zG (by simpa using h2)]at aa;subst aa;refine oO ?_;refine D8 ⟨⟨_,_,F301⟩,As8 n f h d.vlan⟩ E E E E E E ?_;exact gE
 rw[zD (by simpa using h2)]at aa;refine oO ?_;have y8:(d.vlan.toNat:Int)=d.vlan:=by omega
 have qg:=Alc n f h d.vlan.toNat q_;rw[y8]at qg;refine D8 ⟨⟨_,_,F300⟩,qg⟩ E E E E E E ?_;refine oO ?_;by_cases he:(tagT f d.vlan).2=0
 ·rw[zD (by simpa using he)]at aa;subst aa;rw[zD (by simpa using he),zD (by simpa using he)];exact dN
 ·rw[zG he]at aa;subst aa;rw[zG he,zG he];exact dN
def inB_mem{l:List Int}{x:Int}:inB l x=true↔x∈l:=by
 simp[inB]
def As6(n:Net)(hn:n.Fin)(port:Int)(b:List UInt8)(hb:b.length<100000):Sp 229 [Am n,Aa port,.sl 1 Al b] (.tup [Aa (linkT n port b).1,Aa (linkT n port b).2.1,Cu (linkT n port b).2.2.1,Aa (linkT n port b).2.2.2]):=cT F229 ntmps229 λF hF=>by
 have aa:=linkT.eq_1 n port b;generalize linkT n port b=res at *;have qo:=Zl n hn port;have qe:=Aps n hn (C5 n port) b hb;generalize C5 n port=o at *
 conv=>whnf
 refine c0 qo F305 ?_;refine oO ?_;constructor<;>intro h1
 ·rw[zG (by simpa using h1)]at aa;subst aa;refine oO ?_;refine Ak 8 zF E vL ?_;exact dN
 rw[zD (by simpa using h1)]at aa;refine oO ?_;refine c0 qe F149 ?_;generalize enterT n o b=en at *;obtain ⟨x1,g,x2⟩:=en;subst aa;refine oO ?_;refine kW ?_;exact dN
end Go.Sy.YticmobkdaneelaaGreatDoor
namespace Go.Sy.YticmobkdaneelaaGreatDoor
open Go.Proofs Go.Proofs.Tryz
def O3(l:List Nat):(Dd l).length=2*l.length:=by
 induction l with
 |nil=>rfl
 |cons a l ih=>simp only[Dd,vI,zW,yL,xM]at ih⊢;omega
def Li(l:List Nat)(n:Nat):Dd (l++[n])=Dd l++[UInt8.ofNat (n/256),UInt8.ofNat n]:=by simp[Dd]
def Qr(b:List UInt8)(k m:Nat):numAt b k m<256^m:=by
 have h:=Oi _ ((b.drop k).take m) rfl;have h2:((b.drop k).take m).length≤m:=by rw[yA];omega
 exact yV h (wY j_ h2)
def Xw{b:List UInt8}{k:Nat}(h:k+2≤b.length):numAt b k 2=(b[k]'q_).toNat*256+(b[k+1]'q_).toNat:=by
 rw[numAt,Yt h,Aib]
def Al9{b:List UInt8}{k:Nat}(h:k<b.length):bAt b k=b[k]:=Alg h
def A0b{b:List UInt8}{k:Nat}(h:k+3≤b.length):(b.drop k).take 3=[b[k]'q_,b[k+1]'q_,b[k+2]'q_]:=by
 rw[yP q_,yP (i:=k+1) q_,yP (i:=k+2) q_];rfl
def A0a{b:List UInt8}{k:Nat}(h:k+4≤b.length):(b.drop k).take 4=[b[k]'q_,b[k+1]'q_,b[k+2]'q_,b[k+3]'q_]:=by
 rw[yP q_,yP (i:=k+1) q_,yP (i:=k+2) q_,yP (i:=k+3) q_];rfl
def numAt3{b:List UInt8}{k:Nat}(h:k+3≤b.length):numAt b k 3=((b[k]'q_).toNat*256+(b[k+1]'q_).toNat)*256+(b[k+2]'q_).toNat:=by
 rw[numAt,A0b h];simp[Hv]
def Asq{b:List UInt8}{k:Nat}(h:k+4≤b.length):numAt b k 4=numAt b k 2*65536+numAt b (k+2) 2:=by
 have e:b[k+2+1]'q_=b[k+3]'q_:=rfl;rw[numAt,A0a h,Xw q_,Xw q_,e];simp[Hv];omega
def Hh(f:FrameM):(So f).length=14+f.body.length:=by
 simp[So,frame,Cv];omega
def Ji(p:PacketM)(s:Nat):(Hq p s).length=20:=by rw[Hq,O3];rfl
def J1(p:PacketM):(Jj p).length=20+p.body.length:=by rw[Jj,zW,Ji]
def T6(s d:Nat)(b:List UInt8):(Adf s d b).length=8+b.length:=by rw[Adf,zW,O3];rfl
def Hr(v:Nat):(Km v).length=8:=rfl
def Hb:FrameOK noF:=⟨by decide,by decide,by decide,by decide⟩
def U3(ip:Nat)(h:ip<4294967296):D5 ip<281474976710656:=by rw[D5,zU];omega
def Ahn(n:Net)(port dom:Int)(f:FrameM)(hf:FrameOK f):(leaveT n port dom f).1.length≤1518:=by
 have h4:=hf.body;unfold leaveT;split
 ·simp
 split
 ·simp
 split
 ·simp
 split
 ·rw[Hh];omega
 split
 ·simp
 ·rw[Hh];rename_i h;have h2:(tagT f (nth n.domains dom).vlan).2=0:=Classical.byContradiction h;unfold tagT at h2⊢;split
  ·rw[zG (by assumption)]at h2;cases h2
  rw[zD (by assumption)]at h2;split
  ·rw[zG (by assumption)]at h2;cases h2
  ·dsimp only;simp;omega
def X4{b:List UInt8}(h:(ipTakeT b).2=0):PacketOK (ipTakeT b).1∧(ipTakeT b).1.body.length+20≤b.length:=by
 unfold ipTakeT at h⊢;split
 ·rw[zG (by assumption)]at h;cases h
 rw[zD (by assumption)]at h;split
 ·rw[zG (by assumption)]at h;cases h
 rw[zD (by assumption)]at h;split
 ·rw[zG (by assumption)]at h;cases h
 rw[zD (by assumption)]at h;split
 ·rw[zG (by assumption)]at h;cases h
 rw[zD (by assumption)]at h;split
 ·rw[zG (by assumption)]at h;cases h
 have l1:=(bAt b 1).toNat_lt;have l8:=(bAt b 8).toNat_lt;have l9:=(bAt b 9).toNat_lt;have n4:=Qr b 4 2;have y9:=Qr b 12 4;have za:=Qr b 16 4;refine⟨⟨?_,?_,?_,?_,?_,?_⟩,?_⟩
 ·show (bAt b 1).toNat≤255;omega
 ·show numAt b 4 2≤65535;omega
 ·show (bAt b 8).toNat≤255;omega
 ·show (bAt b 9).toNat≤255;omega
 ·exact y9
 ·exact za
 ·show ((b.take (numAt b 2 2)).drop 20).length+20≤b.length;rw[yO,yA];omega
def A60{b:List UInt8}(h:(ipTakeT b).2≠0):(ipTakeT b).1=noP:=by
 unfold ipTakeT at h⊢;split
 ·rfl
 rw[zD (by assumption)]at h;split
 ·rfl
 rw[zD (by assumption)]at h;split
 ·rfl
 rw[zD (by assumption)]at h;split
 ·rfl
 rw[zD (by assumption)]at h;split
 ·rfl
 rw[zD (by assumption)]at h;exact zY E h
def Asr:PacketOK noP:=⟨by decide,by decide,by decide,by decide,by decide,by decide⟩
def Xl:∀(l:List Nat) (j:Nat),j≤l.length→(∀n∈l,n<4294967296)→Mb (Dd l) j=((l.take j).map (·%65536)).sum
 |l,0,_,_=>by simp[Mb]
 |l,j+1,h,hl=>by
  have ih:=Xl l j q_ hl;have hj:j<l.length:=by omega
  have e1:(Dd l).getD (2*j) 0=UInt8.ofNat (l[j]/256)∧(Dd l).getD (2*j+1) 0=UInt8.ofNat l[j]:=by
   clear ih hl
   induction l generalizing j with
   |nil=>simp at hj
   |cons a l td=>
    cases j with
    |zero=>simp[Dd]
    |succ j=>
     have:=td j (by simpa using h) (by simpa using hj);rw[Dd,vI,show 2*(j+1)+1=(2*j+1)+1+1 by omega,show 2*(j+1)=2*j+1+1 by omega];simpa [Dd] using this
  rw[Mb,ih,e1.1,e1.2,yD hj,wU,List.sum_append];have hx:=hl l[j] (zI hj);generalize l[j]=x at *;simp only[xV,vG,List.sum_cons,List.sum_nil,Eg];omega
def Ab1{p:PacketM}(hp:PacketOK p)(hb:p.body.length≤1480)(s:Nat)(hs:s≤65535):∀n∈[17664+p.tos,20+p.body.length,p.id,0,p.ttl*256+p.proto,s,p.src/65536,p.src,p.dst/65536,p.dst],n<4294967296:=by
 have h1:=hp.tos;have h2:=hp.proto;have h3:=hp.ttl;have h4:=hp.id;have h5:=hp.src;have h6:=hp.dst;intro n hn;simp only[yH,xX,vZ]at hn;rcases hn with rfl|rfl|rfl|rfl|rfl|rfl|rfl|rfl|rfl|rfl<;>omega
def Atf(p:PacketM)(s:Nat):((Hq p 0).set 10 (UInt8.ofNat (s/256))).set 11 (UInt8.ofNat s)=Hq p s:=by
 simp only[Hq,Dd,vI,List.flatMap_nil,xS,wC,tM,uD]
def Azr(a b v:Nat)(f:FrameM)(ha:a<4294967296)(hb:b<4294967296):PacketOK (Kx a b v f):=⟨vA _,vA _,by show (64:Nat)≤255;decide,by show (17:Nat)≤255;decide,ha,hb⟩
def Mc(a b v:Nat)(f:FrameM):(Kx a b v f).body.length=30+f.body.length:=by
 simp only[Kx,T6,zW,Hr,Hh];omega
def Aj8(a b:Nat)(v:Int)(f:FrameM):(wrapT a b v f).1.length≤1514:=by
 unfold wrapT;split
 ·simp
 split
 ·simp
 split
 ·simp
 ·simp only[frame,zW,Cv,J1,Mc,yL,xM];omega
def Ak9(n:Net)(dom peer:Int)(f:FrameM):(meshT n dom peer f).1.length≤1514:=by
 unfold meshT;split
 ·simp
 split
 ·simp
 ·exact Aj8 _ _ _ _
def A4o{b:List UInt8}:(udpTakeT b).2.2.1.length≤b.length:=by
 unfold udpTakeT
 repeat' split
 all_goals first|(simp;done)|(simp only[yO,yA];omega)
def vniT_body{b:List UInt8}:(vniT b).2.1.length≤b.length:=by
 unfold vniT
 repeat' split
 all_goals first|(simp;done)|(simp only[yO];omega)
def Aa2(b:List UInt8):PacketOK (outerT b).1∧(outerT b).1.body.length≤b.length:=by
 unfold outerT;split
 ·exact⟨Asr,by simp[noP]⟩
 split
 ·exact⟨Asr,by simp[noP]⟩
 split
 ·exact⟨Asr,by simp[noP]⟩
 ·rename_i h1 h2 h3;have h4:(takeF b).2=0:=Classical.byContradiction h1;have h5:(ipTakeT (takeF b).1.body).2=0:=Classical.byContradiction h3;obtain ⟨h6,h7⟩:=X4 h5;refine⟨h6,?_⟩;have h8:(takeF b).1.body.length≤b.length:=by
   unfold takeF
   repeat' split
   all_goals simp[noF]
  dsimp only;omega
def Ai6(b:List UInt8):FrameOK (L3 b).2.1∧0≤(L3 b).1:=by
 unfold L3
 repeat' split
 all_goals first|exact⟨Hb,xU _⟩|skip
 rename_i h1 h2 h3 h4 h5;refine⟨Ys (Classical.byContradiction h4),?_⟩;show 0≤(vniT (udpTakeT b).2.2.1).1;unfold vniT
 repeat' split
 all_goals omega
def Aed(b:List UInt8):(Ch b).1<4294967296∧(Ch b).2.1<4294967296∧0≤(Ch b).2.2.1∧FrameOK (Ch b).2.2.2.1:=by
 unfold Ch;split
 ·exact⟨Nat.zero_lt_succ _,Nat.zero_lt_succ _,xU _,Hb⟩
 split
 ·exact⟨Nat.zero_lt_succ _,Nat.zero_lt_succ _,xU _,Hb⟩
 ·exact⟨(Aa2 b).1.src,(Aa2 b).1.dst,(Ai6 _).2,(Ai6 _).1⟩
def Ajl(n:Net)(port:Int)(f:FrameM)(hf:FrameOK f)(tg:Bool)(ef:Int):FrameOK (Hs n port f tg ef).2.1:=by
 unfold Hs;split
 ·exact Hb
 split
 ·exact Hb
 ·exact hf
def Abf(n:Net)(port:Int)(b:List UInt8):FrameOK (enterT n port b).2.1:=by
 unfold enterT;split
 ·exact Hb
 split
 ·exact Hb
 rename_i h1 h2;have h3:=Ys (Classical.byContradiction h2);split
 ·split
  ·exact Hb
  ·rename_i h5;exact Ajl _ _ _ (A0h h3 (Classical.byContradiction h5)) _ _
 ·exact Ajl _ _ _ h3 _ _
def Aos(n:Net)(port:Int)(b:List UInt8):FrameOK (linkT n port b).2.2.1:=by
 unfold linkT;split
 ·exact Hb
 ·exact Abf _ _ _
def Ap9(n:Net)(b:List UInt8):FrameOK (comeT n b).2.2.1:=by
 unfold comeT;split
 ·exact Hb
 split
 ·exact Hb
 split
 ·exact Hb
 split
 ·exact Hb
 ·exact(Aed b).2.2.2
def A51(n:Net)(hm:n.Num)(irb:Int)(f:FrameM)(az:∀(d:Int),(lookT n irb d).2=true→0≤(lookT n irb d).1∧(lookT n irb d).1.toNat<n.irbs.length):FrameOK (hopT n irb f).2.1:=by
 unfold hopT;split
 ·exact Hb
 split
 ·exact Hb
 split
 ·exact Hb
 split
 ·exact Hb
 split
 ·exact Hb
 split
 ·exact Hb
 rename_i h1 h2 h3 h4 h5 h6;have hp:=(X4 (Classical.byContradiction h3)).1;have hl:=az ((ipTakeT f.body).1.dst:Int) (by simpa using h5);have ha:=hm.addr _ (zI hl.2);rw[←Ai hl.2]at ha;refine⟨U3 _ hp.dst,?_,?_,?_⟩
 ·show D5 (nth n.irbs _).addr<_;rw[D5];omega
 ·show (2048:Nat)≤65535;decide
 ·show (Jj (Apf (ipTakeT f.body).1)).length≤1504;rw[J1];show 20+(ipTakeT f.body).1.body.length≤1504;omega
attribute [local irreducible] Go.Sy.G Go.Sy.DR
set_option maxRecDepth 100000
set_option maxHeartbeats 4000000
def Adu(a b:Nat)(ha:a<4294967296)(hb:b<4294967296):bits .or .u32 (a:Int) (b:Int)=((a|||b:Nat):Int):=by
 have hx:a|||b<2^32:=Nat.or_lt_two_pow q_ q_;have h1:(BitVec.ofInt 32 (a:Int)).toNat=a:=by
  rw[BitVec.ofInt_natCast,BitVec.toNat_ofNat];exact xH q_
 have h2:(BitVec.ofInt 32 (b:Int)).toNat=b:=by
  rw[BitVec.ofInt_natCast,BitVec.toNat_ofNat];exact xH q_
 show IntKind.u32.wrap ((BitVec.ofInt 32 (a:Int)|||BitVec.ofInt 32 (b:Int)).toNat:Int)=_;rw[BitVec.toNat_or,h1,h2,IntKind.wrap_u32];omega
def Av3(x:UInt8)(k:UInt8):((x.toNat:Int) != (k.toNat:Int))=decide (x≠k):=by
 rw[wN];simp only[xG,zJ,ne_eq,←UInt8.toNat_inj];omega
def Zo(b:List UInt8)(k:Nat)(h:k+2≤b.length)(hb:b.length<100000):Sp 347 [.sl 1 Al b,Aa k] (Aa (numAt b k 2)):=cT F347 ntmps347 λF hF=>by
 have i0:(k:Int).toNat<b.length:=by simpa using (by omega:k<b.length)
 have i1:((k:Int)+1).toNat<b.length:=by omega
 have e0:b[(k:Int).toNat]'i0=b[k]'q_:=rfl;have e1:b[((k:Int)+1).toNat]'i1=b[k+1]'q_:=rfl;have hp:=I1 (b[k]'q_) (b[k+1]'q_);have hn:=Xw h;rw[←hn]at hp
 conv=>whnf
 refine⟨E,by omega,i0,?_⟩;rw[e0]
 conv=>whnf
 refine⟨by decide,?_⟩
 conv=>whnf
 refine iW ?_;refine⟨E,by omega,i1,?_⟩;rw[e1]
 conv=>whnf
 refine⟨z_,?_⟩;rw[hp]
 conv=>whnf
 exact dN
def Az5(x y:Nat)(hx:x<65536)(hy:y<65536):bits .or .u32 (IntKind.u32.wrap ((IntKind.u32.wrap (x:Int))*2^min (Int.toNat 16) IntKind.u32.bits)) (IntKind.u32.wrap (y:Int))=((x*65536+y:Nat):Int):=by
 have e1:IntKind.u32.wrap (x:Int)=(x:Int):=by rw[IntKind.wrap_u32];omega
 have e2:IntKind.u32.wrap (y:Int)=(y:Int):=by rw[IntKind.wrap_u32];omega
 rw[e1,e2];have e3:IntKind.u32.wrap ((x:Int)*2^min (Int.toNat 16) IntKind.u32.bits)=((x*65536:Nat):Int):=by
  show IntKind.u32.wrap ((x:Int)*65536)=_;rw[IntKind.wrap_u32];omega
 rw[e3,Adu _ _ q_ q_];congr 1;have h:=xQ (i:=16) (b:=y) q_ x;rw[vB x 65536];exact h.symm
def Avn(b:List UInt8)(k:Nat)(h:k+4≤b.length)(hb:b.length<100000):Sp 349 [.sl 1 Al b,Aa k] (Bb (numAt b k 4)):=cT F349 ntmps349 λF hF=>by
 have q1:=Zo b k q_ hb;have q2:=Zo b (k+2) q_ hb;rw[show ((k+2:Nat):Int)=(k:Int)+2 by omega]at q2;have hf:=Az5 (numAt b k 2) (numAt b (k+2) 2) (by have:=Qr b k 2;omega) (by have:=Qr b (k+2) 2;omega);rw[←Asq h]at hf
 conv=>whnf
 refine c0 q1 F347 ?_;refine oO ?_;refine⟨by decide,?_⟩
 conv=>whnf
 refine iW ?_;refine c0 q2 F347 ?_;refine oO ?_;rw[hf];exact dN
def Awp(l:List UInt8)(hl:l.length<100000)(h2:l.length%2=0):Sp 348 [.sl 1 Al l] (Ab (decide (He (Mb l (l.length/2))=65535))):=cT F348 ntmps348 λF hF=>by
 have ha:=Auv l hl h2
 conv=>whnf
 refine c0 ha F340 ?_;refine oO ?_;refine At E (.cons .tmp .nil) (zH Ab ?_) E;rw[wN];simp only[yJ,zJ];omega
abbrev zP:List SV:=[Aa 0,Aa 0,Aa 0,Aa 0,Bb 0,Bb 0,.sl 1 Al []]
def Avl(b:List UInt8)(hb:b.length<100000):Sp 295 [.sl 1 Al b] (.tup [Zb (ipTakeT b).1,Aa (ipTakeT b).2]):=cT F295 ntmps295 λF hF=>by
 have aa:=ipTakeT.eq_1 b;generalize ipTakeT b=res at *
 conv=>whnf
 constructor<;>intro h
 ·rw[zG (qA h)]at aa;subst aa;refine oO ?_;refine Ak 2 zP E vL ?_;exact dN
 have h20:20≤b.length:=qB h;rw[zD q_]at aa;clear h;have i0:(0:Int).toNat<b.length:=by show 0<_;omega
 have i1:(1:Int).toNat<b.length:=by show 1<_;omega
 have i8:(8:Int).toNat<b.length:=by show 8<_;omega
 have i9:(9:Int).toNat<b.length:=by show 9<_;omega
 have e0:b[(0:Int).toNat]'i0=bAt b 0:=(Al9 q_).symm;have q2:=Zo b 2 q_ hb;have q4:=Zo b 4 q_ hb;have q6:=Zo b 6 q_ hb;have q12:=Avn b 12 q_ hb;have q16:=Avn b 16 q_ hb;have xm:(b.take 20).length=20:=by rw[yA];omega
 have hdiv:(b.take 20).length/2=10:=by rw[xm]
 have qs:=Awp (b.take 20) q_ (by rw[xm]);rw[hdiv]at qs;refine oO ?_;refine⟨E,by decide,i0,?_⟩;rw[e0]
 conv=>whnf
 constructor<;>intro h
 ·rw[zG (.inl (by rw[show ((69:Int))=((69:UInt8).toNat:Int) from rfl,Av3]at h;exact zK h))]at aa;subst aa;refine oT ?_;refine Ak 2 zP E vL ?_;exact dN
 have h69:¬bAt b 0≠69:=by rw[show ((69:Int))=((69:UInt8).toNat:Int) from rfl,Av3]at h;exact zQ h
 clear h;refine oO ?_;refine c0 q2 F347 ?_;refine oO ?_;constructor<;>intro h
 ·rw[zG (.inr (qA h))]at aa;subst aa;refine oO ?_;refine Ak 2 zP E vL ?_;exact dN
 have hs20:20≤numAt b 2 2:=qB h;rw[zD (λh=>h.elim h69 q_)]at aa;clear h;refine oO ?_;refine c0 q2 F347 ?_;refine oO ?_;constructor<;>intro h
 ·rw[zG (qA h)]at aa;subst aa;refine oO ?_;refine Ak 2 zP E vL ?_;exact dN
 have mw:numAt b 2 2≤b.length:=qB h;rw[zD q_]at aa;clear h;refine oO ?_;refine c0 q6 F347 ?_;refine oO ?_;constructor<;>intro h
 ·rw[zG (by have:(numAt b 6 2:Int)≠0:=(by simpa using h);omega)]at aa;subst aa;refine oO ?_;refine Ak 2 zP E vL ?_;exact dN
 rw[zD (by have:(numAt b 6 2:Int)=0:=(by simpa using h);omega)]at aa;clear h;refine oO ?_;refine Af (Dt (lo:=0) (hi:=20) Γ.toTy E E E E (.inl ⟨E,E⟩) (.inr ⟨_,_,E,E⟩) q_ h20) E E ?_;refine oO ?_;refine c0 qs F348 ?_;by_cases lg:He (Mb (b.take 20) 10)=65535;rotate_left
 ·rw[zG lg]at aa;subst aa;rw[zL lg];refine oT ?_;refine Ak 2 zP E vL ?_;exact dN
 rw[zD (λh=>h lg)]at aa;subst aa;rw[zO lg];have qc:=Tg ((b.take (numAt b 2 2)).drop 20) (by rw[yO,yA];omega);have w1:IntKind.i64.wrap ((b[(1:Int).toNat]'i1).toNat:Int)=((bAt b 1).toNat:Int):=by
  rw[Al9 (show 1<b.length by omega)];have:=(b[1]'q_).toNat_lt;show IntKind.i64.wrap ((b[1]'q_).toNat:Int)=_;rw[IntKind.wrap_i64];omega
 have w8:IntKind.i64.wrap ((b[(8:Int).toNat]'i8).toNat:Int)=((bAt b 8).toNat:Int):=by
  rw[Al9 (show 8<b.length by omega)];have:=(b[8]'q_).toNat_lt;show IntKind.i64.wrap ((b[8]'q_).toNat:Int)=_;rw[IntKind.wrap_i64];omega
 have w9:IntKind.i64.wrap ((b[(9:Int).toNat]'i9).toNat:Int)=((bAt b 9).toNat:Int):=by
  rw[Al9 (show 9<b.length by omega)];have:=(b[9]'q_).toNat_lt;show IntKind.i64.wrap ((b[9]'q_).toNat:Int)=_;rw[IntKind.wrap_i64];omega
 refine oF ?_;refine⟨E,by decide,i1,?_⟩
 conv=>whnf
 refine cD q4 F347 ?_;refine oD ?_;refine⟨E,by decide,i8,?_⟩
 conv=>whnf
 refine⟨E,by decide,i9,?_⟩
 conv=>whnf
 refine cD q12 F349 ?_;refine oD ?_;refine cD q16 F349 ?_;refine oD ?_;refine cD q2 F347 ?_;refine oD ?_;refine Bw (Dt (lo:=20) (hi:=numAt b 2 2) Γ.toTy E E E E (.inr ⟨_,_,E,E⟩) (.inr ⟨_,_,E,E⟩) hs20 mw) z_ E ?_;refine oD ?_;refine cD qc F288 ?_;refine gH ?_;refine At E (.cons (.cell E E E E) (.cons .tmp .nil)) ?_ E;show SV.tup [.agg [Aa (bAt b 1).toNat,_,Aa (bAt b 8).toNat,Aa (bAt b 9).toNat,_,_,_],_]=SV.tup [.agg [Aa (IntKind.i64.wrap ((b[(1:Int).toNat]'i1).toNat:Int)),_,Aa (IntKind.i64.wrap ((b[(8:Int).toNat]'i8).toNat:Int)),Aa (IntKind.i64.wrap ((b[(9:Int).toNat]'i9).toNat:Int)),_,_,_],_];rw[w1,w8,w9];rfl
def A1m(t:Nat)(h:t≤255):bits .or .i64 17664 (t:Int)=((17664+t:Nat):Int):=by
 have h1:=Et 17664 t j_ q_;rw[show ((17664:Nat):Int)=17664 from rfl]at h1;rw[h1];congr 1;have h2:=xQ (i:=8) (b:=t) q_ 69;rw[show 2^8*69=17664 from rfl]at h2;rw[←h2]
def A5e(x y:Nat)(hx:x≤255)(hy:y≤255):bits .or .i64 (IntKind.i64.wrap ((x:Int)*2^min (Int.toNat 8) IntKind.i64.bits)) (y:Int)=((x*256+y:Nat):Int):=by
 have h3:IntKind.i64.wrap ((x:Int)*2^min (Int.toNat 8) IntKind.i64.bits)=((x*256:Nat):Int):=by
  show IntKind.i64.wrap ((x:Int)*256)=_;rw[IntKind.wrap_i64];omega
 rw[h3,Et _ _ q_ q_];congr 1;have h:=xQ (i:=8) (b:=y) q_ x;rw[vB x 256];exact h.symm
def Apg(x:Nat)(h:x<4294967296):IntKind.i64.wrap ((x:Int).fdiv (2^(min (Int.toNat 16) IntKind.u32.bits)))=((x/65536:Nat):Int):=by
 show IntKind.i64.wrap ((x:Int).fdiv 65536)=_;rw[xW _ j_,IntKind.wrap_i64];omega
def Avg(x:Nat)(h:x<4294967296):IntKind.i64.wrap (x:Int)=(x:Int):=by rw[IntKind.wrap_i64];omega
def Avm(p:PacketM)(hp:PacketOK p)(hb:p.body.length<100000):Sp 211 [Zb p] (.tup [.sl 1 Al (ipPutT p).1,Aa (ipPutT p).2]):=cT F211 ntmps211 λF hF=>by
 have aa:=ipPutT.eq_1 p;generalize ipPutT p=res at *;have h1:=hp.tos;have h2:=hp.id;have h3:=hp.ttl;have h4:=hp.proto;have h5:=hp.src;have h6:=hp.dst
 conv=>whnf
 refine D8 ⟨⟨_,_,F283⟩,Ua p.tos 255 q_⟩ E E E E E E ?_;refine oF ?_;refine D8 ⟨⟨_,_,F283⟩,Ua p.ttl 255 q_⟩ E E E E E E ?_;refine oF ?_;refine D8 ⟨⟨_,_,F283⟩,Ua p.proto 255 q_⟩ E E E E E E ?_;refine oF ?_;refine D8 ⟨⟨_,_,F283⟩,Ua p.id 65535 q_⟩ E E E E E E ?_;refine oF ?_;constructor<;>intro h
 ·rw[zG (qA h)]at aa;subst aa;refine oO ?_;refine Au 2 1 Al E ?_;exact dN
 have hl:p.body.length≤1480:=qB h;rw[zD q_]at aa;subst aa;clear h;have bg:Jj p=((Hq p 0).set 10 (UInt8.ofNat (Ir p/256))).set 11 (UInt8.ofNat (Ir p))++p.body:=by rw[Atf,Jj]
 rw[bg];have gq:=Ji p 0;have hs:=A0f (Hq p 0) (by rw[gq];decide) (by rw[gq]);have oy:=Ao2 [17664+p.tos,20+p.body.length,p.id,0,p.ttl*256+p.proto,0,p.src/65536,p.src,p.dst/65536,p.dst] y_;rw[show K3 [17664+p.tos,20+p.body.length,p.id,0,p.ttl*256+p.proto,0,p.src/65536,p.src,p.dst/65536,p.dst]=Hq p 0 from rfl]at oy;have hss:Qj (Hq p 0)=Ir p:=rfl;rw[hss]at hs;have mw:Ir p≤65535:=Nat.sub_le _ _;generalize Ir p=s at *;have iq:=H4 s;have o1:=A1m p.tos h1;have o2:=A5e p.ttl p.proto h3 h4;have g1:=Apg p.src h5;have g2:=Avg p.src h5;have g3:=Apg p.dst h6;have g4:=Avg p.dst h6;generalize Hq p 0=b at *;refine gF ?_;refine⟨by decide,?_⟩
 conv=>whnf
 refine⟨by decide,?_⟩
 conv=>whnf
 refine⟨by decide,?_⟩
 conv=>whnf
 refine Ag4 68 (e:=Ave) (l:=[17664+p.tos,20+p.body.length,p.id,0,p.ttl*256+p.proto,0,p.src/65536,p.src,p.dst/65536,p.dst]) E ?_ ?_
 ·show _=[SV.val (.int .i64 (bits .or .i64 17664 (p.tos:Int))),SV.val _,SV.val _,SV.val _,SV.val (.int .i64 (bits .or .i64 (IntKind.i64.wrap ((p.ttl:Int) * 2 ^ min (Int.toNat 8) IntKind.i64.bits)) (p.proto:Int))),SV.val _,
   SV.val (.int .i64 (IntKind.i64.wrap ((p.src:Int).fdiv (2 ^ (min (Int.toNat 16) IntKind.u32.bits))))),SV.val (.int .i64 (IntKind.i64.wrap (p.src:Int))),SV.val (.int .i64 (IntKind.i64.wrap ((p.dst:Int).fdiv (2 ^ (min (Int.toNat 16) IntKind.u32.bits))))),SV.val (.int .i64 (IntKind.i64.wrap (p.dst:Int)))]
  rw[o1,o2,g1,g2,g3,g4];rfl
 refine Aj 68 E ?_;refine Af (Ad [(0,69)] E F284 oy E Y E ⟨.inr E,Y⟩) E E ?_;refine oO ?_;refine Aqe [69] hs F285 E (.cons (.row E E) .nil) E E E ?_;refine oO ?_;have em:=(List.cons.inj iq).1;have du:=(List.cons.inj (List.cons.inj iq).2).1;refine⟨by omega,?_⟩
 conv=>whnf
 refine⟨by decide,by rw[gq];decide,?_⟩
 conv=>whnf
 refine⟨E,by rw[gq];decide,UInt8.ofNat (s/256),zH (λz=>[z]) em,E,?_⟩
 conv=>whnf
 refine⟨by decide,by simp[gq],?_⟩
 conv=>whnf
 refine⟨E,by simp[gq],UInt8.ofNat s,zH (λz=>[z]) du,E,?_⟩
 conv=>whnf
 refine Af (Ag Γ.toTy 84 E E E E E (.row E) .sl j_ (by simp[gq];omega) (by simp[gq];omega)) E E ?_;refine Aj 84 E ?_;exact gE
def hop1(p:PacketM):PacketM×Int:=if p.ttl≤1 then (noP,13) else (Apf p,0)
def ipHopS(p:PacketM)(hb:p.body.length<100000)(ht:p.ttl≤255):Sp 296 [Zb p] (.tup [Zb (hop1 p).1,Aa (hop1 p).2]):=cT F296 ntmps296 λF hF=>by
 have aa:=hop1.eq_1 p;generalize hop1 p=res at *;have qc:=Tg p.body q_
 conv=>whnf
 constructor<;>intro h
 ·rw[zG (qA h)]at aa;subst aa;refine oO ?_;refine Ak 2 zP E vL ?_;exact dN
 have h2:¬p.ttl≤1:=qB h;rw[zD h2]at aa;subst aa;have e:((p.ttl-1:Nat):Int)=(p.ttl:Int)-1:=by omega
 refine gF ?_;refine c0 qc F288 ?_;refine oO ?_;refine At E (.cons (.cell E E E E) (.cons .tmp .nil)) ?_ E;show SV.tup [.agg [_,_,Aa ((p.ttl-1:Nat):Int),_,_,_,_],_]=SV.tup [.agg [_,_,Aa ((p.ttl:Int)-1),_,_,_,_],_];rw[e];rfl
def udpU(b:List UInt8):Nat→List SV
 |0=>[Aa 0,Aa 0,Aa 0,Aa 0]
 |1=>[Aa (numAt b 0 2),Aa 0,Aa 0,Aa 0]
 |2=>[Aa (numAt b 0 2),Aa (numAt b 2 2),Aa 0,Aa 0]
 |3=>[Aa (numAt b 0 2),Aa (numAt b 2 2),Aa (numAt b 4 2),Aa 0]
 |_=>[Aa (numAt b 0 2),Aa (numAt b 2 2),Aa (numAt b 4 2),Aa (numAt b 6 2)]
def Az2(b:List UInt8)(hb:b.length<100000):Sp 383 [.sl 1 Al b] (.tup [Aa (udpTakeT b).1,Aa (udpTakeT b).2.1,.sl 1 Al (udpTakeT b).2.2.1,Aa (udpTakeT b).2.2.2]):=cT F383 ntmps383 λF hF=>by
 have aa:=udpTakeT.eq_1 b;generalize udpTakeT b=res at *
 conv=>whnf
 constructor<;>intro h
 ·rw[zG (qA h)]at aa;subst aa;refine oO ?_;refine Au 4 1 Al E ?_;exact dN
 have h8:8≤b.length:=qB h;rw[zD q_]at aa;clear h;have gr:=I1 (b[0]'q_) (b[1]'q_);rw[←Xw (show 0+2≤b.length by omega)]at gr;have ig:=I1 (b[2]'q_) (b[3]'q_);rw[←Xw (show 2+2≤b.length by omega)]at ig;have ec:=I1 (b[4]'q_) (b[5]'q_);rw[←Xw (show 4+2≤b.length by omega)]at ec;have sw:=I1 (b[6]'q_) (b[7]'q_);rw[←Xw (show 6+2≤b.length by omega)]at sw;refine oO ?_;refine A5 4 (λj=>[(0,.sl 1 Al b),(6,.ptr 6 0),(11,Aa j)]) (λj=>[(6,.box (udpU b j))]) [] kU ?_;intro j hj;have cz:j=0∨j=1∨j=2∨j=3∨j=4:=by omega
 rcases cz with rfl|rfl|rfl|rfl|rfl
 ·refine oT ?_;refine iW ?_;refine⟨E,by omega,by omega,?_⟩
  conv=>whnf
  refine⟨by decide,?_⟩
  conv=>whnf
  refine iW ?_;refine iW ?_;refine⟨E,by omega,by omega,?_⟩
  conv=>whnf
  refine⟨by decide,by decide,?_⟩
  conv=>whnf
  refine kW ?_;refine iW ?_;exact Ay [] j_ ⟨⟨E,E,E,E,E,E,Y⟩,⟨.inl (zH (λz:Int=>Ob.box [Aa z,Aa 0,Aa 0,Aa 0]) gr.symm),E,Y⟩,E,E⟩
 ·refine oT ?_;refine iW ?_;refine⟨E,by omega,by omega,?_⟩
  conv=>whnf
  refine⟨by decide,?_⟩
  conv=>whnf
  refine iW ?_;refine iW ?_;refine⟨E,by omega,by omega,?_⟩
  conv=>whnf
  refine⟨by decide,by decide,?_⟩
  conv=>whnf
  refine kW ?_;refine iW ?_;exact Ay [] j_ ⟨⟨E,E,E,E,E,E,Y⟩,⟨.inl (zH (λz:Int=>Ob.box [Aa (numAt b 0 2),Aa z,Aa 0,Aa 0]) ig.symm),E,Y⟩,E,E⟩
 ·refine oT ?_;refine iW ?_;refine⟨E,by omega,by omega,?_⟩
  conv=>whnf
  refine⟨by decide,?_⟩
  conv=>whnf
  refine iW ?_;refine iW ?_;refine⟨E,by omega,by omega,?_⟩
  conv=>whnf
  refine⟨by decide,by decide,?_⟩
  conv=>whnf
  refine kW ?_;refine iW ?_;exact Ay [] j_ ⟨⟨E,E,E,E,E,E,Y⟩,⟨.inl (zH (λz:Int=>Ob.box [Aa (numAt b 0 2),Aa (numAt b 2 2),Aa z,Aa 0]) ec.symm),E,Y⟩,E,E⟩
 ·refine oT ?_;refine iW ?_;refine⟨E,by omega,by omega,?_⟩
  conv=>whnf
  refine⟨by decide,?_⟩
  conv=>whnf
  refine iW ?_;refine iW ?_;refine⟨E,by omega,by omega,?_⟩
  conv=>whnf
  refine⟨by decide,by decide,?_⟩
  conv=>whnf
  refine kW ?_;refine iW ?_;exact Ay [] j_ ⟨⟨E,E,E,E,E,E,Y⟩,⟨.inl (zH (λz:Int=>Ob.box [Aa (numAt b 0 2),Aa (numAt b 2 2),Aa (numAt b 4 2),Aa z]) sw.symm),E,Y⟩,E,E⟩
 clear gr ig ec sw;refine oF ?_;refine⟨by decide,by decide,?_⟩
 conv=>whnf
 constructor<;>intro h
 ·rw[zG (qA h)]at aa;subst aa;refine oO ?_;refine Au 4 1 Al E ?_;exact dN
 have hs8:8≤numAt b 4 2:=qB h;rw[zD q_]at aa;clear h;refine oO ?_;refine⟨by decide,by decide,?_⟩
 conv=>whnf
 constructor<;>intro h
 ·rw[zG (qA h)]at aa;subst aa;refine oO ?_;refine Au 4 1 Al E ?_;exact dN
 have mw:numAt b 4 2≤b.length:=qB h;rw[zD q_]at aa;clear h;refine oO ?_;refine⟨by decide,by decide,?_⟩
 conv=>whnf
 constructor<;>intro h
 ·rw[zG (by have:(numAt b 6 2:Int)≠0:=(by simpa using h);omega)]at aa;subst aa;refine oO ?_;refine Au 4 1 Al E ?_;exact dN
 rw[zD (by have:(numAt b 6 2:Int)=0:=(by simpa using h);omega)]at aa;subst aa;clear h;have qc:=Tg ((b.take (numAt b 4 2)).drop 8) (by rw[yO,yA];omega);refine oO ?_;refine⟨by decide,by decide,?_⟩
 conv=>whnf
 refine⟨by decide,by decide,?_⟩
 conv=>whnf
 refine⟨by decide,by decide,?_⟩
 conv=>whnf
 refine Bw (Dt (lo:=8) (hi:=numAt b 4 2) Γ.toTy E E E E (.inr ⟨_,_,E,E⟩) (.inr ⟨_,_,E,E⟩) hs8 mw) z_ E ?_;refine oD ?_;refine cD qc F288 ?_;refine gH ?_;exact dN
def A4v(src dst:Nat)(body:List UInt8)(h1:src≤65535)(h2:dst≤65535)(h3:body.length≤1472):Sp 358 [Aa src,Aa dst,.sl 1 Al body] (.tup [.sl 1 Al (Adf src dst body),Aa 0]):=cT F358 ntmps358 λF hF=>by
 ((conv=>whnf);refine aF ?_;refine rg ?_;conv=>whnf)
 (refine⟨λh=>False.elim (by simp at h;omega),λ_=>?_⟩;refine rg ?_;(conv=>whnf);refine aF ?_;refine rg ?_;(conv=>whnf);refine⟨λh=>False.elim (by simp at h;omega),λ_=>?_⟩;refine rg ?_;(conv=>whnf);refine⟨λh=>False.elim (by simp at h;omega),λ_=>?_⟩;refine rg ?_;conv=>whnf)
 refine iW ?_;refine B7 8 1000 1 Al E E ?_;refine Af (Acp Γ.toTy E E E E E E) E E ?_;refine oO ?_;have key:∀(x:Nat) (pre:List Nat),pre.length≤4→Dd (pre++[x])=Dd pre++[UInt8.ofNat (x/256),UInt8.ofNat x]:=λx pre _=>Li pre x
 have ji:∀l:List Nat,(Dd l).length=2*l.length:=O3;obtain ⟨ws,kl⟩:∃ws:List Nat,ws=[src,dst,8+body.length,0]:=⟨_,rfl⟩
 refine A5 4 (λj=>[(2,.sl 1 Al body),(8,.osl 1000),(35,.agg [Aa src,Aa dst,Aa (8+body.length:Nat),Aa 0]),(36,Aa j)]) (λj=>[(1000,.row 1 Al (Dd (ws.take j)))]) [] ⟨⟨E,E,E,E,E,E,E,E,Y⟩,⟨.inl (zH (Ob.row 1 Al) (by simp[Dd])),E,Y⟩,E,E⟩ ?_;intro j hj;have cz:j=0∨j=1∨j=2∨j=3∨j=4:=by omega
 rcases cz with rfl|rfl|rfl|rfl|rfl
 ·have hs:Dd (ws.take 1)=Dd (ws.take 0)++[UInt8.ofNat (src/256),UInt8.ofNat src]:=by subst kl;exact Li [] src
  have hl:=ji (ws.take 0);have gn:(ws.take 0).length≤4:=by rw[yA];omega
  have iq:=H4 src;refine oT ?_;refine Af (Cs (k:=.int .i64) Γ.toTy E E E Tryz.underlying3 E E j_ j_ E) E E ?_;refine oO ?_;refine⟨by decide,?_⟩
  conv=>whnf
  refine Af (Ag Γ.toTy 46 E E E E E (.row E) (.lit (e:=Al) (l:=[UInt8.ofNat (src/256),UInt8.ofNat src]) E iq) y_ (by rw[hl];simp only[yL,xM];omega) (by rw[hl];simp only[yL,xM];omega)) E E ?_;refine gF ?_;exact Ay [(1000,46)] j_ ⟨⟨E,E,E,E,E,E,E,E,Y⟩,⟨.inl (zH (Ob.row 1 Al) hs),E,Y⟩,E,E⟩
 ·have hs:Dd (ws.take 2)=Dd (ws.take 1)++[UInt8.ofNat (dst/256),UInt8.ofNat dst]:=by subst kl;exact Li [src] dst
  have hl:=ji (ws.take 1);have gn:(ws.take 1).length≤4:=by rw[yA];omega
  have iq:=H4 dst;refine oT ?_;refine Af (Cs (k:=.int .i64) Γ.toTy E E E Tryz.underlying3 E E j_ j_ E) E E ?_;refine oO ?_;refine⟨by decide,?_⟩
  conv=>whnf
  refine Af (Ag Γ.toTy 46 E E E E E (.row E) (.lit (e:=Al) (l:=[UInt8.ofNat (dst/256),UInt8.ofNat dst]) E iq) y_ (by rw[hl];simp only[yL,xM];omega) (by rw[hl];simp only[yL,xM];omega)) E E ?_;refine gF ?_;exact Ay [(1000,46)] j_ ⟨⟨E,E,E,E,E,E,E,E,Y⟩,⟨.inl (zH (Ob.row 1 Al) hs),E,Y⟩,E,E⟩
 ·have hs:Dd (ws.take 3)=Dd (ws.take 2)++[UInt8.ofNat ((8+body.length)/256),UInt8.ofNat (8+body.length)]:=by subst kl;exact Li [src,dst] (8+body.length)
  have hl:=ji (ws.take 2);have gn:(ws.take 2).length≤4:=by rw[yA];omega
  have iq:=H4 (8+body.length);refine oT ?_;refine Af (Cs (k:=.int .i64) Γ.toTy E E E Tryz.underlying3 E E j_ j_ E) E E ?_;refine oO ?_;refine⟨by decide,?_⟩
  conv=>whnf
  refine Af (Ag Γ.toTy 46 E E E E E (.row E) (.lit (e:=Al) (l:=[UInt8.ofNat ((8+body.length)/256),UInt8.ofNat (8+body.length)]) E iq) y_ (by rw[hl];simp only[yL,xM];omega) (by rw[hl];simp only[yL,xM];omega)) E E ?_;refine gF ?_;exact Ay [(1000,46)] j_ ⟨⟨E,E,E,E,E,E,E,E,Y⟩,⟨.inl (zH (Ob.row 1 Al) hs),E,Y⟩,E,E⟩
 ·have hs:Dd (ws.take 4)=Dd (ws.take 3)++[UInt8.ofNat (0/256),UInt8.ofNat 0]:=by subst kl;exact Li [src,dst,8+body.length] 0
  have hl:=ji (ws.take 3);have gn:(ws.take 3).length≤4:=by rw[yA];omega
  have iq:=H4 0;refine oT ?_;refine Af (Cs (k:=.int .i64) Γ.toTy E E E Tryz.underlying3 E E j_ j_ E) E E ?_;refine oO ?_;refine⟨by decide,?_⟩
  conv=>whnf
  refine Af (Ag Γ.toTy 46 E E E E E (.row E) (.lit (e:=Al) (l:=[UInt8.ofNat (0/256),UInt8.ofNat 0]) E iq) y_ (by rw[hl];simp only[yL,xM];omega) (by rw[hl];simp only[yL,xM];omega)) E E ?_;refine gF ?_;exact Ay [(1000,46)] j_ ⟨⟨E,E,E,E,E,E,E,E,Y⟩,⟨.inl (zH (Ob.row 1 Al) hs),E,Y⟩,E,E⟩
 have hl:=ji (ws.take 4);have e:ws.take 4=[src,dst,8+body.length,0]:=by rw[kl];rfl
 rw[e]at hl⊢;have ki:(Dd [src,dst,8+body.length,0]).length=8:=hl;refine oF ?_;refine Af (Ag Γ.toTy 50 E E E E E (.row E) .sl y_ (by rw[ki];simp;omega) (by rw[ki];omega)) E E ?_;refine Aj 50 E ?_;exact gE
def Az3(a b:Nat)(ha:a<18446744073709551616)(hb:b<18446744073709551616):Sp 359 [A2 a,A2 b] (Aa (udpPort a b:Nat)):=cT F359 ntmps359 λF hF=>by
 have hx:=bits_xor_u64_nat a b ha hb;have hmd:((a^^^b:Nat):Int).tmod 16384=(((a^^^b)%16384:Nat):Int):=by rw[uR q_];omega
 have hl:=tW (a^^^b) (show 0<16384 by decide);have hw:IntKind.i64.wrap (((a^^^b)%16384:Nat):Int)=(((a^^^b)%16384:Nat):Int):=by rw[IntKind.wrap_i64];omega
 conv=>whnf
 refine⟨by decide,?_⟩;rw[hx,hmd]
 conv=>whnf
 rw[hw];refine iW ?_;refine At E (.cons .tmp .nil) ?_ E;refine zH (λz:Int=>SV.val (.int .i64 z)) ?_;rw[udpPort];omega
def Avq(v:Int)(h:T4 v=true):Sp 357 [Aa v] (.tup [.sl 1 Al [],Aa 17]):=cT F357 ntmps357 λF hF=>by
 simp only[T4,yM,zJ]at h
 conv=>whnf
 constructor<;>intro h1
 ·refine oT ?_;refine Au 2 1 Al E ?_;exact dN
 refine oO ?_;refine⟨λh2=>?_,λh2=>zY (zQ h2) (by have:=zQ h1;omega)⟩;refine oO ?_;refine Au 2 1 Al E ?_;exact dN
def Azu{v:Int}(h:T4 v=false):1≤v∧v≤16777215:=by
 simp only[T4,xY,zX]at h;omega
def Ayr(k:Nat):(Km k).map Al=[SV.val (.int .u8 8),SV.val (.int .u8 0),SV.val (.int .u8 0),SV.val (.int .u8 0),SV.val (.int .u8 (IntKind.u8.wrap ((k:Int).fdiv (2 ^ (min (Int.toNat 16) IntKind.i64.bits))))),
  SV.val (.int .u8 (IntKind.u8.wrap ((k:Int).fdiv (2 ^ (min (Int.toNat 8) IntKind.i64.bits))))),SV.val (.int .u8 (IntKind.u8.wrap (k:Int))),SV.val (.int .u8 0)]:=by
 have h1:IntKind.u8.wrap ((k:Int).fdiv (2^(min (Int.toNat 16) IntKind.i64.bits)))=((UInt8.ofNat (k/65536)).toNat:Int):=by
  show IntKind.u8.wrap ((k:Int).fdiv 65536)=_;rw[xW _ j_,IntKind.wrap_u8];simp
 have h2:IntKind.u8.wrap ((k:Int).fdiv (2^(min (Int.toNat 8) IntKind.i64.bits)))=((UInt8.ofNat (k/256)).toNat:Int):=by
  show IntKind.u8.wrap ((k:Int).fdiv 256)=_;rw[xW _ j_,IntKind.wrap_u8];simp
 have h3:=u8_of k;rw[h1,h2,h3];rfl
def A27(k:Nat)(h:1≤k∧k≤16777215):Sq 357 [Aa k] [] (.tup [.osl 0,Aa 0]) [(0,.row 1 Al (Km k))]:=cT F357 ntmps357 λF hF=>by
 have hl:=Ayr k
 conv=>whnf
 refine⟨λh1=>zY (zK h1) q_,λ_=>?_⟩;refine oO ?_;refine⟨λh1=>zY (zK h1) q_,λ_=>?_⟩;refine oO ?_;refine⟨by decide,?_⟩
 conv=>whnf
 refine⟨by decide,?_⟩
 conv=>whnf
 refine Vs 18 Al (Km k) E hl ?_;exact done E (.cons .tmp (.cons .tmp .nil)) [(0,18)] [(0,.row 1 Al (Km k))] (λ_ h=>h) E E kU
def Azd(a b:List UInt8):((⟨a.toArray⟩:ByteArray)==(⟨b.toArray⟩:ByteArray))=decide (a=b):=by
 have key:=Go.MapKept.bytes_beq (⟨a.toArray⟩:ByteArray) ⟨b.toArray⟩;by_cases h:a=b
 ·subst h;rw[zO rfl];exact key.2 E
 ·rw[zL h];cases hb:((⟨a.toArray⟩:ByteArray)==(⟨b.toArray⟩:ByteArray)) with
  |false=>rfl
  |true=>
   have:=zH (λz:ByteArray=>z.data.toList) (key.1 hb);exact zY (by simpa using this) h
def Az7(x y z:UInt8):bits .or .i64 (bits .or .i64 (IntKind.i64.wrap ((IntKind.i64.wrap (x.toNat:Int))*2^min (Int.toNat 16) IntKind.i64.bits)) (IntKind.i64.wrap ((IntKind.i64.wrap (y.toNat:Int))*2^min (Int.toNat 8) IntKind.i64.bits))) (IntKind.i64.wrap (z.toNat:Int))
  = (((x.toNat*256+y.toNat)*256+z.toNat:Nat):Int):=by
 have h1:=x.toNat_lt;have h2:=y.toNat_lt;have h3:=z.toNat_lt;have e1:IntKind.i64.wrap (x.toNat:Int)=(x.toNat:Int):=by rw[IntKind.wrap_i64];omega
 have e2:IntKind.i64.wrap (y.toNat:Int)=(y.toNat:Int):=by rw[IntKind.wrap_i64];omega
 have e3:IntKind.i64.wrap (z.toNat:Int)=(z.toNat:Int):=by rw[IntKind.wrap_i64];omega
 rw[e1,e2,e3];have f1:IntKind.i64.wrap ((x.toNat:Int)*2^min (Int.toNat 16) IntKind.i64.bits)=((x.toNat*65536:Nat):Int):=by
  show IntKind.i64.wrap ((x.toNat:Int)*65536)=_;rw[IntKind.wrap_i64];omega
 have f2:IntKind.i64.wrap ((y.toNat:Int)*2^min (Int.toNat 8) IntKind.i64.bits)=((y.toNat*256:Nat):Int):=by
  show IntKind.i64.wrap ((y.toNat:Int)*256)=_;rw[IntKind.wrap_i64];omega
 rw[f1,f2,Et _ _ q_ q_];have g1:x.toNat*65536|||y.toNat*256=x.toNat*65536+y.toNat*256:=by
  have h:=xQ (i:=16) (b:=y.toNat*256) q_ x.toNat;rw[vB x.toNat 65536];exact h.symm
 rw[g1,Et _ _ q_ q_];refine zH (λn:Nat=>(n:Int)) ?_;have h:256*(x.toNat*256+y.toNat)+z.toNat=256*(x.toNat*256+y.toNat)|||z.toNat:=xQ (i:=8) (b:=z.toNat) q_ (x.toNat*256+y.toNat);have e:x.toNat*65536+y.toNat*256=256*(x.toNat*256+y.toNat):=by omega
 rw[e,←h];omega
def vniS(b:List UInt8)(hb:b.length<100000):Sp 384 [.sl 1 Al b] (.tup [Aa (vniT b).1,.sl 1 Al (vniT b).2.1,Aa (vniT b).2.2]):=cT F384 ntmps384 λF hF=>by
 have aa:=vniT.eq_1 b;generalize vniT b=res at *
 conv=>whnf
 constructor<;>intro h
 ·rw[zG (qA h)]at aa;subst aa;refine oO ?_;refine Au 3 1 Al E ?_;exact dN
 have h8:8≤b.length:=qB h;rw[zD q_]at aa;clear h;have i4:(4:Int).toNat<b.length:=by show 4<_;omega
 have i5:(5:Int).toNat<b.length:=by show 5<_;omega
 have i6:(6:Int).toNat<b.length:=by show 6<_;omega
 have hv:bits .or .i64 (bits .or .i64 (IntKind.i64.wrap ((IntKind.i64.wrap ((b[(4:Int).toNat]'i4).toNat:Int))*2^min (Int.toNat 16) IntKind.i64.bits)) (IntKind.i64.wrap ((IntKind.i64.wrap ((b[(5:Int).toNat]'i5).toNat:Int))*2^min (Int.toNat 8) IntKind.i64.bits))) (IntKind.i64.wrap ((b[(6:Int).toNat]'i6).toNat:Int))
   = (numAt b 4 3:Int):=by
  rw[Az7,numAt3 (show 4+3≤b.length by omega)];rfl
 have iu:=Qr b 4 3;refine oO ?_;refine⟨E,by decide,i4,?_⟩
 conv=>whnf
 refine⟨by decide,?_⟩
 conv=>whnf
 refine⟨E,by decide,i5,?_⟩
 conv=>whnf
 refine⟨by decide,?_⟩
 conv=>whnf
 refine⟨E,by decide,i6,?_⟩
 conv=>whnf
 refine⟨z_,?_⟩;rw[hv];generalize hvv:numAt b 4 3=v at *
 conv=>whnf
 by_cases h0:v=0
 ·rw[zG (.inl h0)]at aa;subst aa;have q:=Avq v (by rw[h0];decide);refine c0 q F357 ?_
  (refine rg ?_;(conv=>whnf);refine aT ?_;refine oD ?_)
  refine⟨z_,?_⟩
  ((conv=>whnf);refine aT ?_;refine rg ?_;conv=>whnf)
  refine Au 3 1 Al E ?_;exact dN
 have q:=A27 v q_;refine Af (Ad [(0,55)] E F357 q E Y E ⟨.inr E,Y⟩) E E ?_;refine Aj 55 E ?_
 (refine rg ?_;(conv=>whnf);refine aF ?_;refine oD ?_)
 refine Bw (Kn Γ.toTy (bs:=Km v) E E E E E E E .sl) z_ E ?_;refine oD ?_;refine Bw (Dt (lo:=0) (hi:=8) Γ.toTy E E E E (.inl ⟨E,E⟩) (.inr ⟨_,_,E,E⟩) q_ h8) z_ E ?_;refine oD ?_;refine Bw (Kn Γ.toTy (bs:=b.take 8) E E E E E E E .sl) z_ E ?_;refine gH ?_;have hbe:=Azd (Km v) (b.take 8);rw[hbe];by_cases he:b.take 8=Km v;rotate_left
 ·rw[zG (.inr he)]at aa;subst aa;rw[zL (λe=>he e.symm)];refine⟨λ_=>?_,λh=>zY h j_⟩;refine oO ?_;refine Au 3 1 Al E ?_;exact dN
 rw[zD (λh=>h.elim h0 (λh2=>h2 he))]at aa;subst aa;rw[zO he.symm];have vw:(b.take b.length).drop 8=b.drop 8:=by rw[yN]
 refine⟨λh=>zY h j_,λ_=>?_⟩;refine oO ?_;refine Af (Dt (lo:=8) (hi:=b.length) Γ.toTy E E E E (.inr ⟨_,_,E,E⟩) (.inl ⟨E,E⟩) h8 (yG _)) E E ?_;refine oO ?_;refine Af (Ag Γ.toTy 45 E E E E E .nil .sl y_ (by simp;omega) (by simp;omega)) E E ?_;refine Aj 45 E ?_;refine oO ?_;refine At E (.cons .tmp (.cons .tmp (.cons .tmp .nil))) ?_ E;show SV.tup [_,.sl 1 Al (b.drop 8),_]=SV.tup [_,.sl 1 Al ([]++(b.take b.length).drop 8),_];rw[vw];rfl
end Go.Sy.YticmobkdaneelaaGreatDoor
