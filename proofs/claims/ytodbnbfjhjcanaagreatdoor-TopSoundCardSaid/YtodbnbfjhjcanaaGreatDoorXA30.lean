/- Parts of a proof. -/
import Derived.Test.YtodbnbfjhjcanaaGreatDoorXA13
set_option maxHeartbeats 4000000
set_option linter.all false
namespace Go.Sy.Zaa
open Go.Proofs Go.Proofs.Tryz
section
attribute [local irreducible]G DR
set_option maxRecDepth 100000
def Li:=iJ Al 1 F30 ntmps30
def cut6(b:List UInt8)(k j:Nat)(hj:j<6)(h:k+6<=b.length):Hz (((b.drop k).take 6).take (j+1))=Hz (((b.drop k).take 6).take j)*256+(b[k+j]'z_).toNat:=by
 rw[Ar1 _ (by rw[zW,yP];omega)];congr 2;rw[wH,vN]
def Ajw(b:List UInt8)(k:Nat)(h:k+6<=b.length)(hb:b.length<100000):Sp 205 [.sl 1 Al b,Aa k] (.tup [Bi (Hz ((b.drop k).take 6)),Ab true]):=cT F205 ntmps205 λF hF=>by
 ((conv=>whnf);refine aF ?_;refine rg ?_;conv=>whnf)
 refine iW ?_
 (refine⟨λh=>False.elim (by simp at h;omega),λ_=>?_⟩;refine rg ?_;conv=>whnf)
 refine A8 6 (λj=>[(0,.sl 1 Al b),(1,Aa k),(6,Bi (Hz (((b.drop k).take 6).take j))),(17,Aa j)]) (λ_=>[]) [] kU ?_;intro j hj;have db:=O5 _ (((b.drop k).take 6).take j) rfl;refine oO ?_;constructor<;>intro h2
 .have hj6:j<6:=by have:=zO h2;omega
  have hs:=cut6 b k j hj6 h;have kf:(((b.drop k).take 6).take j).length=j:=by rw[zW,zW,yP];omega
  rw[kf]at db;have h5:Hz (((b.drop k).take 6).take j)<1099511627776:=yV db (by
   have:(256:Nat) ^ j<=256 ^ 5:=wY y_ z_;exact this)
  have dq:((k:Int)+(j:Int)).toNat<b.length:=by omega
  obtain ⟨c,hc⟩:=kE (b[((k:Int)+(j:Int)).toNat]'dq);have fu:b[k+j]'z_=c:=by rw[<-hc];congr 1
  rw[fu]at hs;have hcat:=A02 _ c h5;refine oO ?_;refine⟨by decide,?_⟩
  conv=>whnf
  refine iW ?_;refine⟨E,by omega,dq,?_⟩;rw[hc]
  conv=>whnf
  refine iW ?_;exact Ax [] hj6 ⟨⟨E,E,E,E,zH (λz:Int=>SV.val (.int .u64 z)) (hcat.trans (zH Int.ofNat hs.symm)).symm,E,E,E,q_⟩,q_,E,E⟩
 .have hj6:j=6:=by have:=zQ h2;omega
  subst hj6;rw[List.take_take,Nat.min_self];exact gJ
def Adh(a b:UInt8):Hz [a,b]=a.toNat*256+b.toNat:=by simp[Hz]
def Zk{b:List UInt8}{k:Nat}(h:k+2<=b.length):(b.drop k).take 2=[b[k]'z_,b[k+1]'z_]:=by
 rw[yO (by omega:k<b.length),yO (by omega:k+1<b.length)];rfl
def T5(b:List UInt8)(hb:b.length<100000):Sp 120 [.sl 1 Al b] (.tup [C5 (takeF b).1,Aa (takeF b).2]):=cT F120 ntmps120 λF hF=>by
 have aa:=takeF.eq_1 b;generalize takeF b=res at *
 conv=>whnf
 constructor<;>intro h
 .rw[zE (qA h)]at aa;subst aa;refine oO ?_;exact Ak 2 [Bi 0,Bi 0,Aa 0,.sl 1 Al []] E vL dN
 rw[zD (qB h)]at aa;have h14:14<=b.length:=qB h;refine gH ?_ ?_<;>intro h
 .rw[zE (qA h)]at aa;subst aa;refine oO ?_;exact Ak 2 [Bi 0,Bi 0,Aa 0,.sl 1 Al []] E vL dN
 rw[zD (qB h)]at aa;have q1:=Ajw b 0 z_ hb;have q2:=Ajw b 6 z_ hb;rw[Zk z_,Adh]at aa;have hp:=I9 (b[12]'z_) (b[13]'z_);have fh:(b.drop 14).length=b.length-14:=yP;have hn:((b.length:Int)-14)=((b.length-14:Nat):Int):=by omega
 have ns:(b.drop 14).take (List.replicate (b.length-14) (0:UInt8)).length++(List.replicate (b.length-14) (0:UInt8)).drop (b.drop 14).length=b.drop 14:=by
  have e1:(List.replicate (b.length-14) (0:UInt8)).drop (b.length-14)=[]:=vK qq;rw[vC,fh,e1,xG];exact xD z_
 have xd:(b.take b.length).drop 14=b.drop 14:=by rw[yM]
 have i12:(12:Int).toNat<b.length:=by show 12<_;omega
 have i13:(13:Int).toNat<b.length:=by show 13<_;omega
 refine oO ?_;refine gE q1 F205 ?_;refine gE q2 F205 ?_;refine iW ?_;refine Ai (B5 Γ.toTy (d:=32) (n:=b.length-14) Al 0 E E E E E E (zH (λz=>SV.val (.int .i64 z)) hn) (zH (λz=>SV.val (.int .i64 z)) hn) z_ z_ E E E) E E (oO ?_);refine Ai (Du (lo:=14) (hi:=b.length) Γ.toTy E E E E (.inr ⟨_,_,E,E⟩) (.inl ⟨E,E⟩) z_ (yG _)) E E ?_;rw[xd];refine oO ?_;refine Ai (Wy Γ.toTy E E E E E .sl) E E ?_;rw[ns];refine Aj 32 E (oO ?_);refine⟨E,by decide,i12,?_⟩
 conv=>whnf
 refine⟨by decide,?_⟩
 conv=>whnf
 refine⟨E,by decide,i13,?_⟩
 conv=>whnf
 refine kW ?_;refine Aq E (.cons (.cell E E E E) Ap) ?_ E;rw[aa];show SV.tup [.agg [_,_,Aa ((b[12].toNat*256+b[13].toNat:Nat):Int),_],_]=_;rw[<-hp];rfl
def Oe(m:Nat)(h:m<18446744073709551616):Sp 179 [Bi m] (Ab (E1 m)):=cT F179 ntmps179 λF hF=>by
 have e:=Aeo m h;refine fW ?_;refine Aq E Ap ?_ E;exact zH Ab e.symm
def Wm(f:FrameM):Sp 177 [C5 f] (Ab (decide (f.typ=33024))):=cT F177 ntmps177 λF hF=>by
 conv=>whnf
 refine Aq E Ap ?_ E;refine zH Ab ?_;rw[wO];simp;omega
def T6(p:Port)(tg:Bool)(eh:Int)(hl:An p.tagged):Sp 180 [Bd p,Ab tg,Aa eh] (.tup [Aa (vlanT p tg eh).1,Ab (vlanT p tg eh).2]):=cT F180 ntmps180 λF hF=>by
 have aa:=vlanT.eq_1 p tg eh;generalize vlanT p tg eh=res at *;have q:=D3 p.tagged eh hl;have hz:decide (p.native≠0)=(p.native != 0):=by rw[wO];simp
 rw[hz]at aa;cases tg
 .rw[zE (.inl rfl)]at aa;subst aa
  ((conv=>whnf);refine aT ?_;refine rg ?_;conv=>whnf)
  refine kW ?_;exact dN
 ((conv=>whnf);refine aF ?_;refine rg ?_;conv=>whnf)
 constructor<;>intro h
 .rw[zE (.inr (kS h))]at aa;subst aa;refine oO ?_;refine kW ?_;exact dN
 rw[zD (kS h)]at aa;refine oO ?_;refine c0 q F115 ?_;cases hi:inB p.tagged eh
 .rw[zD (by simp[hi])]at aa;subst aa;refine oF ?_;exact dN
 .rw[zE hi]at aa;subst aa;refine oT ?_;exact dN
def A0e(n:Nat)(h:n<9223372036854775808):bits .and .i64 (n:Int) 4095=((n%4096:Nat):Int):=by
 have:=Lj n 4095 h y_;rw[show ((4095:Nat):Int)=4095 from rfl]at this;rw[this];have h2:=uI n 12;rw[show 2^12-1=4095 from rfl,show 2^12=4096 from rfl]at h2;rw[h2]
def A0a{b:List UInt8}(h:4<=b.length):b.take 2=[b[0]'z_,b[1]'z_]/\(b.drop 2).take 2=[b[2]'z_,b[3]'z_]:=by
 have h1:=Zk (b:=b) (k:=0) z_;have h2:=Zk (b:=b) (k:=2) z_;exact⟨h1,h2⟩
abbrev zF:List SV:=[Bi 0,Bi 0,Aa 0,.sl 1 Al []]
def Asb(f:FrameM)(hb:f.body.length<100000):Sp 178 [C5 f] (.tup [C5 (stripT f).1,Aa (stripT f).2.1,Aa (stripT f).2.2.1,Aa (stripT f).2.2.2]):=cT F178 ntmps178 λF hF=>by
 have aa:=stripT.eq_1 f;generalize stripT f=res at *;have q0:=Wm f;obtain ⟨d,s,t,b⟩:=f;dsimp only at aa hb q0
 conv=>whnf
 refine c0 q0 F177 ?_;by_cases ht:t=33024;rotate_left
 .rw[zE ht]at aa;subst aa;rw[zL ht];refine oT ?_;exact Ak 2 zF E vL dN
 rw[zD (kS ht)]at aa;rw[zK ht];refine oF ?_;constructor<;>intro h
 .rw[zE (by have:=zO h;dsimp only at this;omega)]at aa;subst aa;refine oO ?_;exact Ak 2 zF E vL dN
 have h4:4<=b.length:=by have:=zQ h;dsimp only at this;omega
 rw[zD z_,(A0a h4).1,(A0a h4).2,Adh,Adh]at aa;have c1:=Li (b.drop 4) (by rw[yP];omega);have xd:(b.take b.length).drop 4=b.drop 4:=by rw[yM]
 rw[<-xd]at c1;have i0:(0:Int).toNat<b.length:=by show 0<_;omega
 have i1:(1:Int).toNat<b.length:=by show 1<_;omega
 have i2:(2:Int).toNat<b.length:=by show 2<_;omega
 have i3:(3:Int).toNat<b.length:=by show 3<_;omega
 have e0:b[(0:Int).toNat]'i0=b[0]'z_:=rfl;have e1:b[(1:Int).toNat]'i1=b[1]'z_:=rfl;have e2:b[(2:Int).toNat]'i2=b[2]'z_:=rfl;have e3:b[(3:Int).toNat]'i3=b[3]'z_:=rfl;have ig:=I9 (b[0]'z_) (b[1]'z_);have ff:=I9 (b[2]'z_) (b[3]'z_);have l0:=(b[0]'z_).toNat_lt;have l1:=(b[1]'z_).toNat_lt;obtain ⟨P,hP⟩:=kE ((b[0]'z_).toNat*256+(b[1]'z_).toNat);obtain ⟨Q,hQ⟩:=kE ((b[2]'z_).toNat*256+(b[3]'z_).toNat);have hPl:P<65536:=by omega
 rw[hP]at ig aa;rw[hQ]at ff aa;have ha:=A0e P z_;have hs:(P:Int).fdiv (2^(min (Int.toNat 12) IntKind.i64.bits))=((P/4096:Nat):Int):=Aql P 12 y_;refine oO ?_;refine⟨E,by decide,i0,?_⟩;rw[e0]
 conv=>whnf
 refine⟨by decide,?_⟩
 conv=>whnf
 refine⟨E,by decide,i1,?_⟩;rw[e1]
 conv=>whnf
 refine⟨j_,?_⟩;rw[ig]
 conv=>whnf
 refine⟨E,by decide,i2,?_⟩;rw[e2]
 conv=>whnf
 refine⟨by decide,?_⟩
 conv=>whnf
 refine⟨E,by decide,i3,?_⟩;rw[e3]
 conv=>whnf
 refine⟨j_,?_⟩;rw[ff]
 conv=>whnf
 refine⟨by decide,?_⟩;rw[ha,hs]
 conv=>whnf
 constructor<;>intro h
 .rw[zE (.inl (qA h))]at aa;subst aa;refine oO ?_;exact Ak 2 zF E vL dN
 have h5:¬4094<P%4096:=qB h;refine gH ?_ ?_<;>intro h
 .rw[zE (.inr (by have:(Q:Int)=33024:=(kS h);omega))]at aa;subst aa;refine oO ?_;exact Ak 2 zF E vL dN
 have h6:¬Q=33024:=λe=>by rw[e]at h;simp at h
 rw[zD z_]at aa;subst aa;refine oO ?_;refine Cc (Du (lo:=4) (hi:=b.length) Γ.toTy E E E E (.inr ⟨_,_,E,E⟩) (.inl ⟨E,E⟩) h4 (yG _)) j_ E (oD ?_);refine cD c1 F30 (gM ?_);refine Aq E (.cons (.cell E E E E) (.cons .tmp (.cons .tmp Ap))) ?_ E;show SV.tup [.agg [_,_,_,.sl 1 Al (b.drop 4)],_,_,_]=SV.tup [.agg [_,_,_,.sl 1 Al ((b.take b.length).drop 4)],_,_,_];rw[xd];rfl
def Lh(f:FrameM)(h:FrameOK f):Sq 19 [C5 f] [] (.tup [.osl 0,Aa 0]) [(0,.row 1 Al (Mn f))]:=Ak0 f.dst f.src f.typ f.body h.dst h.src h.typ h.body
def Aid(f:FrameM)(v:Nat)(h:FrameOK f)(hv:v<=4094):Sp 121 [C5 f,Aa v,Aa 0] (.tup [C5 (tagT f v).1,Aa (tagT f v).2]):=by
 have aa:=tagT.eq_1 f v;have q0:=Wm f;obtain ⟨d,s,t,b⟩:=f;have h1:=h.typ;have h2:=h.body;dsimp only at aa q0 h1 h2;by_cases ht:t=33024
 .rw[zE ht]at aa;rw[aa];rw[zK ht]at q0;refine Sw Γ hm 100 F121 ntmps121 E λF hF=>by
   conv=>whnf
   refine c0 q0 F177 ?_
   (refine oT ?_;refine bT ?_;refine bT ?_;refine bT ?_;refine bT ?_)
   exact Ak 6 zF E vL dN
 rw[zD ht]at aa;by_cases hb:1500<b.length
 .rw[zE hb]at aa;rw[aa];rw[zL ht]at q0;refine Sw Γ hm 100 F121 ntmps121 E λF hF=>by
   conv=>whnf
   refine c0 q0 F177 ?_
   (refine oF ?_;refine bF ?_)
   (refine⟨λh=>False.elim (by simp at h;omega),λ_=>?_⟩;refine rg ?_;(conv=>whnf);refine aF ?_;refine rg ?_;(conv=>whnf);refine aF ?_;refine rg ?_;(conv=>whnf);refine aF ?_;refine rg ?_;(conv=>whnf);refine⟨λh=>False.elim (by simp at h;omega),λ_=>?_⟩;refine rg ?_;(conv=>whnf);refine⟨λ_=>?_,λh=>False.elim (by simp at h;omega)⟩;refine rg ?_;conv=>whnf)
   exact Ak 6 zF E vL dN
 rw[zD hb]at aa;rw[aa];exact A07 d s t v b ht h1 hv z_
def Asa{b:List UInt8}(h:(takeF b).2≠0):(takeF b).1=noF:=by
 unfold takeF at h|-;split
 .rfl
 rw[zD (by assumption)]at h;split
 .rfl
 rw[zD (by assumption)]at h;exact zX E h
def Uw{b:List UInt8}(h:(takeF b).2=0):FrameOK (takeF b).1:=by
 unfold takeF at h|-;split
 .rw[zE (by assumption)]at h;cases h
 rw[zD (by assumption)]at h;split
 .rw[zE (by assumption)]at h;cases h
 rename_i h1 h2;have l1:((b.take 6).length)=6:=by rw[zW];omega
 have l2:(((b.drop 6).take 6).length)=6:=by rw[zW,yP];omega
 have l3:(((b.drop 12).take 2).length)=2:=by rw[zW,yP];omega
 have a1:=O5 _ _ l1;have a2:=O5 _ _ l2;have a3:=O5 _ _ l3;refine⟨a1,a2,?_,?_⟩
 .dsimp only;exact Nat.le_of_lt_succ a3
 .dsimp only;rw[yP];omega
def Awe{f:FrameM}(hf:FrameOK f)(h:(stripT f).2.2.2=0):FrameOK (stripT f).1:=by
 unfold stripT at h|-;split
 .rw[zE (by assumption)]at h;cases h
 rw[zD (by assumption)]at h;split
 .rw[zE (by assumption)]at h;cases h
 rw[zD (by assumption)]at h;split
 .rw[zE (by assumption)]at h;cases h
 rename_i h1 h2 h3;have l3:(((f.body.drop 2).take 2).length)=2:=by rw[zW,yP];omega
 have a3:=O5 _ _ l3;have hb:=hf.body;refine⟨hf.dst,hf.src,?_,?_⟩
 .dsimp only;exact Nat.le_of_lt_succ a3
 .dsimp only;rw[yP];omega
def strip_bad{f:FrameM}(h:(stripT f).2.2.2≠0):(stripT f).1=noF/\(stripT f).2.1=0:=by
 unfold stripT at h|-;split
 .exact⟨E,E⟩
 rw[zD (by assumption)]at h;split
 .exact⟨E,E⟩
 rw[zD (by assumption)]at h;split
 .exact⟨E,E⟩
 rw[zD (by assumption)]at h;exact zX E h
def Ak2(n:Net)(hn:n.Fin)(port:Int)(b:List UInt8)(hb:b.length<100000):Sp 107 [Am n,Aa port,.sl 1 Al b] (.tup [Aa (enterT n port b).1,C5 (enterT n port b).2.1,Aa (enterT n port b).2.2]):=cT F107 ntmps107 λF hF=>by
 have aa:=enterT.eq_1 n port b;generalize enterT n port b=res at *;have hr:=A0 n hn;refine fW ?_;by_cases ju:port<0
 .rw[zE (.inl (by rw[Af,zL z_];rfl))]at aa;subst aa
  (repeat (first|(refine⟨λh=>False.elim (by first|(exact zX h y_)|(simp at h;done)|(simp at h;omega)),λ_=>?_⟩;(refine fU ?_))|(refine⟨λ_=>?_,λh=>False.elim (by first|(exact zX h y_)|(simp at h;done)|(simp at h;omega))⟩;(refine fU ?_))))
  exact Ak 7 zF E vL dN
 refine⟨λh=>zX (zO h) ju,λ_=>?_⟩;refine Ba 3 8 (Am n) E E E ?_;by_cases wv:(n.ports.length:Int)<=port
 .rw[zE (.inl (by rw[Af,zL (by omega:¬port<_),wS]))]at aa;subst aa;refine fU ?_
  (repeat (first|(refine⟨λh=>False.elim (by first|(exact zX h y_)|(simp at h;done)|(simp at h;omega)),λ_=>?_⟩;(refine fU ?_))|(refine⟨λ_=>?_,λh=>False.elim (by first|(exact zX h y_)|(simp at h;done)|(simp at h;omega))⟩;(refine fU ?_))))
  exact Ak 7 zF E vL dN
 have bd:Af port n.ports.length=true:=by rw[Af,zK z_,zK z_];rfl
 refine fU ?_
 (refine⟨λh=>False.elim (by first|(exact zX h y_)|(simp at h;done)|(simp at h;omega)),λ_=>?_⟩;(refine fU ?_))
 refine c0 hr F39 ?_;cases hbn:Ac n
 .rw[zE (.inr hbn)]at aa;subst aa;refine fU ?_;exact Ak 7 zF E vL dN
 rw[zD (by simp[hbn,bd])]at aa;have fg:0<=port:=by omega
 have hk:port.toNat<n.ports.length:=by omega
 have e1:nth n.ports port=n.ports[port.toNat]:=Ag hk;have ky:=hn.tagged _ (zI hk);obtain ⟨p,hp⟩:=kE (n.ports[port.toNat]'hk);rw[hp]at e1 ky;have qt:=T5 b hb;have d7:=@Uw b;have jz:=@Asa b;generalize takeF b=tf at *;obtain ⟨f,e⟩:=tf;dsimp only at aa qt d7 jz;have qi:=Wm f;refine gN qt F120 ?_;refine gN qi F177 ?_;by_cases he:e=0;rotate_left
 .rw[zE he]at aa;subst aa;obtain rfl:=jz he;refine fU ?_
  (refine⟨λh=>False.elim (by first|(exact zX h y_)|(simp at h;done)|(simp at h;omega)),λ_=>?_⟩;(refine fU ?_))
  (refine⟨λh=>False.elim (by first|(exact zX h y_)|(simp at h;done)|(simp at h;omega)),λ_=>?_⟩;(refine fU ?_))
  refine⟨E,fg,hk,?_⟩;rw[hp];refine gP (T6 p false 0 ky) F180 ?_;refine fU ?_
  (repeat (first|(refine⟨λh=>False.elim (by first|(exact zX h y_)|(simp at h;done)|(simp at h;omega)),λ_=>?_⟩;(refine fU ?_))|(refine⟨λ_=>?_,λh=>False.elim (by first|(exact zX h y_)|(simp at h;done)|(simp at h;omega))⟩;(refine fU ?_))))
  exact Ak 7 zF E vL dN
 subst he;rw[zD y_]at aa;have o7:=d7 rfl;by_cases ht:f.typ=33024
 .rw[zE ht]at aa;rw[zK ht];have qs:=Asb f (by have:=o7.body;omega);have hso:=@Awe f o7;have hsb:=@strip_bad f;generalize stripT f=st at *;obtain ⟨g,eh,prio,e2⟩:=st;dsimp only at aa qs hso hsb;refine gN qs F178 ?_;by_cases du:e2=0;rotate_left
  .rw[zE du]at aa;subst aa;obtain ⟨rfl,rfl⟩:=hsb du;refine fU ?_
   (refine⟨λh=>False.elim (by first|(exact zX h y_)|(simp at h;done)|(simp at h;omega)),λ_=>?_⟩;(refine fU ?_))
   refine⟨E,fg,hk,?_⟩;rw[hp];refine gP (T6 p true 0 ky) F180 ?_;refine fU ?_
   (repeat (first|(refine⟨λh=>False.elim (by first|(exact zX h y_)|(simp at h;done)|(simp at h;omega)),λ_=>?_⟩;(refine fU ?_))|(refine⟨λ_=>?_,λh=>False.elim (by first|(exact zX h y_)|(simp at h;done)|(simp at h;omega))⟩;(refine fU ?_))))
   exact Ak 7 zF E vL dN
  subst du;rw[zD y_]at aa;have hgo:=hso rfl;have vc:=hgo.src;have qg:=Oe g.src z_;rw[Hw,e1]at aa;have qv:=T6 p true eh ky;have qd:=Kt n hn p.dev (vlanT p true eh).1;refine gN qg F179 ?_;cases y1:E1 g.src;rotate_left
  .rw[zE y1]at aa;subst aa;refine fU ?_;refine⟨E,fg,hk,?_⟩;rw[hp];refine gP qv F180 ?_;refine fU ?_
   (repeat (first|(refine⟨λh=>False.elim (by first|(exact zX h y_)|(simp at h;done)|(simp at h;omega)),λ_=>?_⟩;(refine fU ?_))|(refine⟨λ_=>?_,λh=>False.elim (by first|(exact zX h y_)|(simp at h;done)|(simp at h;omega))⟩;(refine fU ?_))))
   exact Ak 7 zF E vL dN
  rw[zD (by simp[y1])]at aa;refine fU ?_;refine⟨E,fg,hk,?_⟩;rw[hp];refine gP qv F180 ?_;generalize vlanT p true eh=vl at *;obtain ⟨vl,vok⟩:=vl;dsimp only at aa qd|-;cases vok
  .rw[zE rfl]at aa;subst aa;refine fU ?_;exact Ak 7 zF E vL dN
  rw[zD qq]at aa;subst aa;refine fU ?_;refine cD qd F181 (fU ?_);refine⟨j_,?_⟩;refine fW ?_;exact dN
 .rw[zD ht]at aa;rw[zL ht];have hgo:=o7;have vc:=hgo.src;have qg:=Oe f.src z_;rw[Hw,e1]at aa;have qv:=T6 p false 0 ky;have qd:=Kt n hn p.dev (vlanT p false 0).1;refine gN qg F179 ?_;cases y1:E1 f.src;rotate_left
  .rw[zE y1]at aa;subst aa;refine fU ?_;refine⟨E,fg,hk,?_⟩;rw[hp];refine gP qv F180 ?_;refine fU ?_
   (repeat (first|(refine⟨λh=>False.elim (by first|(exact zX h y_)|(simp at h;done)|(simp at h;omega)),λ_=>?_⟩;(refine fU ?_))|(refine⟨λ_=>?_,λh=>False.elim (by first|(exact zX h y_)|(simp at h;done)|(simp at h;omega))⟩;(refine fU ?_))))
   exact Ak 7 zF E vL dN
  rw[zD (by simp[y1])]at aa;refine fU ?_;refine⟨E,fg,hk,?_⟩;rw[hp];refine gP qv F180 ?_;generalize vlanT p false 0=vl at *;obtain ⟨vl,vok⟩:=vl;dsimp only at aa qd|-;cases vok
  .rw[zE rfl]at aa;subst aa;refine fU ?_;exact Ak 7 zF E vL dN
  rw[zD qq]at aa;subst aa;refine fU ?_;refine cD qd F181 (fU ?_);refine⟨j_,?_⟩;refine fW ?_;exact dN
def B3{i:Int}{n:Nat}(h:Af i n=true):0<=i/\i<n:=by simpa [Af] using h
def Qc(i:Int)(n:Nat):Sp 246 [Aa i,Aa n] (Ab (Af i n)):=cT F246 ntmps246 λF hF=>by
 conv=>whnf
 (repeat' (first|(refine⟨λh=>?_,λh=>?_⟩<;>(repeat (first|simp only[zJ]at h|simp only[zY]at h))<;>((refine oO ?_)))|(refine Aq rfl Ap ?_ rfl)))
 all_goals (refine zH Ab ?_)
 all_goals grind [Af]
def Aou(n:Net)(f:FrameM)(h:FrameOK f)(v:Int):Sp 248 [Am n,C5 f,Aa v] (.tup [.sl 1 Al (Mn f),Aa 0]):=cT F248 ntmps248 λF hF=>by
 conv=>whnf
 exact Ai (Ad [(0,55)] E F19 (Lh f h) E q_ E ⟨.inr E,q_⟩) E E (Aj 55 E gJ)
def Awa{f:FrameM}(hf:FrameOK f)(v:Nat)(_hv:v<=4094)(h:(tagT f v).2=0):FrameOK (tagT f v).1:=by
 unfold tagT at h|-;split
 .rw[zE (by assumption)]at h;cases h
 rw[zD (by assumption)]at h;split
 .rw[zE (by assumption)]at h;cases h
 refine⟨hf.dst,hf.src,?_,?_⟩
 .show (33024:Nat)<=65535;decide
 .dsimp only;simp;omega
def Agr(n:Net)(f:FrameM)(h:FrameOK f)(v:Nat)(hv:v<=4094):Sp 247 [Am n,C5 f,Aa v] (.tup [.sl 1 Al (if (tagT f v).2≠0 then [] else Mn (tagT f v).1),Aa (if (tagT f v).2≠0 then (tagT f v).2 else 0)]):=by
 have q:=Aid f v h hv;have ho:=Awa h v hv;generalize tagT f v=t at *;obtain ⟨g,e⟩:=t;dsimp only at q ho|-;refine Sw Γ hm 100 F247 ntmps247 E λF hF=>by
  conv=>whnf
  refine gE q F121 ?_;by_cases he:e=0
  .subst he
   (refine⟨λh=>False.elim (zX h y_),λ_=>?_⟩;refine rg ?_;conv=>whnf)
   refine Ba 8 4 (C5 g) E E E (oO ?_);exact Ai (Ad [(0,55)] E F19 (Lh g (ho E)) E q_ E ⟨.inr E,q_⟩) E E (Aj 55 E gJ)
  .rw[zE he,zE he]
   (refine⟨λ_=>?_,λh=>False.elim (by simp at h;omega)⟩;refine rg ?_;conv=>whnf)
   exact Ao 6 1 Al E dN
def Y2{n:Net}(h:Ac n=true){i:Nat}(hi:i<n.domains.length):1<=n.domains[i].vlan/\n.domains[i].vlan<=4094:=by
 simp only[Ac,zG]at h;have hb:H9 (Ov n) n.domains=true:=h.1.1.1.1.1.1.1.2;have:=allB_iff.1 hb i hi;simp only[Ov,zG,zJ]at this;omega
def Ayy(n:Net)(hn:n.Fin)(port dom:Int)(f:FrameM)(h:FrameOK f):Sp 189 [Am n,Aa port,Aa dom,C5 f] (.tup [.sl 1 Al (leaveT n port dom f).1,Aa (leaveT n port dom f).2]):=cT F189 ntmps189 λF hF=>by
 have aa:=leaveT.eq_1 n port dom f;generalize leaveT n port dom f=res at *;have hr:=A0 n hn;have hpS:=Qc port n.ports.length;have hdS:=Qc dom n.domains.length
 conv=>whnf
 refine c0 hpS F246 ?_;cases bd:Af port n.ports.length
 .rw[zE (.inl bd)]at aa;subst aa
  (refine oT ?_;refine bT ?_;refine bT ?_)
  exact Ao 8 1 Al E dN
 refine oF ?_;refine c0 hdS F246 ?_;cases fh:Af dom n.domains.length
 .rw[zE (.inr (.inl fh))]at aa;subst aa
  (refine oT ?_;refine bT ?_)
  exact Ao 8 1 Al E dN
 refine oF ?_;refine c0 hr F39 ?_;cases hbn:Ac n
 .rw[zE (.inr (.inr hbn))]at aa;subst aa;refine oT ?_;exact Ao 8 1 Al E dN
 rw[zD (by simp[hbn,bd,fh])]at aa;have j0:=B3 bd;have m6:=B3 fh;have fg:0<=port:=j0.1;have r7:0<=dom:=m6.1;have hk:port.toNat<n.ports.length:=by omega
 have cm:dom.toNat<n.domains.length:=by omega
 have e1:nth n.ports port=n.ports[port.toNat]:=Ag hk;have e2:nth n.domains dom=n.domains[dom.toNat]:=Ag cm;have ky:=hn.tagged _ (zI hk);have hv:=Y2 hbn cm;obtain ⟨p,hp⟩:=kE (n.ports[port.toNat]'hk);obtain ⟨d,hd⟩:=kE (n.domains[dom.toNat]'cm);rw[hp]at e1 ky;rw[hd]at e2 hv;rw[e1,e2]at aa;have qm:=aD p d.vlan ky;refine oF ?_;refine⟨E,fg,hk,E,r7,cm,?_⟩;rw[hp,hd]
 conv=>whnf
 refine kW ?_;constructor<;>intro h1
 .rw[zE (.inl (kS h1))]at aa;subst aa;refine oT ?_;exact Ao 8 1 Al E dN
 refine Ba 10 7 (Bd p) E E E (oO ?_);refine c0 qm F150 ?_;cases bf:Cz p d.vlan
 .rw[zE (.inr bf)]at aa;subst aa;refine oT ?_;exact Ao 8 1 Al E dN
 rw[zD (by simp at h1;simp[bf,h1])]at aa;have qt:=Wm f;by_cases ht:f.typ=33024
 .rw[zE ht]at aa;subst aa;rw[zK ht]at qt;refine oF ?_;refine c0 qt F177 (oT ?_);exact Ao 8 1 Al E dN
 rw[zD ht]at aa;rw[zL ht]at qt;refine oF ?_;refine c0 qt F177 (oF ?_);constructor<;>intro h2
 .rw[zE (kS h2)]at aa;subst aa;refine oO ?_;refine D4 ⟨⟨_,_,F248⟩,Aou n f h d.vlan⟩ E E E E E E ?_;exact gJ
 rw[zD (kS h2)]at aa;refine oO ?_;have hv0:(d.vlan.toNat:Int)=d.vlan:=by omega
 have qg:=Agr n f h d.vlan.toNat z_;rw[hv0]at qg;refine D4 ⟨⟨_,_,F247⟩,qg⟩ E E E E E E ?_;refine oO ?_;by_cases he:(tagT f d.vlan).2=0
 .rw[zD (kS he)]at aa;subst aa;rw[zD (kS he),zD (kS he)];exact dN
 .rw[zE he]at aa;subst aa;rw[zE he,zE he];exact dN
def inB_mem{l:List Int}{x:Int}:inB l x=true↔x∈l:=by
 simp[inB]
def Aos(n:Net)(hn:n.Fin)(port:Int)(b:List UInt8)(hb:b.length<100000):Sp 193 [Am n,Aa port,.sl 1 Al b] (.tup [Aa (linkT n port b).1,Aa (linkT n port b).2.1,C5 (linkT n port b).2.2.1,Aa (linkT n port b).2.2.2]):=cT F193 ntmps193 λF hF=>by
 have aa:=linkT.eq_1 n port b;generalize linkT n port b=res at *;have qo:=aH n hn port;have qe:=Ak2 n hn (Bv n port) b hb;generalize Bv n port=o at *
 conv=>whnf
 refine gE qo F252 ?_;constructor<;>intro h1
 .rw[zE (kS h1)]at aa;subst aa;refine oO ?_;exact Ak 8 zF E vL dN
 rw[zD (kS h1)]at aa;refine oO ?_;refine c0 qe F107 ?_;generalize enterT n o b=en at *;obtain ⟨x1,g,x2⟩:=en;subst aa;refine oO ?_;refine kW ?_;exact dN
end
section
def Qk(l:List Nat):(Dj l).length=2*l.length:=by
 induction l with
 |nil=>rfl
 |cons a l ih=>simp only[Dj,vZ,zU,yL,xK]at ih|-;omega
def Lq(l:List Nat)(n:Nat):Dj (l++[n])=Dj l++[UInt8.ofNat (n/256),UInt8.ofNat n]:=by simp[Dj]
def Sd(b:List UInt8)(k m:Nat):numAt b k m<256^m:=by
 have h:=O5 _ ((b.drop k).take m) rfl;have h2:((b.drop k).take m).length<=m:=by rw[zW];omega
 exact yV h (wY y_ h2)
def Yq{b:List UInt8}{k:Nat}(h:k+2<=b.length):numAt b k 2=(b[k]'z_).toNat*256+(b[k+1]'z_).toNat:=by
 rw[numAt,Zk h,Adh]
def Ahn{b:List UInt8}{k:Nat}(h:k<b.length):bAt b k=b[k]:=Ao8 h
def Av9{b:List UInt8}{k:Nat}(h:k+3<=b.length):(b.drop k).take 3=[b[k]'z_,b[k+1]'z_,b[k+2]'z_]:=by
 rw[yO z_,yO (i:=k+1) z_,yO (i:=k+2) z_];rfl
def Av8{b:List UInt8}{k:Nat}(h:k+4<=b.length):(b.drop k).take 4=[b[k]'z_,b[k+1]'z_,b[k+2]'z_,b[k+3]'z_]:=by
 rw[yO z_,yO (i:=k+1) z_,yO (i:=k+2) z_,yO (i:=k+3) z_];rfl
def numAt3{b:List UInt8}{k:Nat}(h:k+3<=b.length):numAt b k 3=((b[k]'z_).toNat*256+(b[k+1]'z_).toNat)*256+(b[k+2]'z_).toNat:=by
 rw[numAt,Av9 h];simp[Hz]
def Aoa{b:List UInt8}{k:Nat}(h:k+4<=b.length):numAt b k 4=numAt b k 2*65536+numAt b (k+2) 2:=by
 have e:b[k+2+1]'z_=b[k+3]'z_:=rfl;rw[numAt,Av8 h,Yq z_,Yq z_,e];simp[Hz];omega
def Es(f:FrameM):(Mn f).length=14+f.body.length:=by
 simp[Mn,frame,Dh];omega
def Jp(p:PacketM)(s:Nat):(Hi p s).length=20:=by rw[Hi,Qk];rfl
def Kd(p:PacketM):(Jq p).length=20+p.body.length:=by rw[Jq,zU,Jp]
def Uv(s d:Nat)(b:List UInt8):(fX s d b).length=8+b.length:=by rw[fX,zU,Qk];rfl
def Hu(v:Nat):(K0 v).length=8:=rfl
def Ef:FrameOK noF:=⟨by decide,by decide,by decide,by decide⟩
def Vs(ip:Nat)(h:ip<4294967296):D7 ip<281474976710656:=by rw[D7,yE];omega
def Acr(n:Net)(port dom:Int)(f:FrameM)(hf:FrameOK f):(leaveT n port dom f).1.length<=1518:=by
 have h4:=hf.body;unfold leaveT;split
 .simp
 split
 .simp
 split
 .simp
 split
 .rw[Es];omega
 split
 .simp
 .rw[Es];rename_i h;have h2:(tagT f (nth n.domains dom).vlan).2=0:=Classical.byContradiction h;unfold tagT at h2|-;split
  .rw[zE (by assumption)]at h2;cases h2
  rw[zD (by assumption)]at h2;split
  .rw[zE (by assumption)]at h2;cases h2
  .dsimp only;simp;omega
def Yx{b:List UInt8}(h:(ipTakeT b).2=0):PacketOK (ipTakeT b).1/\(ipTakeT b).1.body.length+20<=b.length:=by
 unfold ipTakeT at h|-;split
 .rw[zE (by assumption)]at h;cases h
 rw[zD (by assumption)]at h;split
 .rw[zE (by assumption)]at h;cases h
 rw[zD (by assumption)]at h;split
 .rw[zE (by assumption)]at h;cases h
 rw[zD (by assumption)]at h;split
 .rw[zE (by assumption)]at h;cases h
 rw[zD (by assumption)]at h;split
 .rw[zE (by assumption)]at h;cases h
 have l1:=(bAt b 1).toNat_lt;have l8:=(bAt b 8).toNat_lt;have l9:=(bAt b 9).toNat_lt;have n4:=Sd b 4 2;have n12:=Sd b 12 4;have n16:=Sd b 16 4;refine⟨⟨?_,?_,?_,?_,?_,?_⟩,?_⟩
 .show (bAt b 1).toNat<=255;omega
 .show numAt b 4 2<=65535;omega
 .show (bAt b 8).toNat<=255;omega
 .show (bAt b 9).toNat<=255;omega
 .exact n12
 .exact n16
 .show ((b.take (numAt b 2 2)).drop 20).length+20<=b.length;rw[yP,zW];omega
def A29{b:List UInt8}(h:(ipTakeT b).2≠0):(ipTakeT b).1=noP:=by
 unfold ipTakeT at h|-;split
 .rfl
 rw[zD (by assumption)]at h;split
 .rfl
 rw[zD (by assumption)]at h;split
 .rfl
 rw[zD (by assumption)]at h;split
 .rfl
 rw[zD (by assumption)]at h;split
 .rfl
 rw[zD (by assumption)]at h;exact zX E h
def Aob:PacketOK noP:=⟨by decide,by decide,by decide,by decide,by decide,by decide⟩
def Yf:∀(l:List Nat) (j:Nat),j<=l.length->(∀n∈l,n<4294967296)->O2 (Dj l) j=((l.take j).map (·%65536)).sum
 |l,0,_,_=>by simp[O2]
 |l,j+1,h,hl=>by
  have ih:=Yf l j z_ hl;have hj:j<l.length:=by omega
  have e1:(Dj l).getD (2*j) 0=UInt8.ofNat (l[j]/256)/\(Dj l).getD (2*j+1) 0=UInt8.ofNat l[j]:=by
   clear ih hl
   induction l generalizing j with
   |nil=>simp at hj
   |cons a l t8=>
    cases j with
    |zero=>simp[Dj]
    |succ j=>
     have:=t8 j (kS h) (kS hj);rw[Dj,vZ,show 2*(j+1)+1=(2*j+1)+1+1 by omega,show 2*(j+1)=2*j+1+1 by omega];simpa [Dj] using this
  rw[O2,ih,e1.1,e1.2,yA hj,xY,List.sum_append];have hx:=hl l[j] (zI hj);generalize l[j]=x at *;simp only[xZ,vS,List.sum_cons,List.sum_nil,Ev];omega
def dY{p:PacketM}(hp:PacketOK p)(hb:p.body.length<=1480)(s:Nat)(hs:s<=65535):∀n∈[17664+p.tos,20+p.body.length,p.id,0,p.ttl*256+p.proto,s,p.src/65536,p.src,p.dst/65536,p.dst],n<4294967296:=by
 have h1:=hp.tos;have h2:=hp.proto;have h3:=hp.ttl;have h4:=hp.id;have h5:=hp.src;have h6:=hp.dst;intro n hn;simp only[yH,xP,vQ]at hn;rcases hn with rfl|rfl|rfl|rfl|rfl|rfl|rfl|rfl|rfl|rfl<;>omega
def Ao0(p:PacketM)(s:Nat):((Hi p 0).set 10 (UInt8.ofNat (s/256))).set 11 (UInt8.ofNat s)=Hi p s:=by
 simp only[Hi,Dj,vZ,List.flatMap_nil,wB,wC,List.set_cons_succ,uP]
def Avm(a b v:Nat)(f:FrameM)(ha:a<4294967296)(hb:b<4294967296):PacketOK (K8 a b v f):=⟨xX _,xX _,by show (64:Nat)<=255;decide,by show (17:Nat)<=255;decide,ha,hb⟩
def Mi(a b v:Nat)(f:FrameM):(K8 a b v f).body.length=30+f.body.length:=by
 simp only[K8,Uv,zU,Hu,Es];omega
def Afk(a b:Nat)(v:Int)(f:FrameM):(wrapT a b v f).1.length<=1514:=by
 unfold wrapT;split
 .simp
 split
 .simp
 split
 .simp
 .simp only[frame,zU,Dh,Kd,Mi,yL,xK];omega
def Ago(n:Net)(dom peer:Int)(f:FrameM):(meshT n dom peer f).1.length<=1514:=by
 unfold meshT;split
 .simp
 split
 .simp
 .exact Afk _ _ _ _
def A0t{b:List UInt8}:(udpTakeT b).2.2.1.length<=b.length:=by
 unfold udpTakeT
 repeat' split
 all_goals first|(simp;done)|(simp only[yP,zW];omega)
def vniT_body{b:List UInt8}:(vniT b).2.1.length<=b.length:=by
 unfold vniT
 repeat' split
 all_goals first|(simp;done)|(simp only[yP];omega)
def cY(b:List UInt8):PacketOK (outerT b).1/\(outerT b).1.body.length<=b.length:=by
 unfold outerT;split
 .exact⟨Aob,by simp[noP]⟩
 split
 .exact⟨Aob,by simp[noP]⟩
 split
 .exact⟨Aob,by simp[noP]⟩
 .rename_i h1 h2 h3;have h4:(takeF b).2=0:=Classical.byContradiction h1;have h5:(ipTakeT (takeF b).1.body).2=0:=Classical.byContradiction h3;obtain ⟨h6,h7⟩:=Yx h5;refine⟨h6,?_⟩;have h8:(takeF b).1.body.length<=b.length:=by
   unfold takeF
   repeat' split
   all_goals simp[noF]
  dsimp only;omega
def Aeh(b:List UInt8):FrameOK (Ma b).2.1/\0<=(Ma b).1:=by
 unfold Ma
 repeat' split
 all_goals first|exact⟨Ef,xN _⟩|skip
 rename_i h1 h2 h3 h4 h5;refine⟨Uw (Classical.byContradiction h4),?_⟩;show 0<=(vniT (udpTakeT b).2.2.1).1;unfold vniT
 repeat' split
 all_goals omega
def nC(b:List UInt8):(Ck b).1<4294967296/\(Ck b).2.1<4294967296/\0<=(Ck b).2.2.1/\FrameOK (Ck b).2.2.2.1:=by
 unfold Ck;split
 .exact⟨Nat.zero_lt_succ _,Nat.zero_lt_succ _,xN _,Ef⟩
 split
 .exact⟨Nat.zero_lt_succ _,Nat.zero_lt_succ _,xN _,Ef⟩
 .exact⟨(cY b).1.src,(cY b).1.dst,(Aeh _).2,(Aeh _).1⟩
def Aex(n:Net)(port:Int)(f:FrameM)(hf:FrameOK f)(tg:Bool)(eh:Int):FrameOK (Hw n port f tg eh).2.1:=by
 unfold Hw;split
 .exact Ef
 split
 .exact Ef
 .exact hf
def dK(n:Net)(port:Int)(b:List UInt8):FrameOK (enterT n port b).2.1:=by
 unfold enterT;split
 .exact Ef
 split
 .exact Ef
 rename_i h1 h2;have h3:=Uw (Classical.byContradiction h2);split
 .split
  .exact Ef
  .rename_i h5;exact Aex _ _ _ (Awe h3 (Classical.byContradiction h5)) _ _
 .exact Aex _ _ _ h3 _ _
def Aj6(n:Net)(port:Int)(b:List UInt8):FrameOK (linkT n port b).2.2.1:=by
 unfold linkT;split
 .exact Ef
 .exact dK _ _ _
def Ale(n:Net)(b:List UInt8):FrameOK (comeT n b).2.2.1:=by
 unfold comeT;split
 .exact Ef
 split
 .exact Ef
 split
 .exact Ef
 split
 .exact Ef
 .exact(nC b).2.2.2
def A19(n:Net)(hm:n.Num)(irb:Int)(f:FrameM)(az:∀(d:Int),(lookT n irb d).2=true->0<=(lookT n irb d).1/\(lookT n irb d).1.toNat<n.irbs.length):FrameOK (hopT n irb f).2.1:=by
 unfold hopT;split
 .exact Ef
 split
 .exact Ef
 split
 .exact Ef
 split
 .exact Ef
 split
 .exact Ef
 split
 .exact Ef
 rename_i h1 h2 h3 h4 h5 h6;have hp:=(Yx (Classical.byContradiction h3)).1;have hl:=az ((ipTakeT f.body).1.dst:Int) (kS h5);have ha:=hm.addr _ (zI hl.2);rw[<-Ag hl.2]at ha;refine⟨Vs _ hp.dst,?_,?_,?_⟩
 .show D7 (nth n.irbs _).addr<_;rw[D7];omega
 .show (2048:Nat)<=65535;decide
 .show (Jq (Akq (ipTakeT f.body).1)).length<=1504;rw[Kd];show 20+(ipTakeT f.body).1.body.length<=1504;omega
attribute [local irreducible]G DR
set_option maxRecDepth 100000
def lI(a b:Nat)(ha:a<4294967296)(hb:b<4294967296):bits .or .u32 (a:Int) (b:Int)=((a|||b:Nat):Int):=by
 have hx:a|||b<2^32:=Nat.or_lt_two_pow z_ z_;have h1:(BitVec.ofInt 32 (a:Int)).toNat=a:=by
  rw[BitVec.ofInt_natCast,BitVec.toNat_ofNat];exact xH z_
 have h2:(BitVec.ofInt 32 (b:Int)).toNat=b:=by
  rw[BitVec.ofInt_natCast,BitVec.toNat_ofNat];exact xH z_
 show IntKind.u32.wrap ((BitVec.ofInt 32 (a:Int)|||BitVec.ofInt 32 (b:Int)).toNat:Int)=_;rw[BitVec.toNat_or,h1,h2,IntKind.wrap_u32];omega
def Arl(x:UInt8)(k:UInt8):((x.toNat:Int) != (k.toNat:Int))=decide (x≠k):=by
 rw[wO];simp only[xC,zJ,ne_eq,<-UInt8.toNat_inj];omega
def aL(b:List UInt8)(k:Nat)(h:k+2<=b.length)(hb:b.length<100000):Sp 311 [.sl 1 Al b,Aa k] (Aa (numAt b k 2)):=cT F311 ntmps311 λF hF=>by
 have i0:(k:Int).toNat<b.length:=by simpa using (by omega:k<b.length)
 have i1:((k:Int)+1).toNat<b.length:=by omega
 have e0:b[(k:Int).toNat]'i0=b[k]'z_:=rfl;have e1:b[((k:Int)+1).toNat]'i1=b[k+1]'z_:=rfl;have hp:=I9 (b[k]'z_) (b[k+1]'z_);have hn:=Yq h;rw[<-hn]at hp
 conv=>whnf
 refine⟨E,by omega,i0,?_⟩;rw[e0]
 conv=>whnf
 refine⟨by decide,?_⟩
 conv=>whnf
 refine iW ?_;refine⟨E,by omega,i1,?_⟩;rw[e1]
 conv=>whnf
 refine⟨j_,?_⟩;rw[hp]
 conv=>whnf
 exact dN
def Av2(x y:Nat)(hx:x<65536)(hy:y<65536):bits .or .u32 (IntKind.u32.wrap ((IntKind.u32.wrap (x:Int))*2^min (Int.toNat 16) IntKind.u32.bits)) (IntKind.u32.wrap (y:Int))=((x*65536+y:Nat):Int):=by
 have e1:IntKind.u32.wrap (x:Int)=(x:Int):=by rw[IntKind.wrap_u32];omega
 have e2:IntKind.u32.wrap (y:Int)=(y:Int):=by rw[IntKind.wrap_u32];omega
 rw[e1,e2];have e3:IntKind.u32.wrap ((x:Int)*2^min (Int.toNat 16) IntKind.u32.bits)=((x*65536:Nat):Int):=by
  show IntKind.u32.wrap ((x:Int)*65536)=_;rw[IntKind.wrap_u32];omega
 rw[e3,lI _ _ z_ z_];congr 1;have h:=xS (i:=16) (b:=y) z_ x;rw[vE x 65536];exact h.symm
def Aq5(b:List UInt8)(k:Nat)(h:k+4<=b.length)(hb:b.length<100000):Sp 313 [.sl 1 Al b,Aa k] (A9 (numAt b k 4)):=cT F313 ntmps313 λF hF=>by
 have q1:=aL b k z_ hb;have q2:=aL b (k+2) z_ hb;rw[show ((k+2:Nat):Int)=(k:Int)+2 by omega]at q2;have hf:=Av2 (numAt b k 2) (numAt b (k+2) 2) (by have:=Sd b k 2;omega) (by have:=Sd b (k+2) 2;omega);rw[<-Aoa h]at hf
 conv=>whnf
 refine gE q1 F311 ?_;refine⟨by decide,?_⟩
 conv=>whnf
 refine iW ?_;refine gE q2 F311 ?_;rw[hf];exact dN
def Asd(l:List UInt8)(hl:l.length<100000)(h2:l.length%2=0):Sp 312 [.sl 1 Al l] (Ab (decide (H7 (O2 l (l.length/2))=65535))):=cT F312 ntmps312 λF hF=>by
 have ha:=Aqk l hl h2
 conv=>whnf
 refine gE ha F336 ?_;refine Aq E Ap (zH Ab ?_) E;rw[wO];simp only[yJ,zJ];omega
abbrev zP:List SV:=[Aa 0,Aa 0,Aa 0,Aa 0,A9 0,A9 0,.sl 1 Al []]
def Aq4(b:List UInt8)(hb:b.length<100000):Sp 242 [.sl 1 Al b] (.tup [Z5 (ipTakeT b).1,Aa (ipTakeT b).2]):=cT F242 ntmps242 λF hF=>by
 have aa:=ipTakeT.eq_1 b;generalize ipTakeT b=res at *
 conv=>whnf
 constructor<;>intro h
 .rw[zE (qA h)]at aa;subst aa;refine oO ?_;exact Ak 2 zP E vL dN
 have h20:20<=b.length:=qB h;rw[zD z_]at aa;clear h;have i0:(0:Int).toNat<b.length:=by show 0<_;omega
 have i1:(1:Int).toNat<b.length:=by show 1<_;omega
 have i8:(8:Int).toNat<b.length:=by show 8<_;omega
 have i9:(9:Int).toNat<b.length:=by show 9<_;omega
 have e0:b[(0:Int).toNat]'i0=bAt b 0:=(Ahn z_).symm;have q2:=aL b 2 z_ hb;have q4:=aL b 4 z_ hb;have q6:=aL b 6 z_ hb;have q12:=Aq5 b 12 z_ hb;have q16:=Aq5 b 16 z_ hb;have y2:(b.take 20).length=20:=by rw[zW];omega
 have hdiv:(b.take 20).length/2=10:=by rw[y2]
 have qs:=Asd (b.take 20) z_ (by rw[y2]);rw[hdiv]at qs;refine oO ?_;refine⟨E,by decide,i0,?_⟩;rw[e0]
 conv=>whnf
 constructor<;>intro h
 .rw[zE (.inl (by rw[show ((69:Int))=((69:UInt8).toNat:Int) from rfl,Arl]at h;exact zO h))]at aa;subst aa;refine oT ?_;exact Ak 2 zP E vL dN
 have h69:¬bAt b 0≠69:=by rw[show ((69:Int))=((69:UInt8).toNat:Int) from rfl,Arl]at h;exact zQ h
 clear h;refine oO ?_;refine gE q2 F311 ?_;constructor<;>intro h
 .rw[zE (.inr (qA h))]at aa;subst aa;refine oO ?_;exact Ak 2 zP E vL dN
 have hs20:20<=numAt b 2 2:=qB h;rw[zD (λh=>h.elim h69 z_)]at aa;clear h;refine oO ?_;refine gE q2 F311 ?_;constructor<;>intro h
 .rw[zE (qA h)]at aa;subst aa;refine oO ?_;exact Ak 2 zP E vL dN
 have m7:numAt b 2 2<=b.length:=qB h;rw[zD z_]at aa;clear h;refine oO ?_;refine gE q6 F311 ?_;constructor<;>intro h
 .rw[zE (by have:(numAt b 6 2:Int)≠0:=(kS h);omega)]at aa;subst aa;refine oO ?_;exact Ak 2 zP E vL dN
 rw[zD (by have:(numAt b 6 2:Int)=0:=(kS h);omega)]at aa;clear h;refine oO ?_;refine Ai (Du (lo:=0) (hi:=20) Γ.toTy E E E E (.inl ⟨E,E⟩) (.inr ⟨_,_,E,E⟩) z_ h20) E E (oO ?_);refine c0 qs F312 ?_;by_cases ma:H7 (O2 (b.take 20) 10)=65535;rotate_left
 .rw[zE ma]at aa;subst aa;rw[zL ma];refine oT ?_;exact Ak 2 zP E vL dN
 rw[zD (λh=>h ma)]at aa;subst aa;rw[zK ma];have qc:=Li ((b.take (numAt b 2 2)).drop 20) (by rw[yP,zW];omega);have w1:IntKind.i64.wrap ((b[(1:Int).toNat]'i1).toNat:Int)=((bAt b 1).toNat:Int):=by
  rw[Ahn (show 1<b.length by omega)];have:=(b[1]'z_).toNat_lt;show IntKind.i64.wrap ((b[1]'z_).toNat:Int)=_;rw[IntKind.wrap_i64];omega
 have w8:IntKind.i64.wrap ((b[(8:Int).toNat]'i8).toNat:Int)=((bAt b 8).toNat:Int):=by
  rw[Ahn (show 8<b.length by omega)];have:=(b[8]'z_).toNat_lt;show IntKind.i64.wrap ((b[8]'z_).toNat:Int)=_;rw[IntKind.wrap_i64];omega
 have w9:IntKind.i64.wrap ((b[(9:Int).toNat]'i9).toNat:Int)=((bAt b 9).toNat:Int):=by
  rw[Ahn (show 9<b.length by omega)];have:=(b[9]'z_).toNat_lt;show IntKind.i64.wrap ((b[9]'z_).toNat:Int)=_;rw[IntKind.wrap_i64];omega
 refine oF ?_;refine⟨E,by decide,i1,?_⟩
 conv=>whnf
 refine cD q4 F311 (oD ?_);refine⟨E,by decide,i8,?_⟩
 conv=>whnf
 refine⟨E,by decide,i9,?_⟩
 conv=>whnf
 refine cD q12 F313 (oD ?_);refine cD q16 F313 (oD ?_);refine cD q2 F311 (oD ?_);refine Cc (Du (lo:=20) (hi:=numAt b 2 2) Γ.toTy E E E E (.inr ⟨_,_,E,E⟩) (.inr ⟨_,_,E,E⟩) hs20 m7) j_ E (oD ?_);refine cD qc F30 (gM ?_);refine Aq E (.cons (.cell E E E E) Ap) ?_ E;show SV.tup [.agg [Aa (bAt b 1).toNat,_,Aa (bAt b 8).toNat,Aa (bAt b 9).toNat,_,_,_],_]=SV.tup [.agg [Aa (IntKind.i64.wrap ((b[(1:Int).toNat]'i1).toNat:Int)),_,Aa (IntKind.i64.wrap ((b[(8:Int).toNat]'i8).toNat:Int)),Aa (IntKind.i64.wrap ((b[(9:Int).toNat]'i9).toNat:Int)),_,_,_],_];rw[w1,w8,w9];rfl
def Axm(t:Nat)(h:t<=255):bits .or .i64 17664 (t:Int)=((17664+t:Nat):Int):=by
 have h1:=Er 17664 t y_ z_;rw[show ((17664:Nat):Int)=17664 from rfl]at h1;rw[h1];congr 1;have h2:=xS (i:=8) (b:=t) z_ 69;rw[show 2^8*69=17664 from rfl]at h2;rw[<-h2]
def A1m(x y:Nat)(hx:x<=255)(hy:y<=255):bits .or .i64 (IntKind.i64.wrap ((x:Int)*2^min (Int.toNat 8) IntKind.i64.bits)) (y:Int)=((x*256+y:Nat):Int):=by
 have h3:IntKind.i64.wrap ((x:Int)*2^min (Int.toNat 8) IntKind.i64.bits)=((x*256:Nat):Int):=by
  show IntKind.i64.wrap ((x:Int)*256)=_;rw[IntKind.wrap_i64];omega
 rw[h3,Er _ _ z_ z_];congr 1;have h:=xS (i:=8) (b:=y) z_ x;rw[vE x 256];exact h.symm
def Akr(x:Nat)(h:x<4294967296):IntKind.i64.wrap ((x:Int).fdiv (2^(min (Int.toNat 16) IntKind.u32.bits)))=((x/65536:Nat):Int):=by
 show IntKind.i64.wrap ((x:Int).fdiv 65536)=_;rw[wP _ y_,IntKind.wrap_i64];omega
def Aqz(x:Nat)(h:x<4294967296):IntKind.i64.wrap (x:Int)=(x:Int):=by rw[IntKind.wrap_i64];omega
def Agt(p:PacketM)(hp:PacketOK p)(hb:p.body.length<100000):Sp 203 [Z5 p] (.tup [.sl 1 Al (ipPutT p).1,Aa (ipPutT p).2]):=cT F203 ntmps203 λF hF=>by
 have aa:=ipPutT.eq_1 p;generalize ipPutT p=res at *;have h1:=hp.tos;have h2:=hp.id;have h3:=hp.ttl;have h4:=hp.proto;have h5:=hp.src;have h6:=hp.dst
 conv=>whnf
 refine D4 ⟨⟨_,_,F258⟩,Afy p.tos 255 z_⟩ E E E E E E ?_;refine oF ?_;refine D4 ⟨⟨_,_,F258⟩,Afy p.ttl 255 z_⟩ E E E E E E ?_;refine oF ?_;refine D4 ⟨⟨_,_,F258⟩,Afy p.proto 255 z_⟩ E E E E E E ?_;refine oF ?_;refine D4 ⟨⟨_,_,F258⟩,Afy p.id 65535 z_⟩ E E E E E E ?_;refine oF ?_;constructor<;>intro h
 .rw[zE (qA h)]at aa;subst aa;refine oO ?_;exact Ao 2 1 Al E dN
 have hl:p.body.length<=1480:=qB h;rw[zD z_]at aa;subst aa;clear h;have bg:Jq p=((Hi p 0).set 10 (UInt8.ofNat (Iv p/256))).set 11 (UInt8.ofNat (Iv p))++p.body:=by rw[Ao0,Jq]
 rw[bg];have l5:=Jp p 0;have hs:=sumOfS (Hi p 0) (by rw[l5];decide) (by rw[l5]);have y3:=Ayz [17664+p.tos,20+p.body.length,p.id,0,p.ttl*256+p.proto,0,p.src/65536,p.src,p.dst/65536,p.dst] qq;rw[show M9 [17664+p.tos,20+p.body.length,p.id,0,p.ttl*256+p.proto,0,p.src/65536,p.src,p.dst/65536,p.dst]=Hi p 0 from rfl]at y3;have hss:Adl (Hi p 0)=Iv p:=rfl;rw[hss]at hs;have m7:Iv p<=65535:=Nat.sub_le _ _;generalize Iv p=s at *;have jz:=I4 s;have o1:=Axm p.tos h1;have o2:=A1m p.ttl p.proto h3 h4;have g1:=Akr p.src h5;have g2:=Aqz p.src h5;have g3:=Akr p.dst h6;have g4:=Aqz p.dst h6;generalize Hi p 0=b at *;refine gF ?_;refine⟨by decide,?_⟩
 conv=>whnf
 refine⟨by decide,?_⟩
 conv=>whnf
 refine⟨by decide,?_⟩
 conv=>whnf
 refine Al1 68 (e:=Ax3) (l:=[17664+p.tos,20+p.body.length,p.id,0,p.ttl*256+p.proto,0,p.src/65536,p.src,p.dst/65536,p.dst]) E ?_ ?_
 .show _=[SV.val (.int .i64 (bits .or .i64 17664 (p.tos:Int))),SV.val _,SV.val _,SV.val _,SV.val (.int .i64 (bits .or .i64 (IntKind.i64.wrap ((p.ttl:Int) * 2 ^ min (Int.toNat 8) IntKind.i64.bits)) (p.proto:Int))),SV.val _,
   SV.val (.int .i64 (IntKind.i64.wrap ((p.src:Int).fdiv (2 ^ (min (Int.toNat 16) IntKind.u32.bits))))),SV.val (.int .i64 (IntKind.i64.wrap (p.src:Int))),SV.val (.int .i64 (IntKind.i64.wrap ((p.dst:Int).fdiv (2 ^ (min (Int.toNat 16) IntKind.u32.bits))))),SV.val (.int .i64 (IntKind.i64.wrap (p.dst:Int)))]
  rw[o1,o2,g1,g2,g3,g4];rfl
 refine Aj 68 E ?_;refine Ai (Ad [(0,69)] E F259 y3 E q_ E ⟨.inr E,q_⟩) E E (oO ?_);refine Ark [69] hs F260 E (.cons (.row E E) .nil) E E E ?_;refine oO ?_;have d6:=(List.cons.inj jz).1;have dx:=(List.cons.inj (List.cons.inj jz).2).1;refine⟨by omega,?_⟩
 conv=>whnf
 refine⟨by decide,by rw[l5];decide,?_⟩
 conv=>whnf
 refine⟨E,by rw[l5];decide,UInt8.ofNat (s/256),zH (λz=>[z]) d6,E,?_⟩
 conv=>whnf
 refine⟨by decide,by simp[l5],?_⟩
 conv=>whnf
 refine⟨E,by simp[l5],UInt8.ofNat s,zH (λz=>[z]) dx,E,?_⟩
 conv=>whnf
 exact Ai (Ah Γ.toTy 84 E E E E E (.row E) .sl y_ (by simp[l5];omega) (by simp[l5];omega)) E E (Aj 84 E gJ)
def hop1(p:PacketM):PacketM×Int:=if p.ttl<=1 then (noP,13) else (Akq p,0)
def ipHopS(p:PacketM)(hb:p.body.length<100000)(ht:p.ttl<=255):Sp 243 [Z5 p] (.tup [Z5 (hop1 p).1,Aa (hop1 p).2]):=cT F243 ntmps243 λF hF=>by
 have aa:=hop1.eq_1 p;generalize hop1 p=res at *;have qc:=Li p.body z_
 conv=>whnf
 constructor<;>intro h
 .rw[zE (qA h)]at aa;subst aa;refine oO ?_;exact Ak 2 zP E vL dN
 have h2:¬p.ttl<=1:=qB h;rw[zD h2]at aa;subst aa;have e:((p.ttl-1:Nat):Int)=(p.ttl:Int)-1:=by omega
 refine gF ?_;refine gE qc F30 ?_;refine Aq E (.cons (.cell E E E E) Ap) ?_ E;show SV.tup [.agg [_,_,Aa ((p.ttl-1:Nat):Int),_,_,_,_],_]=SV.tup [.agg [_,_,Aa ((p.ttl:Int)-1),_,_,_,_],_];rw[e];rfl
def udpU(b:List UInt8):Nat->List SV
 |0=>[Aa 0,Aa 0,Aa 0,Aa 0]
 |1=>[Aa (numAt b 0 2),Aa 0,Aa 0,Aa 0]
 |2=>[Aa (numAt b 0 2),Aa (numAt b 2 2),Aa 0,Aa 0]
 |3=>[Aa (numAt b 0 2),Aa (numAt b 2 2),Aa (numAt b 4 2),Aa 0]
 |_=>[Aa (numAt b 0 2),Aa (numAt b 2 2),Aa (numAt b 4 2),Aa (numAt b 6 2)]
def Avz(b:List UInt8)(hb:b.length<100000):Sp 373 [.sl 1 Al b] (.tup [Aa (udpTakeT b).1,Aa (udpTakeT b).2.1,.sl 1 Al (udpTakeT b).2.2.1,Aa (udpTakeT b).2.2.2]):=cT F373 ntmps373 λF hF=>by
 have aa:=udpTakeT.eq_1 b;generalize udpTakeT b=res at *
 conv=>whnf
 constructor<;>intro h
 .rw[zE (qA h)]at aa;subst aa;refine oO ?_;exact Ao 4 1 Al E dN
 have h8:8<=b.length:=qB h;rw[zD z_]at aa;clear h;have fg:=I9 (b[0]'z_) (b[1]'z_);rw[<-Yq (show 0+2<=b.length by omega)]at fg;have ig:=I9 (b[2]'z_) (b[3]'z_);rw[<-Yq (show 2+2<=b.length by omega)]at ig;have ff:=I9 (b[4]'z_) (b[5]'z_);rw[<-Yq (show 4+2<=b.length by omega)]at ff;have ua:=I9 (b[6]'z_) (b[7]'z_);rw[<-Yq (show 6+2<=b.length by omega)]at ua;refine oO ?_;refine A8 4 (λj=>[(0,.sl 1 Al b),(6,.ptr 6 0),(11,Aa j)]) (λj=>[(6,.box (udpU b j))]) [] kU ?_;intro j hj;have dg:j=0\/j=1\/j=2\/j=3\/j=4:=by omega
 rcases dg with rfl|rfl|rfl|rfl|rfl
 .refine oT ?_;refine iW ?_;refine⟨E,by omega,by omega,?_⟩
  conv=>whnf
  refine⟨by decide,?_⟩
  conv=>whnf
  refine iW ?_;refine iW ?_;refine⟨E,by omega,by omega,?_⟩
  conv=>whnf
  refine⟨by decide,by decide,?_⟩
  conv=>whnf
  refine kW ?_;refine iW ?_;exact Ax [] y_ ⟨kA,⟨.inl (zH (λz:Int=>Ob.box [Aa z,Aa 0,Aa 0,Aa 0]) fg.symm),E,q_⟩,E,E⟩
 .refine oT ?_;refine iW ?_;refine⟨E,by omega,by omega,?_⟩
  conv=>whnf
  refine⟨by decide,?_⟩
  conv=>whnf
  refine iW ?_;refine iW ?_;refine⟨E,by omega,by omega,?_⟩
  conv=>whnf
  refine⟨by decide,by decide,?_⟩
  conv=>whnf
  refine kW ?_;refine iW ?_;exact Ax [] y_ ⟨kA,⟨.inl (zH (λz:Int=>Ob.box [Aa (numAt b 0 2),Aa z,Aa 0,Aa 0]) ig.symm),E,q_⟩,E,E⟩
 .refine oT ?_;refine iW ?_;refine⟨E,by omega,by omega,?_⟩
  conv=>whnf
  refine⟨by decide,?_⟩
  conv=>whnf
  refine iW ?_;refine iW ?_;refine⟨E,by omega,by omega,?_⟩
  conv=>whnf
  refine⟨by decide,by decide,?_⟩
  conv=>whnf
  refine kW ?_;refine iW ?_;exact Ax [] y_ ⟨kA,⟨.inl (zH (λz:Int=>Ob.box [Aa (numAt b 0 2),Aa (numAt b 2 2),Aa z,Aa 0]) ff.symm),E,q_⟩,E,E⟩
 .refine oT ?_;refine iW ?_;refine⟨E,by omega,by omega,?_⟩
  conv=>whnf
  refine⟨by decide,?_⟩
  conv=>whnf
  refine iW ?_;refine iW ?_;refine⟨E,by omega,by omega,?_⟩
  conv=>whnf
  refine⟨by decide,by decide,?_⟩
  conv=>whnf
  refine kW ?_;refine iW ?_;exact Ax [] y_ ⟨kA,⟨.inl (zH (λz:Int=>Ob.box [Aa (numAt b 0 2),Aa (numAt b 2 2),Aa (numAt b 4 2),Aa z]) ua.symm),E,q_⟩,E,E⟩
 clear fg ig ff ua;refine oF ?_;refine⟨by decide,by decide,?_⟩
 conv=>whnf
 constructor<;>intro h
 .rw[zE (qA h)]at aa;subst aa;refine oO ?_;exact Ao 4 1 Al E dN
 have hs8:8<=numAt b 4 2:=qB h;rw[zD z_]at aa;clear h;refine oO ?_;refine⟨by decide,by decide,?_⟩
 conv=>whnf
 constructor<;>intro h
 .rw[zE (qA h)]at aa;subst aa;refine oO ?_;exact Ao 4 1 Al E dN
 have m7:numAt b 4 2<=b.length:=qB h;rw[zD z_]at aa;clear h;refine oO ?_;refine⟨by decide,by decide,?_⟩
 conv=>whnf
 constructor<;>intro h
 .rw[zE (by have:(numAt b 6 2:Int)≠0:=(kS h);omega)]at aa;subst aa;refine oO ?_;exact Ao 4 1 Al E dN
 rw[zD (by have:(numAt b 6 2:Int)=0:=(kS h);omega)]at aa;subst aa;clear h;have qc:=Li ((b.take (numAt b 4 2)).drop 8) (by rw[yP,zW];omega);refine oO ?_;refine⟨by decide,by decide,?_⟩
 conv=>whnf
 refine⟨by decide,by decide,?_⟩
 conv=>whnf
 refine⟨by decide,by decide,?_⟩
 conv=>whnf
 refine Cc (Du (lo:=8) (hi:=numAt b 4 2) Γ.toTy E E E E (.inr ⟨_,_,E,E⟩) (.inr ⟨_,_,E,E⟩) hs8 m7) j_ E (oD ?_);refine cD qc F30 (gM ?_);exact dN
def A01(src dst:Nat)(body:List UInt8)(h1:src<=65535)(h2:dst<=65535)(h3:body.length<=1472):Sp 323 [Aa src,Aa dst,.sl 1 Al body] (.tup [.sl 1 Al (fX src dst body),Aa 0]):=cT F323 ntmps323 λF hF=>by
 ((conv=>whnf);refine aF ?_;refine rg ?_;conv=>whnf)
 (refine⟨λh=>False.elim (by simp at h;omega),λ_=>?_⟩;refine rg ?_;(conv=>whnf);refine aF ?_;refine rg ?_;(conv=>whnf);refine⟨λh=>False.elim (by simp at h;omega),λ_=>?_⟩;refine rg ?_;(conv=>whnf);refine⟨λh=>False.elim (by simp at h;omega),λ_=>?_⟩;refine rg ?_;conv=>whnf)
 refine iW ?_;refine B6 8 1000 1 Al E E ?_;refine Ai (Vy Γ.toTy E E E E E E) E E (oO ?_);have key:∀(x:Nat) (pre:List Nat),pre.length<=4->Dj (pre++[x])=Dj pre++[UInt8.ofNat (x/256),UInt8.ofNat x]:=λx pre _=>Lq pre x
 have iu:∀l:List Nat,(Dj l).length=2*l.length:=Qk;obtain ⟨ws,jr⟩:∃ws:List Nat,ws=[src,dst,8+body.length,0]:=⟨_,rfl⟩
 refine A8 4 (λj=>[(2,.sl 1 Al body),(8,.osl 1000),(35,.agg [Aa src,Aa dst,Aa (8+body.length:Nat),Aa 0]),(36,Aa j)]) (λj=>[(1000,.row 1 Al (Dj (ws.take j)))]) [] ⟨kA,⟨.inl (zH (Ob.row 1 Al) (by simp[Dj])),E,q_⟩,E,E⟩ ?_;intro j hj;have dg:j=0\/j=1\/j=2\/j=3\/j=4:=by omega
 rcases dg with rfl|rfl|rfl|rfl|rfl
 .have hs:Dj (ws.take 1)=Dj (ws.take 0)++[UInt8.ofNat (src/256),UInt8.ofNat src]:=by subst jr;exact Lq [] src
  have hl:=iu (ws.take 0);have gd:(ws.take 0).length<=4:=by rw[zW];omega
  have jz:=I4 src;refine oT ?_;refine Ai (Cg (k:=.int .i64) Γ.toTy E E E Tryz.underlying3 E E y_ y_ E) E E (oO ?_);refine⟨by decide,?_⟩
  conv=>whnf
  refine Ai (Ah Γ.toTy 46 E E E E E (.row E) (.lit (e:=Al) (l:=[UInt8.ofNat (src/256),UInt8.ofNat src]) E jz) qq (by rw[hl];simp only[yL,xK];omega) (by rw[hl];simp only[yL,xK];omega)) E E (gF ?_);exact Ax [(1000,46)] y_ ⟨kA,⟨.inl (zH (Ob.row 1 Al) hs),E,q_⟩,E,E⟩
 .have hs:Dj (ws.take 2)=Dj (ws.take 1)++[UInt8.ofNat (dst/256),UInt8.ofNat dst]:=by subst jr;exact Lq [src] dst
  have hl:=iu (ws.take 1);have gd:(ws.take 1).length<=4:=by rw[zW];omega
  have jz:=I4 dst;refine oT ?_;refine Ai (Cg (k:=.int .i64) Γ.toTy E E E Tryz.underlying3 E E y_ y_ E) E E (oO ?_);refine⟨by decide,?_⟩
  conv=>whnf
  refine Ai (Ah Γ.toTy 46 E E E E E (.row E) (.lit (e:=Al) (l:=[UInt8.ofNat (dst/256),UInt8.ofNat dst]) E jz) qq (by rw[hl];simp only[yL,xK];omega) (by rw[hl];simp only[yL,xK];omega)) E E (gF ?_);exact Ax [(1000,46)] y_ ⟨kA,⟨.inl (zH (Ob.row 1 Al) hs),E,q_⟩,E,E⟩
 .have hs:Dj (ws.take 3)=Dj (ws.take 2)++[UInt8.ofNat ((8+body.length)/256),UInt8.ofNat (8+body.length)]:=by subst jr;exact Lq [src,dst] (8+body.length)
  have hl:=iu (ws.take 2);have gd:(ws.take 2).length<=4:=by rw[zW];omega
  have jz:=I4 (8+body.length);refine oT ?_;refine Ai (Cg (k:=.int .i64) Γ.toTy E E E Tryz.underlying3 E E y_ y_ E) E E (oO ?_);refine⟨by decide,?_⟩
  conv=>whnf
  refine Ai (Ah Γ.toTy 46 E E E E E (.row E) (.lit (e:=Al) (l:=[UInt8.ofNat ((8+body.length)/256),UInt8.ofNat (8+body.length)]) E jz) qq (by rw[hl];simp only[yL,xK];omega) (by rw[hl];simp only[yL,xK];omega)) E E (gF ?_);exact Ax [(1000,46)] y_ ⟨kA,⟨.inl (zH (Ob.row 1 Al) hs),E,q_⟩,E,E⟩
 .have hs:Dj (ws.take 4)=Dj (ws.take 3)++[UInt8.ofNat (0/256),UInt8.ofNat 0]:=by subst jr;exact Lq [src,dst,8+body.length] 0
  have hl:=iu (ws.take 3);have gd:(ws.take 3).length<=4:=by rw[zW];omega
  have jz:=I4 0;refine oT ?_;refine Ai (Cg (k:=.int .i64) Γ.toTy E E E Tryz.underlying3 E E y_ y_ E) E E (oO ?_);refine⟨by decide,?_⟩
  conv=>whnf
  refine Ai (Ah Γ.toTy 46 E E E E E (.row E) (.lit (e:=Al) (l:=[UInt8.ofNat (0/256),UInt8.ofNat 0]) E jz) qq (by rw[hl];simp only[yL,xK];omega) (by rw[hl];simp only[yL,xK];omega)) E E (gF ?_);exact Ax [(1000,46)] y_ ⟨kA,⟨.inl (zH (Ob.row 1 Al) hs),E,q_⟩,E,E⟩
 have hl:=iu (ws.take 4);have e:ws.take 4=[src,dst,8+body.length,0]:=by rw[jr];rfl
 rw[e]at hl|-;have kz:(Dj [src,dst,8+body.length,0]).length=8:=hl;refine oF ?_;exact Ai (Ah Γ.toTy 50 E E E E E (.row E) .sl qq (by rw[kz];simp;omega) (by rw[kz];omega)) E E (Aj 50 E gJ)
def Av0(a b:Nat)(ha:a<18446744073709551616)(hb:b<18446744073709551616):Sp 324 [Bi a,Bi b] (Aa (udpPort a b:Nat)):=cT F324 ntmps324 λF hF=>by
 have hx:=bits_xor_u64_nat a b ha hb;have hmd:((a^^^b:Nat):Int).tmod 16384=(((a^^^b)%16384:Nat):Int):=by rw[tW z_];omega
 have hl:=tU (a^^^b) (show 0<16384 by decide);have hw:IntKind.i64.wrap (((a^^^b)%16384:Nat):Int)=(((a^^^b)%16384:Nat):Int):=by rw[IntKind.wrap_i64];omega
 conv=>whnf
 refine⟨by decide,?_⟩;rw[hx,hmd]
 conv=>whnf
 rw[hw];refine iW ?_;refine Aq E Ap ?_ E;refine zH (λz:Int=>SV.val (.int .i64 z)) ?_;rw[udpPort];omega
def Aq8(v:Int)(h:Ut v=true):Sp 322 [Aa v] (.tup [.sl 1 Al [],Aa 17]):=cT F322 ntmps322 λF hF=>by
 simp only[Ut,yQ,zJ]at h
 conv=>whnf
 constructor<;>intro h1
 .refine oT ?_;exact Ao 2 1 Al E dN
 refine oO ?_;refine⟨λh2=>?_,λh2=>zX (zQ h2) (by have:=zQ h1;omega)⟩;refine oO ?_;exact Ao 2 1 Al E dN
def Avr{v:Int}(h:Ut v=false):1<=v/\v<=16777215:=by
 simp only[Ut,wG,zY]at h;omega
def Auj(k:Nat):(K0 k).map Al=[SV.val (.int .u8 8),SV.val (.int .u8 0),SV.val (.int .u8 0),SV.val (.int .u8 0),SV.val (.int .u8 (IntKind.u8.wrap ((k:Int).fdiv (2 ^ (min (Int.toNat 16) IntKind.i64.bits))))),
  SV.val (.int .u8 (IntKind.u8.wrap ((k:Int).fdiv (2 ^ (min (Int.toNat 8) IntKind.i64.bits))))),SV.val (.int .u8 (IntKind.u8.wrap (k:Int))),SV.val (.int .u8 0)]:=by
 have h1:IntKind.u8.wrap ((k:Int).fdiv (2^(min (Int.toNat 16) IntKind.i64.bits)))=((UInt8.ofNat (k/65536)).toNat:Int):=by
  show IntKind.u8.wrap ((k:Int).fdiv 65536)=_;rw[wP _ y_,IntKind.wrap_u8];simp
 have h2:IntKind.u8.wrap ((k:Int).fdiv (2^(min (Int.toNat 8) IntKind.i64.bits)))=((UInt8.ofNat (k/256)).toNat:Int):=by
  show IntKind.u8.wrap ((k:Int).fdiv 256)=_;rw[wP _ y_,IntKind.wrap_u8];simp
 have h3:=u8_of k;rw[h1,h2,h3];rfl
def Azb(k:Nat)(h:1<=k/\k<=16777215):Sq 322 [Aa k] [] (.tup [.osl 0,Aa 0]) [(0,.row 1 Al (K0 k))]:=cT F322 ntmps322 λF hF=>by
 have hl:=Auj k
 conv=>whnf
 refine⟨λh1=>zX (zO h1) z_,λ_=>?_⟩;refine oO ?_;refine⟨λh1=>zX (zO h1) z_,λ_=>?_⟩;refine oO ?_;refine⟨by decide,?_⟩
 conv=>whnf
 refine⟨by decide,?_⟩
 conv=>whnf
 refine O0 18 Al (K0 k) E hl ?_;exact done E (.cons .tmp Ap) [(0,18)] [(0,.row 1 Al (K0 k))] (λ_ h=>h) E E kU
def Au5(a b:List UInt8):((⟨a.toArray⟩:ByteArray)==(⟨b.toArray⟩:ByteArray))=decide (a=b):=by
 have key:=Go.MapKept.bytes_beq (⟨a.toArray⟩:ByteArray) ⟨b.toArray⟩;by_cases h:a=b
 .subst h;rw[zK rfl];exact key.2 E
 .rw[zL h];cases hb:((⟨a.toArray⟩:ByteArray)==(⟨b.toArray⟩:ByteArray)) with
  |false=>rfl
  |true=>
   have:=zH (λz:ByteArray=>z.data.toList) (key.1 hb);exact zX (kS this) h
def Av4(x y z:UInt8):bits .or .i64 (bits .or .i64 (IntKind.i64.wrap ((IntKind.i64.wrap (x.toNat:Int))*2^min (Int.toNat 16) IntKind.i64.bits)) (IntKind.i64.wrap ((IntKind.i64.wrap (y.toNat:Int))*2^min (Int.toNat 8) IntKind.i64.bits))) (IntKind.i64.wrap (z.toNat:Int))
  = (((x.toNat*256+y.toNat)*256+z.toNat:Nat):Int):=by
 have h1:=x.toNat_lt;have h2:=y.toNat_lt;have h3:=z.toNat_lt;have e1:IntKind.i64.wrap (x.toNat:Int)=(x.toNat:Int):=by rw[IntKind.wrap_i64];omega
 have e2:IntKind.i64.wrap (y.toNat:Int)=(y.toNat:Int):=by rw[IntKind.wrap_i64];omega
 have e3:IntKind.i64.wrap (z.toNat:Int)=(z.toNat:Int):=by rw[IntKind.wrap_i64];omega
 rw[e1,e2,e3];have f1:IntKind.i64.wrap ((x.toNat:Int)*2^min (Int.toNat 16) IntKind.i64.bits)=((x.toNat*65536:Nat):Int):=by
  show IntKind.i64.wrap ((x.toNat:Int)*65536)=_;rw[IntKind.wrap_i64];omega
 have f2:IntKind.i64.wrap ((y.toNat:Int)*2^min (Int.toNat 8) IntKind.i64.bits)=((y.toNat*256:Nat):Int):=by
  show IntKind.i64.wrap ((y.toNat:Int)*256)=_;rw[IntKind.wrap_i64];omega
 rw[f1,f2,Er _ _ z_ z_];have g1:x.toNat*65536|||y.toNat*256=x.toNat*65536+y.toNat*256:=by
  have h:=xS (i:=16) (b:=y.toNat*256) z_ x.toNat;rw[vE x.toNat 65536];exact h.symm
 rw[g1,Er _ _ z_ z_];refine zH (λn:Nat=>(n:Int)) ?_;have h:256*(x.toNat*256+y.toNat)+z.toNat=256*(x.toNat*256+y.toNat)|||z.toNat:=xS (i:=8) (b:=z.toNat) z_ (x.toNat*256+y.toNat);have e:x.toNat*65536+y.toNat*256=256*(x.toNat*256+y.toNat):=by omega
 rw[e,<-h];omega
def vniS(b:List UInt8)(hb:b.length<100000):Sp 374 [.sl 1 Al b] (.tup [Aa (vniT b).1,.sl 1 Al (vniT b).2.1,Aa (vniT b).2.2]):=cT F374 ntmps374 λF hF=>by
 have aa:=vniT.eq_1 b;generalize vniT b=res at *
 conv=>whnf
 constructor<;>intro h
 .rw[zE (qA h)]at aa;subst aa;refine oO ?_;exact Ao 3 1 Al E dN
 have h8:8<=b.length:=qB h;rw[zD z_]at aa;clear h;have i4:(4:Int).toNat<b.length:=by show 4<_;omega
 have i5:(5:Int).toNat<b.length:=by show 5<_;omega
 have i6:(6:Int).toNat<b.length:=by show 6<_;omega
 have hv:bits .or .i64 (bits .or .i64 (IntKind.i64.wrap ((IntKind.i64.wrap ((b[(4:Int).toNat]'i4).toNat:Int))*2^min (Int.toNat 16) IntKind.i64.bits)) (IntKind.i64.wrap ((IntKind.i64.wrap ((b[(5:Int).toNat]'i5).toNat:Int))*2^min (Int.toNat 8) IntKind.i64.bits))) (IntKind.i64.wrap ((b[(6:Int).toNat]'i6).toNat:Int))
   = (numAt b 4 3:Int):=by
  rw[Av4,numAt3 (show 4+3<=b.length by omega)];rfl
 have gl:=Sd b 4 3;refine oO ?_;refine⟨E,by decide,i4,?_⟩
 conv=>whnf
 refine⟨by decide,?_⟩
 conv=>whnf
 refine⟨E,by decide,i5,?_⟩
 conv=>whnf
 refine⟨by decide,?_⟩
 conv=>whnf
 refine⟨E,by decide,i6,?_⟩
 conv=>whnf
 refine⟨j_,?_⟩;rw[hv];generalize hvv:numAt b 4 3=v at *
 conv=>whnf
 by_cases h0:v=0
 .rw[zE (.inl h0)]at aa;subst aa;have q:=Aq8 v (by rw[h0];decide);refine c0 q F322 ?_
  (refine rg ?_;(conv=>whnf);refine aT ?_;refine oD ?_)
  refine⟨j_,?_⟩
  ((conv=>whnf);refine aT ?_;refine rg ?_;conv=>whnf)
  exact Ao 3 1 Al E dN
 have q:=Azb v z_;refine Ai (Ad [(0,55)] E F322 q E q_ E ⟨.inr E,q_⟩) E E (Aj 55 E ?_)
 (refine rg ?_;(conv=>whnf);refine aF ?_;refine oD ?_)
 refine Cc (Hv Γ.toTy (bs:=K0 v) E E E E E E E .sl) j_ E (oD ?_);refine Cc (Du (lo:=0) (hi:=8) Γ.toTy E E E E (.inl ⟨E,E⟩) (.inr ⟨_,_,E,E⟩) z_ h8) j_ E (oD ?_);refine Cc (Hv Γ.toTy (bs:=b.take 8) E E E E E E E .sl) j_ E (gM ?_);have hbe:=Au5 (K0 v) (b.take 8);rw[hbe];by_cases he:b.take 8=K0 v;rotate_left
 .rw[zE (.inr he)]at aa;subst aa;rw[zL (λe=>he e.symm)];refine⟨λ_=>?_,λh=>zX h y_⟩;refine oO ?_;exact Ao 3 1 Al E dN
 rw[zD (λh=>h.elim h0 (λh2=>h2 he))]at aa;subst aa;rw[zK he.symm];have xd:(b.take b.length).drop 8=b.drop 8:=by rw[yM]
 refine⟨λh=>zX h y_,λ_=>?_⟩;refine oO ?_;refine Ai (Du (lo:=8) (hi:=b.length) Γ.toTy E E E E (.inr ⟨_,_,E,E⟩) (.inl ⟨E,E⟩) h8 (yG _)) E E (oO ?_);refine Ai (Ah Γ.toTy 45 E E E E E .nil .sl qq kO kO) E E ?_;refine Aj 45 E (oO ?_);refine Aq E (.cons .tmp (.cons .tmp Ap)) ?_ E;show SV.tup [_,.sl 1 Al (b.drop 8),_]=SV.tup [_,.sl 1 Al ([]++(b.take b.length).drop 8),_];rw[xd];rfl
def Ake(a c v:Nat)(f:FrameM)(h:f.body.length<=1450):ipPutT (K8 a c v f)=(Jq (K8 a c v f),0):=by
 rw[ipPutT,zD (by rw[Mi];omega)]
def Amb(a b:Nat):udpPort a b<=65535:=by
 have:=tU (a^^^b) (show 0<16384 by decide);unfold udpPort;omega
def Axh(a c v:Nat)(f:FrameM)(ha:a<4294967296)(hc:c<4294967296)(h:f.body.length<=1450):FrameOK ⟨D7 c,D7 a,2048,Jq (K8 a c v f)⟩ :=
 ⟨Vs c hc,Vs a ha,by show (2048:Nat)<=65535;decide,by show (Jq (K8 a c v f)).length<=1504;rw[Kd,Mi];omega⟩
def A0x(a c:Nat)(v:Int)(f:FrameM)(ha:a<4294967296)(hc:c<4294967296)(hf:FrameOK f):Sp 249 [A9 a,A9 c,Aa v,C5 f] (.tup [.sl 1 Al (wrapT a c v f).1,Aa (wrapT a c v f).2]):=cT F249 ntmps249 λF hF=>by
 have aa:=wrapT.eq_1 a c v f;generalize wrapT a c v f=res at *;have q0:=Wm f;have hd:=hf.dst;have hs:=hf.src;have hb:=hf.body;have bd:=Es f
 conv=>whnf
 refine Ba 7 4 (C5 f) E E E ?_;by_cases ht:f.typ=33024
 .rw[zE ht]at aa;subst aa;rw[zK ht]at q0;refine oO ?_;refine c0 q0 F177 (oT ?_);exact Ao 8 1 Al E dN
 rw[zD ht]at aa;rw[zL ht]at q0;refine oO ?_;refine c0 q0 F177 (oF ?_);refine Ai (Ad [(0,55)] E F19 (Lh f hf) E q_ E ⟨.inr E,q_⟩) E E ?_;refine Aj 55 E (oF ?_);cases hv:Ut v;rotate_left
 .rw[zE hv]at aa;subst aa;refine c0 (Aq8 v hv) F322 (oT ?_);exact Ao 8 1 Al E dN
 rw[zD (by rw[hv];decide)]at aa;have hvg:=Avr hv;obtain ⟨k,rfl⟩:=xM (show 0<=v by omega);rw[yE]at aa;refine Ai (Ad [(0,56)] E F322 (Azb k z_) E q_ E ⟨.inr E,q_⟩) E E (oF ?_);constructor<;>intro h
 .rw[zE (qA h)]at aa;subst aa;refine oO ?_;exact Ao 8 1 Al E dN
 have hl:f.body.length<=1450:=qB h;rw[zD z_]at aa;subst aa;clear h;have qp:=Av0 f.dst f.src z_ z_;have lh:=Amb f.dst f.src;have qu:=A01 (udpPort f.dst f.src) 4789 (K0 k++Mn f) lh y_ (by rw[zU,Hu,bd];omega);have hwb:(K8 a c k f).body=fX (udpPort f.dst f.src) 4789 (K0 k++Mn f):=rfl;have qi:=Agt (K8 a c k f) (Avm a c k f ha hc) (by rw[Mi];omega);rw[Ake a c k f hl]at qi;have qe:=Lh _ (Axh a c k f ha hc hl);refine oO ?_;refine gE qp F324 ?_;refine Ai (Ah Γ.toTy 46 E E E E E (.row E) .sl y_ (by rw[Hu,bd];simp;omega) (by rw[Hu,bd];omega)) E E ?_;refine Aj 46 E (oO ?_);refine gE qu F323 ?_;refine gE qi F203 ?_;refine gE (Ael c hc) F204 ?_;refine gE (Ael a ha) F204 ?_;exact Ai (Ad [(0,57)] E F19 qe E q_ E ⟨.inr E,q_⟩) E E (Aj 57 E gJ)
end
end Go.Sy.Zaa
