/- Parts of a proof. -/
import Derived.Test.YtodbnbfjhjcanaaGreatDoorXB14
import Derived.Test.YtodbnbfjhjcanaaGreatDoorXB17
set_option maxHeartbeats 4000000
set_option linter.all false
namespace Go.Sy.Zaa
open Go.Proofs Go.Proofs.Tryz
section
attribute [local irreducible]G DR
set_option maxRecDepth 100000
def Ql:=iJ Al 1 F30 ntmps30
def cut6(b:List UInt8)(k j:Nat)(hj:j<6)(h:k+6<=b.length):Ia (((b.drop k).take 6).take (j+1))=Ia (((b.drop k).take 6).take j)*256+(b[k+j]'q_).toNat:=by
 rw[Aur _ (by rw[zY,yP];omega)];congr 2;rw[wD,vW]
def Al0(b:List UInt8)(k:Nat)(h:k+6<=b.length)(hb:b.length<100000):Sp 205 [.sl 1 Al b,Aa k] (.tup [Bl (Ia ((b.drop k).take 6)),Ab true]):=cT F205 ntmps205 λF hF=>by
 ((conv=>whnf);refine aF ?_;refine rg ?_;conv=>whnf)
 refine iW ?_
 (refine⟨λh=>False.elim (by simp at h;omega),λ_=>?_⟩;refine rg ?_;conv=>whnf)
 refine Bg 6 (λj=>[(0,.sl 1 Al b),(1,Aa k),(6,Bl (Ia (((b.drop k).take 6).take j))),(17,Aa j)]) (λ_=>[]) [] kU ?_;intro j hj;have de:=Qv _ (((b.drop k).take 6).take j) rfl;refine oO ?_;constructor<;>intro h2
 .have hj6:j<6:=by have:=zO h2;omega
  have hs:=cut6 b k j hj6 h;have js:(((b.drop k).take 6).take j).length=j:=by rw[zY,zY,yP];omega
  rw[js]at de;have h5:Ia (((b.drop k).take 6).take j)<1099511627776:=xA de (by
   have:(256:Nat) ^ j<=256 ^ 5:=vE j_ q_;exact this)
  have dt:((k:Int)+(j:Int)).toNat<b.length:=by omega
  obtain ⟨c,hc⟩:=kE (b[((k:Int)+(j:Int)).toNat]'dt);have im:b[k+j]'q_=c:=by rw[<-hc];congr 1
  rw[im]at hs;have hcat:=A3x _ c h5;refine oO ?_;refine⟨by decide,?_⟩
  conv=>whnf
  refine iW ?_;refine⟨E,by omega,dt,?_⟩;rw[hc]
  conv=>whnf
  refine iW ?_;exact Az [] hj6 ⟨⟨E,E,E,E,zH (λz:Int=>SV.val (.int .u64 z)) (hcat.trans (zH Int.ofNat hs.symm)).symm,E,E,E,Y⟩,Y,E,E⟩
 .have hj6:j=6:=by have:=zT h2;omega
  subst hj6;rw[List.take_take,Nat.min_self];exact gI
def Afi(a b:UInt8):Ia [a,b]=a.toNat*256+b.toNat:=by simp[Ia]
def aX{b:List UInt8}{k:Nat}(h:k+2<=b.length):(b.drop k).take 2=[b[k]'q_,b[k+1]'q_]:=by
 rw[yL (by omega:k<b.length),yL (by omega:k+1<b.length)];rfl
def Uu(b:List UInt8)(hb:b.length<100000):Sp 120 [.sl 1 Al b] (.tup [Df (takeF b).1,Aa (takeF b).2]):=cT F120 ntmps120 λF hF=>by
 have aa:=takeF.eq_1 b;generalize takeF b=res at *
 conv=>whnf
 constructor<;>intro h
 .rw[zE (qA h)]at aa;subst aa;refine oO ?_;exact Ak 2 [Bl 0,Bl 0,Aa 0,.sl 1 Al []] E vL dN
 rw[zD (qB h)]at aa;have h14:14<=b.length:=qB h;refine gH ?_ ?_<;>intro h
 .rw[zE (qA h)]at aa;subst aa;refine oO ?_;exact Ak 2 [Bl 0,Bl 0,Aa 0,.sl 1 Al []] E vL dN
 rw[zD (qB h)]at aa;have q1:=Al0 b 0 q_ hb;have q2:=Al0 b 6 q_ hb;rw[aX q_,Afi]at aa;have hp:=Jj (b[12]'q_) (b[13]'q_);have gh:(b.drop 14).length=b.length-14:=yP;have hn:((b.length:Int)-14)=((b.length-14:Nat):Int):=by omega
 have o7:(b.drop 14).take (List.replicate (b.length-14) (0:UInt8)).length++(List.replicate (b.length-14) (0:UInt8)).drop (b.drop 14).length=b.drop 14:=by
  have e1:(List.replicate (b.length-14) (0:UInt8)).drop (b.length-14)=[]:=vS y_;rw[xU,gh,e1,xD];exact xI q_
 have x9:(b.take b.length).drop 14=b.drop 14:=by rw[yN]
 have i12:(12:Int).toNat<b.length:=by show 12<_;omega
 have i13:(13:Int).toNat<b.length:=by show 13<_;omega
 refine oO ?_;refine gE q1 F205 ?_;refine gE q2 F205 ?_;refine iW ?_;refine Aj (B4 Γ.toTy (d:=32) (n:=b.length-14) Al 0 E E E E E E (zH (λz=>SV.val (.int .i64 z)) hn) (zH (λz=>SV.val (.int .i64 z)) hn) q_ q_ E E E) E E (oO ?_);refine Aj (D3 (lo:=14) (hi:=b.length) Γ.toTy E E E E (.inr ⟨_,_,E,E⟩) (.inl ⟨E,E⟩) q_ (yE _)) E E ?_;rw[x9];refine oO ?_;refine Aj (X0 Γ.toTy E E E E E .sl) E E ?_;rw[o7];refine Ai 32 E (oO ?_);refine⟨E,by decide,i12,?_⟩
 conv=>whnf
 refine⟨by decide,?_⟩
 conv=>whnf
 refine⟨E,by decide,i13,?_⟩
 conv=>whnf
 refine kW ?_;refine Ar E (.cons (.cell E E E E) Aq) ?_ E;rw[aa];show SV.tup [.agg [_,_,Aa ((b[12].toNat*256+b[13].toNat:Nat):Int),_],_]=_;rw[<-hp];rfl
def O7(m:Nat)(h:m<18446744073709551616):Sp 179 [Bl m] (Ab (Du m)):=cT F179 ntmps179 λF hF=>by
 have e:=Agm m h;refine fW ?_;refine Ar E Aq ?_ E;exact zH Ab e.symm
def Xn(f:FrameM):Sp 177 [Df f] (Ab (decide (f.typ=33024))):=cT F177 ntmps177 λF hF=>by
 conv=>whnf
 refine Ar E Aq ?_ E;refine zH Ab ?_;rw[wP];simp;omega
def Ux(p:Port)(tg:Bool)(er:Int)(hl:An p.tagged):Sp 180 [Bb p,Ab tg,Aa er] (.tup [Aa (vlanT p tg er).1,Ab (vlanT p tg er).2]):=cT F180 ntmps180 λF hF=>by
 have aa:=vlanT.eq_1 p tg er;generalize vlanT p tg er=res at *;have q:=Ed p.tagged er hl;have hz:decide (p.native≠0)=(p.native != 0):=by rw[wP];simp
 rw[hz]at aa;cases tg
 .rw[zE (.inl rfl)]at aa;subst aa
  ((conv=>whnf);refine aT ?_;refine rg ?_;conv=>whnf)
  refine kW ?_;exact dN
 ((conv=>whnf);refine aF ?_;refine rg ?_;conv=>whnf)
 constructor<;>intro h
 .rw[zE (.inr (kS h))]at aa;subst aa;refine oO ?_;refine kW ?_;exact dN
 rw[zD (kS h)]at aa;refine oO ?_;refine c0 q F115 ?_;cases hi:inB p.tagged er
 .rw[zD (by simp[hi])]at aa;subst aa;refine oF ?_;exact dN
 .rw[zE hi]at aa;subst aa;refine oT ?_;exact dN
def A3b(n:Nat)(h:n<9223372036854775808):bits .and .i64 (n:Int) 4095=((n%4096:Nat):Int):=by
 have:=L1 n 4095 h j_;rw[show ((4095:Nat):Int)=4095 from rfl]at this;rw[this];have h2:=uS n 12;rw[show 2^12-1=4095 from rfl,show 2^12=4096 from rfl]at h2;rw[h2]
def A27{b:List UInt8}(h:4<=b.length):b.take 2=[b[0]'q_,b[1]'q_]/\(b.drop 2).take 2=[b[2]'q_,b[3]'q_]:=by
 have h1:=aX (b:=b) (k:=0) q_;have h2:=aX (b:=b) (k:=2) q_;exact⟨h1,h2⟩
abbrev zF:List SV:=[Bl 0,Bl 0,Aa 0,.sl 1 Al []]
def Auy(f:FrameM)(hb:f.body.length<100000):Sp 178 [Df f] (.tup [Df (stripT f).1,Aa (stripT f).2.1,Aa (stripT f).2.2.1,Aa (stripT f).2.2.2]):=cT F178 ntmps178 λF hF=>by
 have aa:=stripT.eq_1 f;generalize stripT f=res at *;have q0:=Xn f;obtain ⟨d,s,t,b⟩:=f;dsimp only at aa hb q0
 conv=>whnf
 refine c0 q0 F177 ?_;by_cases ht:t=33024;rotate_left
 .rw[zE ht]at aa;subst aa;rw[zK ht];refine oT ?_;exact Ak 2 zF E vL dN
 rw[zD (kS ht)]at aa;rw[zL ht];refine oF ?_;constructor<;>intro h
 .rw[zE (by have:=zO h;dsimp only at this;omega)]at aa;subst aa;refine oO ?_;exact Ak 2 zF E vL dN
 have h4:4<=b.length:=by have:=zT h;dsimp only at this;omega
 rw[zD q_,(A27 h4).1,(A27 h4).2,Afi,Afi]at aa;have c1:=Ql (b.drop 4) (by rw[yP];omega);have x9:(b.take b.length).drop 4=b.drop 4:=by rw[yN]
 rw[<-x9]at c1;have i0:(0:Int).toNat<b.length:=by show 0<_;omega
 have i1:(1:Int).toNat<b.length:=by show 1<_;omega
 have i2:(2:Int).toNat<b.length:=by show 2<_;omega
 have i3:(3:Int).toNat<b.length:=by show 3<_;omega
 have e0:b[(0:Int).toNat]'i0=b[0]'q_:=rfl;have e1:b[(1:Int).toNat]'i1=b[1]'q_:=rfl;have e2:b[(2:Int).toNat]'i2=b[2]'q_:=rfl;have e3:b[(3:Int).toNat]'i3=b[3]'q_:=rfl;have gb:=Jj (b[0]'q_) (b[1]'q_);have em:=Jj (b[2]'q_) (b[3]'q_);have l0:=(b[0]'q_).toNat_lt;have l1:=(b[1]'q_).toNat_lt;obtain ⟨P,hP⟩:=kE ((b[0]'q_).toNat*256+(b[1]'q_).toNat);obtain ⟨Q,hQ⟩:=kE ((b[2]'q_).toNat*256+(b[3]'q_).toNat);have hPl:P<65536:=by omega
 rw[hP]at gb aa;rw[hQ]at em aa;have ha:=A3b P q_;have hs:(P:Int).fdiv (2^(min (Int.toNat 12) IntKind.i64.bits))=((P/4096:Nat):Int):=As7 P 12 j_;refine oO ?_;refine⟨E,by decide,i0,?_⟩;rw[e0]
 conv=>whnf
 refine⟨by decide,?_⟩
 conv=>whnf
 refine⟨E,by decide,i1,?_⟩;rw[e1]
 conv=>whnf
 refine⟨z_,?_⟩;rw[gb]
 conv=>whnf
 refine⟨E,by decide,i2,?_⟩;rw[e2]
 conv=>whnf
 refine⟨by decide,?_⟩
 conv=>whnf
 refine⟨E,by decide,i3,?_⟩;rw[e3]
 conv=>whnf
 refine⟨z_,?_⟩;rw[em]
 conv=>whnf
 refine⟨by decide,?_⟩;rw[ha,hs]
 conv=>whnf
 constructor<;>intro h
 .rw[zE (.inl (qA h))]at aa;subst aa;refine oO ?_;exact Ak 2 zF E vL dN
 have h5:¬4094<P%4096:=qB h;refine gH ?_ ?_<;>intro h
 .rw[zE (.inr (by have:(Q:Int)=33024:=(kS h);omega))]at aa;subst aa;refine oO ?_;exact Ak 2 zF E vL dN
 have h6:¬Q=33024:=λe=>by rw[e]at h;simp at h
 rw[zD q_]at aa;subst aa;refine oO ?_;refine Ce (D3 (lo:=4) (hi:=b.length) Γ.toTy E E E E (.inr ⟨_,_,E,E⟩) (.inl ⟨E,E⟩) h4 (yE _)) z_ E (oD ?_);refine cD c1 F30 (gL ?_);refine Ar E (.cons (.cell E E E E) (.cons .tmp (.cons .tmp Aq))) ?_ E;show SV.tup [.agg [_,_,_,.sl 1 Al (b.drop 4)],_,_,_]=SV.tup [.agg [_,_,_,.sl 1 Al ((b.take b.length).drop 4)],_,_,_];rw[x9];rfl
def On(f:FrameM)(h:FrameOK f):Sq 19 [Df f] [] (.tup [.osl 0,Aa 0]) [(0,.row 1 Al (Mb f))]:=Anc f.dst f.src f.typ f.body h.dst h.src h.typ h.body
def Akh(f:FrameM)(v:Nat)(h:FrameOK f)(hv:v<=4094):Sp 121 [Df f,Aa v,Aa 0] (.tup [Df (tagT f v).1,Aa (tagT f v).2]):=by
 have aa:=tagT.eq_1 f v;have q0:=Xn f;obtain ⟨d,s,t,b⟩:=f;have h1:=h.typ;have h2:=h.body;dsimp only at aa q0 h1 h2;by_cases ht:t=33024
 .rw[zE ht]at aa;rw[aa];rw[zL ht]at q0;refine Qj Γ hm 100 F121 ntmps121 E λF hF=>by
   conv=>whnf
   refine c0 q0 F177 ?_
   (refine oT ?_;refine bT ?_;refine bT ?_;refine bT ?_;refine bT ?_)
   exact Ak 6 zF E vL dN
 rw[zD ht]at aa;by_cases hb:1500<b.length
 .rw[zE hb]at aa;rw[aa];rw[zK ht]at q0;refine Qj Γ hm 100 F121 ntmps121 E λF hF=>by
   conv=>whnf
   refine c0 q0 F177 ?_
   (refine oF ?_;refine bF ?_)
   (refine⟨λh=>False.elim (by simp at h;omega),λ_=>?_⟩;refine rg ?_;(conv=>whnf);refine aF ?_;refine rg ?_;(conv=>whnf);refine aF ?_;refine rg ?_;(conv=>whnf);refine aF ?_;refine rg ?_;(conv=>whnf);refine⟨λh=>False.elim (by simp at h;omega),λ_=>?_⟩;refine rg ?_;(conv=>whnf);refine⟨λ_=>?_,λh=>False.elim (by simp at h;omega)⟩;refine rg ?_;conv=>whnf)
   exact Ak 6 zF E vL dN
 rw[zD hb]at aa;rw[aa];exact A32 d s t v b ht h1 hv q_
def Aux{b:List UInt8}(h:(takeF b).2≠0):(takeF b).1=noF:=by
 unfold takeF at h|-;split
 .rfl
 rw[zD (by assumption)]at h;split
 .rfl
 rw[zD (by assumption)]at h;exact yA E h
def Vn{b:List UInt8}(h:(takeF b).2=0):FrameOK (takeF b).1:=by
 unfold takeF at h|-;split
 .rw[zE (by assumption)]at h;cases h
 rw[zD (by assumption)]at h;split
 .rw[zE (by assumption)]at h;cases h
 rename_i h1 h2;have l1:((b.take 6).length)=6:=by rw[zY];omega
 have l2:(((b.drop 6).take 6).length)=6:=by rw[zY,yP];omega
 have l3:(((b.drop 12).take 2).length)=2:=by rw[zY,yP];omega
 have a1:=Qv _ _ l1;have a2:=Qv _ _ l2;have a3:=Qv _ _ l3;refine⟨a1,a2,?_,?_⟩
 .dsimp only;exact Nat.le_of_lt_succ a3
 .dsimp only;rw[yP];omega
def Azb{f:FrameM}(hf:FrameOK f)(h:(stripT f).2.2.2=0):FrameOK (stripT f).1:=by
 unfold stripT at h|-;split
 .rw[zE (by assumption)]at h;cases h
 rw[zD (by assumption)]at h;split
 .rw[zE (by assumption)]at h;cases h
 rw[zD (by assumption)]at h;split
 .rw[zE (by assumption)]at h;cases h
 rename_i h1 h2 h3;have l3:(((f.body.drop 2).take 2).length)=2:=by rw[zY,yP];omega
 have a3:=Qv _ _ l3;have hb:=hf.body;refine⟨hf.dst,hf.src,?_,?_⟩
 .dsimp only;exact Nat.le_of_lt_succ a3
 .dsimp only;rw[yP];omega
def strip_bad{f:FrameM}(h:(stripT f).2.2.2≠0):(stripT f).1=noF/\(stripT f).2.1=0:=by
 unfold stripT at h|-;split
 .exact⟨E,E⟩
 rw[zD (by assumption)]at h;split
 .exact⟨E,E⟩
 rw[zD (by assumption)]at h;split
 .exact⟨E,E⟩
 rw[zD (by assumption)]at h;exact yA E h
def Anf(n:Net)(hn:n.Fin)(port:Int)(b:List UInt8)(hb:b.length<100000):Sp 107 [Am n,Aa port,.sl 1 Al b] (.tup [Aa (enterT n port b).1,Df (enterT n port b).2.1,Aa (enterT n port b).2.2]):=cT F107 ntmps107 λF hF=>by
 have aa:=enterT.eq_1 n port b;generalize enterT n port b=res at *;have hr:=A2 n hn;refine fW ?_;by_cases j8:port<0
 .rw[zE (.inl (by rw[Ag,zK q_];rfl))]at aa;subst aa
  (repeat (first|(refine⟨λh=>False.elim (by first|(exact yA h j_)|(simp at h;done)|(simp at h;omega)),λ_=>?_⟩;(refine fU ?_))|(refine⟨λ_=>?_,λh=>False.elim (by first|(exact yA h j_)|(simp at h;done)|(simp at h;omega))⟩;(refine fU ?_))))
  exact Ak 7 zF E vL dN
 refine⟨λh=>yA (zO h) j8,λ_=>?_⟩;refine Bf 3 8 (Am n) E E E ?_;by_cases xx:(n.ports.length:Int)<=port
 .rw[zE (.inl (by rw[Ag,zK (by omega:¬port<_),wR]))]at aa;subst aa;refine fU ?_
  (repeat (first|(refine⟨λh=>False.elim (by first|(exact yA h j_)|(simp at h;done)|(simp at h;omega)),λ_=>?_⟩;(refine fU ?_))|(refine⟨λ_=>?_,λh=>False.elim (by first|(exact yA h j_)|(simp at h;done)|(simp at h;omega))⟩;(refine fU ?_))))
  exact Ak 7 zF E vL dN
 have ay:Ag port n.ports.length=true:=by rw[Ag,zL q_,zL q_];rfl
 refine fU ?_
 (refine⟨λh=>False.elim (by first|(exact yA h j_)|(simp at h;done)|(simp at h;omega)),λ_=>?_⟩;(refine fU ?_))
 refine c0 hr F39 ?_;cases hbn:Ac n
 .rw[zE (.inr hbn)]at aa;subst aa;refine fU ?_;exact Ak 7 zF E vL dN
 rw[zD (by simp[hbn,ay])]at aa;have eo:0<=port:=by omega
 have hk:port.toNat<n.ports.length:=by omega
 have e1:nth n.ports port=n.ports[port.toNat]:=Ae hk;have lz:=hn.tagged _ (zI hk);obtain ⟨p,hp⟩:=kE (n.ports[port.toNat]'hk);rw[hp]at e1 lz;have qt:=Uu b hb;have dr:=@Vn b;have ki:=@Aux b;generalize takeF b=tf at *;obtain ⟨f,e⟩:=tf;dsimp only at aa qt dr ki;have qi:=Xn f;refine gM qt F120 ?_;refine gM qi F177 ?_;by_cases he:e=0;rotate_left
 .rw[zE he]at aa;subst aa;obtain rfl:=ki he;refine fU ?_
  (refine⟨λh=>False.elim (by first|(exact yA h j_)|(simp at h;done)|(simp at h;omega)),λ_=>?_⟩;(refine fU ?_))
  (refine⟨λh=>False.elim (by first|(exact yA h j_)|(simp at h;done)|(simp at h;omega)),λ_=>?_⟩;(refine fU ?_))
  refine⟨E,eo,hk,?_⟩;rw[hp];refine gP (Ux p false 0 lz) F180 ?_;refine fU ?_
  (repeat (first|(refine⟨λh=>False.elim (by first|(exact yA h j_)|(simp at h;done)|(simp at h;omega)),λ_=>?_⟩;(refine fU ?_))|(refine⟨λ_=>?_,λh=>False.elim (by first|(exact yA h j_)|(simp at h;done)|(simp at h;omega))⟩;(refine fU ?_))))
  exact Ak 7 zF E vL dN
 subst he;rw[zD j_]at aa;have q9:=dr rfl;by_cases ht:f.typ=33024
 .rw[zE ht]at aa;rw[zL ht];have qs:=Auy f (by have:=q9.body;omega);have hso:=@Azb f q9;have hsb:=@strip_bad f;generalize stripT f=st at *;obtain ⟨g,er,prio,e2⟩:=st;dsimp only at aa qs hso hsb;refine gM qs F178 ?_;by_cases dw:e2=0;rotate_left
  .rw[zE dw]at aa;subst aa;obtain ⟨rfl,rfl⟩:=hsb dw;refine fU ?_
   (refine⟨λh=>False.elim (by first|(exact yA h j_)|(simp at h;done)|(simp at h;omega)),λ_=>?_⟩;(refine fU ?_))
   refine⟨E,eo,hk,?_⟩;rw[hp];refine gP (Ux p true 0 lz) F180 ?_;refine fU ?_
   (repeat (first|(refine⟨λh=>False.elim (by first|(exact yA h j_)|(simp at h;done)|(simp at h;omega)),λ_=>?_⟩;(refine fU ?_))|(refine⟨λ_=>?_,λh=>False.elim (by first|(exact yA h j_)|(simp at h;done)|(simp at h;omega))⟩;(refine fU ?_))))
   exact Ak 7 zF E vL dN
  subst dw;rw[zD j_]at aa;have hgo:=hso rfl;have wb:=hgo.src;have qg:=O7 g.src q_;rw[He,e1]at aa;have qv:=Ux p true er lz;have qd:=K5 n hn p.dev (vlanT p true er).1;refine gM qg F179 ?_;cases y9:Du g.src;rotate_left
  .rw[zE y9]at aa;subst aa;refine fU ?_;refine⟨E,eo,hk,?_⟩;rw[hp];refine gP qv F180 ?_;refine fU ?_
   (repeat (first|(refine⟨λh=>False.elim (by first|(exact yA h j_)|(simp at h;done)|(simp at h;omega)),λ_=>?_⟩;(refine fU ?_))|(refine⟨λ_=>?_,λh=>False.elim (by first|(exact yA h j_)|(simp at h;done)|(simp at h;omega))⟩;(refine fU ?_))))
   exact Ak 7 zF E vL dN
  rw[zD (by simp[y9])]at aa;refine fU ?_;refine⟨E,eo,hk,?_⟩;rw[hp];refine gP qv F180 ?_;generalize vlanT p true er=vl at *;obtain ⟨vl,vok⟩:=vl;dsimp only at aa qd|-;cases vok
  .rw[zE rfl]at aa;subst aa;refine fU ?_;exact Ak 7 zF E vL dN
  rw[zD y_]at aa;subst aa;refine fU ?_;refine cD qd F181 (fU ?_);refine⟨z_,?_⟩;refine fW ?_;exact dN
 .rw[zD ht]at aa;rw[zK ht];have hgo:=q9;have wb:=hgo.src;have qg:=O7 f.src q_;rw[He,e1]at aa;have qv:=Ux p false 0 lz;have qd:=K5 n hn p.dev (vlanT p false 0).1;refine gM qg F179 ?_;cases y9:Du f.src;rotate_left
  .rw[zE y9]at aa;subst aa;refine fU ?_;refine⟨E,eo,hk,?_⟩;rw[hp];refine gP qv F180 ?_;refine fU ?_
   (repeat (first|(refine⟨λh=>False.elim (by first|(exact yA h j_)|(simp at h;done)|(simp at h;omega)),λ_=>?_⟩;(refine fU ?_))|(refine⟨λ_=>?_,λh=>False.elim (by first|(exact yA h j_)|(simp at h;done)|(simp at h;omega))⟩;(refine fU ?_))))
   exact Ak 7 zF E vL dN
  rw[zD (by simp[y9])]at aa;refine fU ?_;refine⟨E,eo,hk,?_⟩;rw[hp];refine gP qv F180 ?_;generalize vlanT p false 0=vl at *;obtain ⟨vl,vok⟩:=vl;dsimp only at aa qd|-;cases vok
  .rw[zE rfl]at aa;subst aa;refine fU ?_;exact Ak 7 zF E vL dN
  rw[zD y_]at aa;subst aa;refine fU ?_;refine cD qd F181 (fU ?_);refine⟨z_,?_⟩;refine fW ?_;exact dN
def Ch{i:Int}{n:Nat}(h:Ag i n=true):0<=i/\i<n:=by simpa [Ag] using h
def Q3(i:Int)(n:Nat):Sp 246 [Aa i,Aa n] (Ab (Ag i n)):=cT F246 ntmps246 λF hF=>by
 conv=>whnf
 (repeat' (first|(refine⟨λh=>?_,λh=>?_⟩<;>(repeat (first|simp only[zJ]at h|simp only[yB]at h))<;>((refine oO ?_)))|(refine Ar rfl Aq ?_ rfl)))
 all_goals (refine zH Ab ?_)
 all_goals grind [Ag]
def Aq9(n:Net)(f:FrameM)(h:FrameOK f)(v:Int):Sp 248 [Am n,Df f,Aa v] (.tup [.sl 1 Al (Mb f),Aa 0]):=cT F248 ntmps248 λF hF=>by
 conv=>whnf
 exact Aj (Ad [(0,55)] E F19 (On f h) E Y E ⟨.inr E,Y⟩) E E (Ai 55 E gI)
def Ay8{f:FrameM}(hf:FrameOK f)(v:Nat)(_hv:v<=4094)(h:(tagT f v).2=0):FrameOK (tagT f v).1:=by
 unfold tagT at h|-;split
 .rw[zE (by assumption)]at h;cases h
 rw[zD (by assumption)]at h;split
 .rw[zE (by assumption)]at h;cases h
 refine⟨hf.dst,hf.src,?_,?_⟩
 .show (33024:Nat)<=65535;decide
 .dsimp only;simp;omega
def Aiv(n:Net)(f:FrameM)(h:FrameOK f)(v:Nat)(hv:v<=4094):Sp 247 [Am n,Df f,Aa v] (.tup [.sl 1 Al (if (tagT f v).2≠0 then [] else Mb (tagT f v).1),Aa (if (tagT f v).2≠0 then (tagT f v).2 else 0)]):=by
 have q:=Akh f v h hv;have ho:=Ay8 h v hv;generalize tagT f v=t at *;obtain ⟨g,e⟩:=t;dsimp only at q ho|-;refine Qj Γ hm 100 F247 ntmps247 E λF hF=>by
  conv=>whnf
  refine gE q F121 ?_;by_cases he:e=0
  .subst he
   (refine⟨λh=>False.elim (yA h j_),λ_=>?_⟩;refine rg ?_;conv=>whnf)
   refine Bf 8 4 (Df g) E E E (oO ?_);exact Aj (Ad [(0,55)] E F19 (On g (ho E)) E Y E ⟨.inr E,Y⟩) E E (Ai 55 E gI)
  .rw[zE he,zE he]
   (refine⟨λ_=>?_,λh=>False.elim (by simp at h;omega)⟩;refine rg ?_;conv=>whnf)
   exact Ao 6 1 Al E dN
def aC{n:Net}(h:Ac n=true){i:Nat}(hi:i<n.domains.length):1<=n.domains[i].vlan/\n.domains[i].vlan<=4094:=by
 simp only[Ac,zG]at h;have hb:Ik (Qo n) n.domains=true:=h.1.1.1.1.1.1.1.2;have:=allB_iff.1 hb i hi;simp only[Qo,zG,zJ]at this;omega
def A1r(n:Net)(hn:n.Fin)(port dom:Int)(f:FrameM)(h:FrameOK f):Sp 189 [Am n,Aa port,Aa dom,Df f] (.tup [.sl 1 Al (leaveT n port dom f).1,Aa (leaveT n port dom f).2]):=cT F189 ntmps189 λF hF=>by
 have aa:=leaveT.eq_1 n port dom f;generalize leaveT n port dom f=res at *;have hr:=A2 n hn;have hpS:=Q3 port n.ports.length;have hdS:=Q3 dom n.domains.length
 conv=>whnf
 refine c0 hpS F246 ?_;cases ay:Ag port n.ports.length
 .rw[zE (.inl ay)]at aa;subst aa
  (refine oT ?_;refine bT ?_;refine bT ?_)
  exact Ao 8 1 Al E dN
 refine oF ?_;refine c0 hdS F246 ?_;cases gh:Ag dom n.domains.length
 .rw[zE (.inr (.inl gh))]at aa;subst aa
  (refine oT ?_;refine bT ?_)
  exact Ao 8 1 Al E dN
 refine oF ?_;refine c0 hr F39 ?_;cases hbn:Ac n
 .rw[zE (.inr (.inr hbn))]at aa;subst aa;refine oT ?_;exact Ao 8 1 Al E dN
 rw[zD (by simp[hbn,ay,gh])]at aa;have km:=Ch ay;have nz:=Ch gh;have eo:0<=port:=km.1;have ss:0<=dom:=nz.1;have hk:port.toNat<n.ports.length:=by omega
 have ck:dom.toNat<n.domains.length:=by omega
 have e1:nth n.ports port=n.ports[port.toNat]:=Ae hk;have e2:nth n.domains dom=n.domains[dom.toNat]:=Ae ck;have lz:=hn.tagged _ (zI hk);have hv:=aC hbn ck;obtain ⟨p,hp⟩:=kE (n.ports[port.toNat]'hk);obtain ⟨d,hd⟩:=kE (n.domains[dom.toNat]'ck);rw[hp]at e1 lz;rw[hd]at e2 hv;rw[e1,e2]at aa;have qm:=cE p d.vlan lz;refine oF ?_;refine⟨E,eo,hk,E,ss,ck,?_⟩;rw[hp,hd]
 conv=>whnf
 refine kW ?_;constructor<;>intro h1
 .rw[zE (.inl (kS h1))]at aa;subst aa;refine oT ?_;exact Ao 8 1 Al E dN
 refine Bf 10 7 (Bb p) E E E (oO ?_);refine c0 qm F150 ?_;cases bj:Cy p d.vlan
 .rw[zE (.inr bj)]at aa;subst aa;refine oT ?_;exact Ao 8 1 Al E dN
 rw[zD (by simp at h1;simp[bj,h1])]at aa;have qt:=Xn f;by_cases ht:f.typ=33024
 .rw[zE ht]at aa;subst aa;rw[zL ht]at qt;refine oF ?_;refine c0 qt F177 (oT ?_);exact Ao 8 1 Al E dN
 rw[zD ht]at aa;rw[zK ht]at qt;refine oF ?_;refine c0 qt F177 (oF ?_);constructor<;>intro h2
 .rw[zE (kS h2)]at aa;subst aa;refine oO ?_;refine Ek ⟨⟨_,_,F248⟩,Aq9 n f h d.vlan⟩ E E E E E E ?_;exact gI
 rw[zD (kS h2)]at aa;refine oO ?_;have hv0:(d.vlan.toNat:Int)=d.vlan:=by omega
 have qg:=Aiv n f h d.vlan.toNat q_;rw[hv0]at qg;refine Ek ⟨⟨_,_,F247⟩,qg⟩ E E E E E E ?_;refine oO ?_;by_cases he:(tagT f d.vlan).2=0
 .rw[zD (kS he)]at aa;subst aa;rw[zD (kS he),zD (kS he)];exact dN
 .rw[zE he]at aa;subst aa;rw[zE he,zE he];exact dN
def inB_mem{l:List Int}{x:Int}:inB l x=true↔x∈l:=by
 simp[inB]
def Aq7(n:Net)(hn:n.Fin)(port:Int)(b:List UInt8)(hb:b.length<100000):Sp 193 [Am n,Aa port,.sl 1 Al b] (.tup [Aa (linkT n port b).1,Aa (linkT n port b).2.1,Df (linkT n port b).2.2.1,Aa (linkT n port b).2.2.2]):=cT F193 ntmps193 λF hF=>by
 have aa:=linkT.eq_1 n port b;generalize linkT n port b=res at *;have qo:=cH n hn port;have qe:=Anf n hn (A4 n port) b hb;generalize A4 n port=o at *
 conv=>whnf
 refine gE qo F252 ?_;constructor<;>intro h1
 .rw[zE (kS h1)]at aa;subst aa;refine oO ?_;exact Ak 8 zF E vL dN
 rw[zD (kS h1)]at aa;refine oO ?_;refine c0 qe F107 ?_;generalize enterT n o b=en at *;obtain ⟨x1,g,x2⟩:=en;subst aa;refine oO ?_;refine kW ?_;exact dN
end
section
def Sb(l:List Nat):(Dp l).length=2*l.length:=by
 induction l with
 |nil=>rfl
 |cons a l ih=>simp only[Dp,vV,zQ,yM,xG]at ih|-;omega
def L7(l:List Nat)(n:Nat):Dp (l++[n])=Dp l++[UInt8.ofNat (n/256),UInt8.ofNat n]:=by simp[Dp]
def S6(b:List UInt8)(k m:Nat):numAt b k m<256^m:=by
 have h:=Qv _ ((b.drop k).take m) rfl;have h2:((b.drop k).take m).length<=m:=by rw[zY];omega
 exact xA h (vE j_ h2)
def Z0{b:List UInt8}{k:Nat}(h:k+2<=b.length):numAt b k 2=(b[k]'q_).toNat*256+(b[k+1]'q_).toNat:=by
 rw[numAt,aX h,Afi]
def Ajt{b:List UInt8}{k:Nat}(h:k<b.length):bAt b k=b[k]:=Art h
def Ay7{b:List UInt8}{k:Nat}(h:k+3<=b.length):(b.drop k).take 3=[b[k]'q_,b[k+1]'q_,b[k+2]'q_]:=by
 rw[yL q_,yL (i:=k+1) q_,yL (i:=k+2) q_];rfl
def Ay6{b:List UInt8}{k:Nat}(h:k+4<=b.length):(b.drop k).take 4=[b[k]'q_,b[k+1]'q_,b[k+2]'q_,b[k+3]'q_]:=by
 rw[yL q_,yL (i:=k+1) q_,yL (i:=k+2) q_,yL (i:=k+3) q_];rfl
def numAt3{b:List UInt8}{k:Nat}(h:k+3<=b.length):numAt b k 3=((b[k]'q_).toNat*256+(b[k+1]'q_).toNat)*256+(b[k+2]'q_).toNat:=by
 rw[numAt,Ay7 h];simp[Ia]
def Aqr{b:List UInt8}{k:Nat}(h:k+4<=b.length):numAt b k 4=numAt b k 2*65536+numAt b (k+2) 2:=by
 have e:b[k+2+1]'q_=b[k+3]'q_:=rfl;rw[numAt,Ay6 h,Z0 q_,Z0 q_,e];simp[Ia];omega
def D9(f:FrameM):(Mb f).length=14+f.body.length:=by
 simp[Mb,frame,Dm];omega
def J0(p:PacketM)(s:Nat):(Ht p s).length=20:=by rw[Ht,Sb];rfl
def Hy(p:PacketM):(Ig p).length=20+p.body.length:=by rw[Ig,zQ,J0]
def Vm(s d:Nat)(b:List UInt8):(oP s d b).length=8+b.length:=by rw[oP,zQ,Sb];rfl
def H7(v:Nat):(Lf v).length=8:=rfl
def Eu:FrameOK noF:=⟨by decide,by decide,by decide,by decide⟩
def Wo(ip:Nat)(h:ip<4294967296):hostN ip<281474976710656:=by rw[hostN,zZ];omega
def Aey(n:Net)(port dom:Int)(f:FrameM)(hf:FrameOK f):(leaveT n port dom f).1.length<=1518:=by
 have h4:=hf.body;unfold leaveT;split
 .simp
 split
 .simp
 split
 .simp
 split
 .rw[D9];omega
 split
 .simp
 .rw[D9];rename_i h;have h2:(tagT f (nth n.domains dom).vlan).2=0:=Classical.byContradiction h;unfold tagT at h2|-;split
  .rw[zE (by assumption)]at h2;cases h2
  rw[zD (by assumption)]at h2;split
  .rw[zE (by assumption)]at h2;cases h2
  .dsimp only;simp;omega
def Z6{b:List UInt8}(h:(ipTakeT b).2=0):PacketOK (ipTakeT b).1/\(ipTakeT b).1.body.length+20<=b.length:=by
 unfold ipTakeT at h|-;split
 .rw[zE (by assumption)]at h;cases h
 rw[zD (by assumption)]at h;split
 .rw[zE (by assumption)]at h;cases h
 rw[zD (by assumption)]at h;split
 .rw[zE (by assumption)]at h;cases h
 rw[zD (by assumption)]at h;split
 .rw[zE (by assumption)]at h;cases h
 rw[zD (by assumption)]at h;split
 .rw[zE (by assumption)]at h;cases h
 have l1:=(bAt b 1).toNat_lt;have l8:=(bAt b 8).toNat_lt;have l9:=(bAt b 9).toNat_lt;have n4:=S6 b 4 2;have n12:=S6 b 12 4;have n16:=S6 b 16 4;refine⟨⟨?_,?_,?_,?_,?_,?_⟩,?_⟩
 .show (bAt b 1).toNat<=255;omega
 .show numAt b 4 2<=65535;omega
 .show (bAt b 8).toNat<=255;omega
 .show (bAt b 9).toNat<=255;omega
 .exact n12
 .exact n16
 .show ((b.take (numAt b 2 2)).drop 20).length+20<=b.length;rw[yP,zY];omega
def A58{b:List UInt8}(h:(ipTakeT b).2≠0):(ipTakeT b).1=noP:=by
 unfold ipTakeT at h|-;split
 .rfl
 rw[zD (by assumption)]at h;split
 .rfl
 rw[zD (by assumption)]at h;split
 .rfl
 rw[zD (by assumption)]at h;split
 .rfl
 rw[zD (by assumption)]at h;split
 .rfl
 rw[zD (by assumption)]at h;exact yA E h
def Aqs:PacketOK noP:=⟨by decide,by decide,by decide,by decide,by decide,by decide⟩
def Zk:∀(l:List Nat) (j:Nat),j<=l.length->(∀n∈l,n<4294967296)->Qs (Dp l) j=((l.take j).map (·%65536)).sum
 |l,0,_,_=>by simp[Qs]
 |l,j+1,h,hl=>by
  have ih:=Zk l j q_ hl;have hj:j<l.length:=by omega
  have e1:(Dp l).getD (2*j) 0=UInt8.ofNat (l[j]/256)/\(Dp l).getD (2*j+1) 0=UInt8.ofNat l[j]:=by
   clear ih hl
   induction l generalizing j with
   |nil=>simp at hj
   |cons a l uq=>
    cases j with
    |zero=>simp[Dp]
    |succ j=>
     have:=uq j (kS h) (kS hj);rw[Dp,vV,show 2*(j+1)+1=(2*j+1)+1+1 by omega,show 2*(j+1)=2*j+1+1 by omega];simpa [Dp] using this
  rw[Qs,ih,e1.1,e1.2,yD hj,wZ,List.sum_append];have hx:=hl l[j] (zI hj);generalize l[j]=x at *;simp only[xV,uA,List.sum_cons,List.sum_nil,E6];omega
def lP{p:PacketM}(hp:PacketOK p)(hb:p.body.length<=1480)(s:Nat)(hs:s<=65535):∀n∈[17664+p.tos,20+p.body.length,p.id,0,p.ttl*256+p.proto,s,p.src/65536,p.src,p.dst/65536,p.dst],n<4294967296:=by
 have h1:=hp.tos;have h2:=hp.proto;have h3:=hp.ttl;have h4:=hp.id;have h5:=hp.src;have h6:=hp.dst;intro n hn;simp only[yI,xH,vJ]at hn;rcases hn with rfl|rfl|rfl|rfl|rfl|rfl|rfl|rfl|rfl|rfl<;>omega
def Arj(p:PacketM)(s:Nat):((Ht p 0).set 10 (UInt8.ofNat (s/256))).set 11 (UInt8.ofNat s)=Ht p s:=by
 simp only[Ht,Dp,vV,List.flatMap_nil,wB,wL,List.set_cons_succ,uY]
def Ayk(a b v:Nat)(f:FrameM)(ha:a<4294967296)(hb:b<4294967296):PacketOK (Lq a b v f):=⟨xN _,xN _,by show (64:Nat)<=255;decide,by show (17:Nat)<=255;decide,ha,hb⟩
def M7(a b v:Nat)(f:FrameM):(Lq a b v f).body.length=30+f.body.length:=by
 simp only[Lq,Vm,zQ,H7,D9];omega
def Ahl(a b:Nat)(v:Int)(f:FrameM):(wrapT a b v f).1.length<=1514:=by
 unfold wrapT;split
 .simp
 split
 .simp
 split
 .simp
 .simp only[frame,zQ,Dm,Hy,M7,yM,xG];omega
def Air(n:Net)(dom peer:Int)(f:FrameM):(meshT n dom peer f).1.length<=1514:=by
 unfold meshT;split
 .simp
 split
 .simp
 .exact Ahl _ _ _ _
def A3n{b:List UInt8}:(udpTakeT b).2.2.1.length<=b.length:=by
 unfold udpTakeT
 repeat' split
 all_goals first|(simp;done)|(simp only[yP,zY];omega)
def vniT_body{b:List UInt8}:(vniT b).2.1.length<=b.length:=by
 unfold vniT
 repeat' split
 all_goals first|(simp;done)|(simp only[yP];omega)
def fG(b:List UInt8):PacketOK (outerT b).1/\(outerT b).1.body.length<=b.length:=by
 unfold outerT;split
 .exact⟨Aqs,by simp[noP]⟩
 split
 .exact⟨Aqs,by simp[noP]⟩
 split
 .exact⟨Aqs,by simp[noP]⟩
 .rename_i h1 h2 h3;have h4:(takeF b).2=0:=Classical.byContradiction h1;have h5:(ipTakeT (takeF b).1.body).2=0:=Classical.byContradiction h3;obtain ⟨h6,h7⟩:=Z6 h5;refine⟨h6,?_⟩;have h8:(takeF b).1.body.length<=b.length:=by
   unfold takeF
   repeat' split
   all_goals simp[noF]
  dsimp only;omega
def Agh(b:List UInt8):FrameOK (Mx b).2.1/\0<=(Mx b).1:=by
 unfold Mx
 repeat' split
 all_goals first|exact⟨Eu,xZ _⟩|skip
 rename_i h1 h2 h3 h4 h5;refine⟨Vn (Classical.byContradiction h4),?_⟩;show 0<=(vniT (udpTakeT b).2.2.1).1;unfold vniT
 repeat' split
 all_goals omega
def Aaw(b:List UInt8):(Cn b).1<4294967296/\(Cn b).2.1<4294967296/\0<=(Cn b).2.2.1/\FrameOK (Cn b).2.2.2.1:=by
 unfold Cn;split
 .exact⟨Nat.zero_lt_succ _,Nat.zero_lt_succ _,xZ _,Eu⟩
 split
 .exact⟨Nat.zero_lt_succ _,Nat.zero_lt_succ _,xZ _,Eu⟩
 .exact⟨(fG b).1.src,(fG b).1.dst,(Agh _).2,(Agh _).1⟩
def Agx(n:Net)(port:Int)(f:FrameM)(hf:FrameOK f)(tg:Bool)(er:Int):FrameOK (He n port f tg er).2.1:=by
 unfold He;split
 .exact Eu
 split
 .exact Eu
 .exact hf
def lA(n:Net)(port:Int)(b:List UInt8):FrameOK (enterT n port b).2.1:=by
 unfold enterT;split
 .exact Eu
 split
 .exact Eu
 rename_i h1 h2;have h3:=Vn (Classical.byContradiction h2);split
 .split
  .exact Eu
  .rename_i h5;exact Agx _ _ _ (Azb h3 (Classical.byContradiction h5)) _ _
 .exact Agx _ _ _ h3 _ _
def Amc(n:Net)(port:Int)(b:List UInt8):FrameOK (linkT n port b).2.2.1:=by
 unfold linkT;split
 .exact Eu
 .exact lA _ _ _
def Ans(n:Net)(b:List UInt8):FrameOK (comeT n b).2.2.1:=by
 unfold comeT;split
 .exact Eu
 split
 .exact Eu
 split
 .exact Eu
 split
 .exact Eu
 .exact(Aaw b).2.2.2
def A45(n:Net)(hm:n.Num)(irb:Int)(f:FrameM)(a6:∀(d:Int),(lookT n irb d).2=true->0<=(lookT n irb d).1/\(lookT n irb d).1.toNat<n.irbs.length):FrameOK (hopT n irb f).2.1:=by
 unfold hopT;split
 .exact Eu
 split
 .exact Eu
 split
 .exact Eu
 split
 .exact Eu
 split
 .exact Eu
 split
 .exact Eu
 rename_i h1 h2 h3 h4 h5 h6;have hp:=(Z6 (Classical.byContradiction h3)).1;have hl:=a6 ((ipTakeT f.body).1.dst:Int) (kS h5);have ha:=hm.addr _ (zI hl.2);rw[<-Ae hl.2]at ha;refine⟨Wo _ hp.dst,?_,?_,?_⟩
 .show hostN (nth n.irbs _).addr<_;rw[hostN];omega
 .show (2048:Nat)<=65535;decide
 .show (Ig (Ae0 (ipTakeT f.body).1)).length<=1504;rw[Hy];show 20+(ipTakeT f.body).1.body.length<=1504;omega
attribute [local irreducible]G DR
set_option maxRecDepth 100000
def Aab(a b:Nat)(ha:a<4294967296)(hb:b<4294967296):bits .or .u32 (a:Int) (b:Int)=((a|||b:Nat):Int):=by
 have hx:a|||b<2^32:=Nat.or_lt_two_pow q_ q_;have h1:(BitVec.ofInt 32 (a:Int)).toNat=a:=by
  rw[BitVec.ofInt_natCast,BitVec.toNat_ofNat];exact xJ q_
 have h2:(BitVec.ofInt 32 (b:Int)).toNat=b:=by
  rw[BitVec.ofInt_natCast,BitVec.toNat_ofNat];exact xJ q_
 show IntKind.u32.wrap ((BitVec.ofInt 32 (a:Int)|||BitVec.ofInt 32 (b:Int)).toNat:Int)=_;rw[BitVec.toNat_or,h1,h2,IntKind.wrap_u32];omega
def Aub(x:UInt8)(k:UInt8):((x.toNat:Int) != (k.toNat:Int))=decide (x≠k):=by
 rw[wP];simp only[xC,zJ,ne_eq,<-UInt8.toNat_inj];omega
def cL(b:List UInt8)(k:Nat)(h:k+2<=b.length)(hb:b.length<100000):Sp 311 [.sl 1 Al b,Aa k] (Aa (numAt b k 2)):=cT F311 ntmps311 λF hF=>by
 have i0:(k:Int).toNat<b.length:=by simpa using (by omega:k<b.length)
 have i1:((k:Int)+1).toNat<b.length:=by omega
 have e0:b[(k:Int).toNat]'i0=b[k]'q_:=rfl;have e1:b[((k:Int)+1).toNat]'i1=b[k+1]'q_:=rfl;have hp:=Jj (b[k]'q_) (b[k+1]'q_);have hn:=Z0 h;rw[<-hn]at hp
 conv=>whnf
 refine⟨E,by omega,i0,?_⟩;rw[e0]
 conv=>whnf
 refine⟨by decide,?_⟩
 conv=>whnf
 refine iW ?_;refine⟨E,by omega,i1,?_⟩;rw[e1]
 conv=>whnf
 refine⟨z_,?_⟩;rw[hp]
 conv=>whnf
 exact dN
def Ay0(x y:Nat)(hx:x<65536)(hy:y<65536):bits .or .u32 (IntKind.u32.wrap ((IntKind.u32.wrap (x:Int))*2^min (Int.toNat 16) IntKind.u32.bits)) (IntKind.u32.wrap (y:Int))=((x*65536+y:Nat):Int):=by
 have e1:IntKind.u32.wrap (x:Int)=(x:Int):=by rw[IntKind.wrap_u32];omega
 have e2:IntKind.u32.wrap (y:Int)=(y:Int):=by rw[IntKind.wrap_u32];omega
 rw[e1,e2];have e3:IntKind.u32.wrap ((x:Int)*2^min (Int.toNat 16) IntKind.u32.bits)=((x*65536:Nat):Int):=by
  show IntKind.u32.wrap ((x:Int)*65536)=_;rw[IntKind.wrap_u32];omega
 rw[e3,Aab _ _ q_ q_];congr 1;have h:=xR (i:=16) (b:=y) q_ x;rw[vK x 65536];exact h.symm
def Ats(b:List UInt8)(k:Nat)(h:k+4<=b.length)(hb:b.length<100000):Sp 313 [.sl 1 Al b,Aa k] (Be (numAt b k 4)):=cT F313 ntmps313 λF hF=>by
 have q1:=cL b k q_ hb;have q2:=cL b (k+2) q_ hb;rw[show ((k+2:Nat):Int)=(k:Int)+2 by omega]at q2;have hf:=Ay0 (numAt b k 2) (numAt b (k+2) 2) (by have:=S6 b k 2;omega) (by have:=S6 b (k+2) 2;omega);rw[<-Aqr h]at hf
 conv=>whnf
 refine gE q1 F311 ?_;refine⟨by decide,?_⟩
 conv=>whnf
 refine iW ?_;refine gE q2 F311 ?_;rw[hf];exact dN
def Au0(l:List UInt8)(hl:l.length<100000)(h2:l.length%2=0):Sp 312 [.sl 1 Al l] (Ab (decide (Ih (Qs l (l.length/2))=65535))):=cT F312 ntmps312 λF hF=>by
 have ha:=As5 l hl h2
 conv=>whnf
 refine gE ha F336 ?_;refine Ar E Aq (zH Ab ?_) E;rw[wP];simp only[yJ,zJ];omega
abbrev zP:List SV:=[Aa 0,Aa 0,Aa 0,Aa 0,Be 0,Be 0,.sl 1 Al []]
def Atr(b:List UInt8)(hb:b.length<100000):Sp 242 [.sl 1 Al b] (.tup [bU (ipTakeT b).1,Aa (ipTakeT b).2]):=cT F242 ntmps242 λF hF=>by
 have aa:=ipTakeT.eq_1 b;generalize ipTakeT b=res at *
 conv=>whnf
 constructor<;>intro h
 .rw[zE (qA h)]at aa;subst aa;refine oO ?_;exact Ak 2 zP E vL dN
 have h20:20<=b.length:=qB h;rw[zD q_]at aa;clear h;have i0:(0:Int).toNat<b.length:=by show 0<_;omega
 have i1:(1:Int).toNat<b.length:=by show 1<_;omega
 have i8:(8:Int).toNat<b.length:=by show 8<_;omega
 have i9:(9:Int).toNat<b.length:=by show 9<_;omega
 have e0:b[(0:Int).toNat]'i0=bAt b 0:=(Ajt q_).symm;have q2:=cL b 2 q_ hb;have q4:=cL b 4 q_ hb;have q6:=cL b 6 q_ hb;have q12:=Ats b 12 q_ hb;have q16:=Ats b 16 q_ hb;have za:(b.take 20).length=20:=by rw[zY];omega
 have hdiv:(b.take 20).length/2=10:=by rw[za]
 have qs:=Au0 (b.take 20) q_ (by rw[za]);rw[hdiv]at qs;refine oO ?_;refine⟨E,by decide,i0,?_⟩;rw[e0]
 conv=>whnf
 constructor<;>intro h
 .rw[zE (.inl (by rw[show ((69:Int))=((69:UInt8).toNat:Int) from rfl,Aub]at h;exact zO h))]at aa;subst aa;refine oT ?_;exact Ak 2 zP E vL dN
 have h69:¬bAt b 0≠69:=by rw[show ((69:Int))=((69:UInt8).toNat:Int) from rfl,Aub]at h;exact zT h
 clear h;refine oO ?_;refine gE q2 F311 ?_;constructor<;>intro h
 .rw[zE (.inr (qA h))]at aa;subst aa;refine oO ?_;exact Ak 2 zP E vL dN
 have hs20:20<=numAt b 2 2:=qB h;rw[zD (λh=>h.elim h69 q_)]at aa;clear h;refine oO ?_;refine gE q2 F311 ?_;constructor<;>intro h
 .rw[zE (qA h)]at aa;subst aa;refine oO ?_;exact Ak 2 zP E vL dN
 have oc:numAt b 2 2<=b.length:=qB h;rw[zD q_]at aa;clear h;refine oO ?_;refine gE q6 F311 ?_;constructor<;>intro h
 .rw[zE (by have:(numAt b 6 2:Int)≠0:=(kS h);omega)]at aa;subst aa;refine oO ?_;exact Ak 2 zP E vL dN
 rw[zD (by have:(numAt b 6 2:Int)=0:=(kS h);omega)]at aa;clear h;refine oO ?_;refine Aj (D3 (lo:=0) (hi:=20) Γ.toTy E E E E (.inl ⟨E,E⟩) (.inr ⟨_,_,E,E⟩) q_ h20) E E (oO ?_);refine c0 qs F312 ?_;by_cases my:Ih (Qs (b.take 20) 10)=65535;rotate_left
 .rw[zE my]at aa;subst aa;rw[zK my];refine oT ?_;exact Ak 2 zP E vL dN
 rw[zD (λh=>h my)]at aa;subst aa;rw[zL my];have qc:=Ql ((b.take (numAt b 2 2)).drop 20) (by rw[yP,zY];omega);have w1:IntKind.i64.wrap ((b[(1:Int).toNat]'i1).toNat:Int)=((bAt b 1).toNat:Int):=by
  rw[Ajt (show 1<b.length by omega)];have:=(b[1]'q_).toNat_lt;show IntKind.i64.wrap ((b[1]'q_).toNat:Int)=_;rw[IntKind.wrap_i64];omega
 have w8:IntKind.i64.wrap ((b[(8:Int).toNat]'i8).toNat:Int)=((bAt b 8).toNat:Int):=by
  rw[Ajt (show 8<b.length by omega)];have:=(b[8]'q_).toNat_lt;show IntKind.i64.wrap ((b[8]'q_).toNat:Int)=_;rw[IntKind.wrap_i64];omega
 have w9:IntKind.i64.wrap ((b[(9:Int).toNat]'i9).toNat:Int)=((bAt b 9).toNat:Int):=by
  rw[Ajt (show 9<b.length by omega)];have:=(b[9]'q_).toNat_lt;show IntKind.i64.wrap ((b[9]'q_).toNat:Int)=_;rw[IntKind.wrap_i64];omega
 refine oF ?_;refine⟨E,by decide,i1,?_⟩
 conv=>whnf
 refine cD q4 F311 (oD ?_);refine⟨E,by decide,i8,?_⟩
 conv=>whnf
 refine⟨E,by decide,i9,?_⟩
 conv=>whnf
 refine cD q12 F313 (oD ?_);refine cD q16 F313 (oD ?_);refine cD q2 F311 (oD ?_);refine Ce (D3 (lo:=20) (hi:=numAt b 2 2) Γ.toTy E E E E (.inr ⟨_,_,E,E⟩) (.inr ⟨_,_,E,E⟩) hs20 oc) z_ E (oD ?_);refine cD qc F30 (gL ?_);refine Ar E (.cons (.cell E E E E) Aq) ?_ E;show SV.tup [.agg [Aa (bAt b 1).toNat,_,Aa (bAt b 8).toNat,Aa (bAt b 9).toNat,_,_,_],_]=SV.tup [.agg [Aa (IntKind.i64.wrap ((b[(1:Int).toNat]'i1).toNat:Int)),_,Aa (IntKind.i64.wrap ((b[(8:Int).toNat]'i8).toNat:Int)),Aa (IntKind.i64.wrap ((b[(9:Int).toNat]'i9).toNat:Int)),_,_,_],_];rw[w1,w8,w9];rfl
def A0i(t:Nat)(h:t<=255):bits .or .i64 17664 (t:Int)=((17664+t:Nat):Int):=by
 have h1:=E5 17664 t j_ q_;rw[show ((17664:Nat):Int)=17664 from rfl]at h1;rw[h1];congr 1;have h2:=xR (i:=8) (b:=t) q_ 69;rw[show 2^8*69=17664 from rfl]at h2;rw[<-h2]
def A4k(x y:Nat)(hx:x<=255)(hy:y<=255):bits .or .i64 (IntKind.i64.wrap ((x:Int)*2^min (Int.toNat 8) IntKind.i64.bits)) (y:Int)=((x*256+y:Nat):Int):=by
 have h3:IntKind.i64.wrap ((x:Int)*2^min (Int.toNat 8) IntKind.i64.bits)=((x*256:Nat):Int):=by
  show IntKind.i64.wrap ((x:Int)*256)=_;rw[IntKind.wrap_i64];omega
 rw[h3,E5 _ _ q_ q_];congr 1;have h:=xR (i:=8) (b:=y) q_ x;rw[vK x 256];exact h.symm
def Am1(x:Nat)(h:x<4294967296):IntKind.i64.wrap ((x:Int).fdiv (2^(min (Int.toNat 16) IntKind.u32.bits)))=((x/65536:Nat):Int):=by
 show IntKind.i64.wrap ((x:Int).fdiv 65536)=_;rw[wQ _ j_,IntKind.wrap_i64];omega
def Atn(x:Nat)(h:x<4294967296):IntKind.i64.wrap (x:Int)=(x:Int):=by rw[IntKind.wrap_i64];omega
def Aiy(p:PacketM)(hp:PacketOK p)(hb:p.body.length<100000):Sp 203 [bU p] (.tup [.sl 1 Al (ipPutT p).1,Aa (ipPutT p).2]):=cT F203 ntmps203 λF hF=>by
 have aa:=ipPutT.eq_1 p;generalize ipPutT p=res at *;have h1:=hp.tos;have h2:=hp.id;have h3:=hp.ttl;have h4:=hp.proto;have h5:=hp.src;have h6:=hp.dst
 conv=>whnf
 refine Ek ⟨⟨_,_,F258⟩,Ahz p.tos 255 q_⟩ E E E E E E ?_;refine oF ?_;refine Ek ⟨⟨_,_,F258⟩,Ahz p.ttl 255 q_⟩ E E E E E E ?_;refine oF ?_;refine Ek ⟨⟨_,_,F258⟩,Ahz p.proto 255 q_⟩ E E E E E E ?_;refine oF ?_;refine Ek ⟨⟨_,_,F258⟩,Ahz p.id 65535 q_⟩ E E E E E E ?_;refine oF ?_;constructor<;>intro h
 .rw[zE (qA h)]at aa;subst aa;refine oO ?_;exact Ao 2 1 Al E dN
 have hl:p.body.length<=1480:=qB h;rw[zD q_]at aa;subst aa;clear h;have bg:Ig p=((Ht p 0).set 10 (UInt8.ofNat (I6 p/256))).set 11 (UInt8.ofNat (I6 p))++p.body:=by rw[Arj,Ig]
 rw[bg];have mz:=J0 p 0;have hs:=sumOfS (Ht p 0) (by rw[mz];decide) (by rw[mz]);have zb:=A1s [17664+p.tos,20+p.body.length,p.id,0,p.ttl*256+p.proto,0,p.src/65536,p.src,p.dst/65536,p.dst] y_;rw[show O4 [17664+p.tos,20+p.body.length,p.id,0,p.ttl*256+p.proto,0,p.src/65536,p.src,p.dst/65536,p.dst]=Ht p 0 from rfl]at zb;have hss:Afm (Ht p 0)=I6 p:=rfl;rw[hss]at hs;have oc:I6 p<=65535:=Nat.sub_le _ _;generalize I6 p=s at *;have ki:=Jc s;have o1:=A0i p.tos h1;have o2:=A4k p.ttl p.proto h3 h4;have g1:=Am1 p.src h5;have g2:=Atn p.src h5;have g3:=Am1 p.dst h6;have g4:=Atn p.dst h6;generalize Ht p 0=b at *;refine gF ?_;refine⟨by decide,?_⟩
 conv=>whnf
 refine⟨by decide,?_⟩
 conv=>whnf
 refine⟨by decide,?_⟩
 conv=>whnf
 refine Aoh 68 (e:=A0z) (l:=[17664+p.tos,20+p.body.length,p.id,0,p.ttl*256+p.proto,0,p.src/65536,p.src,p.dst/65536,p.dst]) E ?_ ?_
 .show _=[SV.val (.int .i64 (bits .or .i64 17664 (p.tos:Int))),SV.val _,SV.val _,SV.val _,SV.val (.int .i64 (bits .or .i64 (IntKind.i64.wrap ((p.ttl:Int) * 2 ^ min (Int.toNat 8) IntKind.i64.bits)) (p.proto:Int))),SV.val _,
   SV.val (.int .i64 (IntKind.i64.wrap ((p.src:Int).fdiv (2 ^ (min (Int.toNat 16) IntKind.u32.bits))))),SV.val (.int .i64 (IntKind.i64.wrap (p.src:Int))),SV.val (.int .i64 (IntKind.i64.wrap ((p.dst:Int).fdiv (2 ^ (min (Int.toNat 16) IntKind.u32.bits))))),SV.val (.int .i64 (IntKind.i64.wrap (p.dst:Int)))]
  rw[o1,o2,g1,g2,g3,g4];rfl
 refine Ai 68 E ?_;refine Aj (Ad [(0,69)] E F259 zb E Y E ⟨.inr E,Y⟩) E E (oO ?_);refine Aua [69] hs F260 E (.cons (.row E E) .nil) E E E ?_;refine oO ?_;have fx:=(List.cons.inj ki).1;have dy:=(List.cons.inj (List.cons.inj ki).2).1;refine⟨by omega,?_⟩
 conv=>whnf
 refine⟨by decide,by rw[mz];decide,?_⟩
 conv=>whnf
 refine⟨E,by rw[mz];decide,UInt8.ofNat (s/256),zH (λz=>[z]) fx,E,?_⟩
 conv=>whnf
 refine⟨by decide,by simp[mz],?_⟩
 conv=>whnf
 refine⟨E,by simp[mz],UInt8.ofNat s,zH (λz=>[z]) dy,E,?_⟩
 conv=>whnf
 exact Aj (Ah Γ.toTy 84 E E E E E (.row E) .sl j_ (by simp[mz];omega) (by simp[mz];omega)) E E (Ai 84 E gI)
def hop1(p:PacketM):PacketM×Int:=if p.ttl<=1 then (noP,13) else (Ae0 p,0)
def ipHopS(p:PacketM)(hb:p.body.length<100000)(ht:p.ttl<=255):Sp 243 [bU p] (.tup [bU (hop1 p).1,Aa (hop1 p).2]):=cT F243 ntmps243 λF hF=>by
 have aa:=hop1.eq_1 p;generalize hop1 p=res at *;have qc:=Ql p.body q_
 conv=>whnf
 constructor<;>intro h
 .rw[zE (qA h)]at aa;subst aa;refine oO ?_;exact Ak 2 zP E vL dN
 have h2:¬p.ttl<=1:=qB h;rw[zD h2]at aa;subst aa;have e:((p.ttl-1:Nat):Int)=(p.ttl:Int)-1:=by omega
 refine gF ?_;refine gE qc F30 ?_;refine Ar E (.cons (.cell E E E E) Aq) ?_ E;show SV.tup [.agg [_,_,Aa ((p.ttl-1:Nat):Int),_,_,_,_],_]=SV.tup [.agg [_,_,Aa ((p.ttl:Int)-1),_,_,_,_],_];rw[e];rfl
def udpU(b:List UInt8):Nat->List SV
 |0=>[Aa 0,Aa 0,Aa 0,Aa 0]
 |1=>[Aa (numAt b 0 2),Aa 0,Aa 0,Aa 0]
 |2=>[Aa (numAt b 0 2),Aa (numAt b 2 2),Aa 0,Aa 0]
 |3=>[Aa (numAt b 0 2),Aa (numAt b 2 2),Aa (numAt b 4 2),Aa 0]
 |_=>[Aa (numAt b 0 2),Aa (numAt b 2 2),Aa (numAt b 4 2),Aa (numAt b 6 2)]
def Ayx(b:List UInt8)(hb:b.length<100000):Sp 373 [.sl 1 Al b] (.tup [Aa (udpTakeT b).1,Aa (udpTakeT b).2.1,.sl 1 Al (udpTakeT b).2.2.1,Aa (udpTakeT b).2.2.2]):=cT F373 ntmps373 λF hF=>by
 have aa:=udpTakeT.eq_1 b;generalize udpTakeT b=res at *
 conv=>whnf
 constructor<;>intro h
 .rw[zE (qA h)]at aa;subst aa;refine oO ?_;exact Ao 4 1 Al E dN
 have h8:8<=b.length:=qB h;rw[zD q_]at aa;clear h;have eo:=Jj (b[0]'q_) (b[1]'q_);rw[<-Z0 (show 0+2<=b.length by omega)]at eo;have gb:=Jj (b[2]'q_) (b[3]'q_);rw[<-Z0 (show 2+2<=b.length by omega)]at gb;have em:=Jj (b[4]'q_) (b[5]'q_);rw[<-Z0 (show 4+2<=b.length by omega)]at em;have ux:=Jj (b[6]'q_) (b[7]'q_);rw[<-Z0 (show 6+2<=b.length by omega)]at ux;refine oO ?_;refine Bg 4 (λj=>[(0,.sl 1 Al b),(6,.ptr 6 0),(11,Aa j)]) (λj=>[(6,.box (udpU b j))]) [] kU ?_;intro j hj;have dg:j=0\/j=1\/j=2\/j=3\/j=4:=by omega
 rcases dg with rfl|rfl|rfl|rfl|rfl
 .refine oT ?_;refine iW ?_;refine⟨E,by omega,by omega,?_⟩
  conv=>whnf
  refine⟨by decide,?_⟩
  conv=>whnf
  refine iW ?_;refine iW ?_;refine⟨E,by omega,by omega,?_⟩
  conv=>whnf
  refine⟨by decide,by decide,?_⟩
  conv=>whnf
  refine kW ?_;refine iW ?_;exact Az [] j_ ⟨kA,⟨.inl (zH (λz:Int=>Ob.box [Aa z,Aa 0,Aa 0,Aa 0]) eo.symm),E,Y⟩,E,E⟩
 .refine oT ?_;refine iW ?_;refine⟨E,by omega,by omega,?_⟩
  conv=>whnf
  refine⟨by decide,?_⟩
  conv=>whnf
  refine iW ?_;refine iW ?_;refine⟨E,by omega,by omega,?_⟩
  conv=>whnf
  refine⟨by decide,by decide,?_⟩
  conv=>whnf
  refine kW ?_;refine iW ?_;exact Az [] j_ ⟨kA,⟨.inl (zH (λz:Int=>Ob.box [Aa (numAt b 0 2),Aa z,Aa 0,Aa 0]) gb.symm),E,Y⟩,E,E⟩
 .refine oT ?_;refine iW ?_;refine⟨E,by omega,by omega,?_⟩
  conv=>whnf
  refine⟨by decide,?_⟩
  conv=>whnf
  refine iW ?_;refine iW ?_;refine⟨E,by omega,by omega,?_⟩
  conv=>whnf
  refine⟨by decide,by decide,?_⟩
  conv=>whnf
  refine kW ?_;refine iW ?_;exact Az [] j_ ⟨kA,⟨.inl (zH (λz:Int=>Ob.box [Aa (numAt b 0 2),Aa (numAt b 2 2),Aa z,Aa 0]) em.symm),E,Y⟩,E,E⟩
 .refine oT ?_;refine iW ?_;refine⟨E,by omega,by omega,?_⟩
  conv=>whnf
  refine⟨by decide,?_⟩
  conv=>whnf
  refine iW ?_;refine iW ?_;refine⟨E,by omega,by omega,?_⟩
  conv=>whnf
  refine⟨by decide,by decide,?_⟩
  conv=>whnf
  refine kW ?_;refine iW ?_;exact Az [] j_ ⟨kA,⟨.inl (zH (λz:Int=>Ob.box [Aa (numAt b 0 2),Aa (numAt b 2 2),Aa (numAt b 4 2),Aa z]) ux.symm),E,Y⟩,E,E⟩
 clear eo gb em ux;refine oF ?_;refine⟨by decide,by decide,?_⟩
 conv=>whnf
 constructor<;>intro h
 .rw[zE (qA h)]at aa;subst aa;refine oO ?_;exact Ao 4 1 Al E dN
 have hs8:8<=numAt b 4 2:=qB h;rw[zD q_]at aa;clear h;refine oO ?_;refine⟨by decide,by decide,?_⟩
 conv=>whnf
 constructor<;>intro h
 .rw[zE (qA h)]at aa;subst aa;refine oO ?_;exact Ao 4 1 Al E dN
 have oc:numAt b 4 2<=b.length:=qB h;rw[zD q_]at aa;clear h;refine oO ?_;refine⟨by decide,by decide,?_⟩
 conv=>whnf
 constructor<;>intro h
 .rw[zE (by have:(numAt b 6 2:Int)≠0:=(kS h);omega)]at aa;subst aa;refine oO ?_;exact Ao 4 1 Al E dN
 rw[zD (by have:(numAt b 6 2:Int)=0:=(kS h);omega)]at aa;subst aa;clear h;have qc:=Ql ((b.take (numAt b 4 2)).drop 8) (by rw[yP,zY];omega);refine oO ?_;refine⟨by decide,by decide,?_⟩
 conv=>whnf
 refine⟨by decide,by decide,?_⟩
 conv=>whnf
 refine⟨by decide,by decide,?_⟩
 conv=>whnf
 refine Ce (D3 (lo:=8) (hi:=numAt b 4 2) Γ.toTy E E E E (.inr ⟨_,_,E,E⟩) (.inr ⟨_,_,E,E⟩) hs8 oc) z_ E (oD ?_);refine cD qc F30 (gL ?_);exact dN
def A3w(src dst:Nat)(body:List UInt8)(h1:src<=65535)(h2:dst<=65535)(h3:body.length<=1472):Sp 323 [Aa src,Aa dst,.sl 1 Al body] (.tup [.sl 1 Al (oP src dst body),Aa 0]):=cT F323 ntmps323 λF hF=>by
 ((conv=>whnf);refine aF ?_;refine rg ?_;conv=>whnf)
 (refine⟨λh=>False.elim (by simp at h;omega),λ_=>?_⟩;refine rg ?_;(conv=>whnf);refine aF ?_;refine rg ?_;(conv=>whnf);refine⟨λh=>False.elim (by simp at h;omega),λ_=>?_⟩;refine rg ?_;(conv=>whnf);refine⟨λh=>False.elim (by simp at h;omega),λ_=>?_⟩;refine rg ?_;conv=>whnf)
 refine iW ?_;refine Ca 8 1000 1 Al E E ?_;refine Aj (Wt Γ.toTy E E E E E E) E E (oO ?_);have key:∀(x:Nat) (pre:List Nat),pre.length<=4->Dp (pre++[x])=Dp pre++[UInt8.ofNat (x/256),UInt8.ofNat x]:=λx pre _=>L7 pre x
 have iz:∀l:List Nat,(Dp l).length=2*l.length:=Sb;obtain ⟨ws,j6⟩:∃ws:List Nat,ws=[src,dst,8+body.length,0]:=⟨_,rfl⟩
 refine Bg 4 (λj=>[(2,.sl 1 Al body),(8,.osl 1000),(35,.agg [Aa src,Aa dst,Aa (8+body.length:Nat),Aa 0]),(36,Aa j)]) (λj=>[(1000,.row 1 Al (Dp (ws.take j)))]) [] ⟨kA,⟨.inl (zH (Ob.row 1 Al) (by simp[Dp])),E,Y⟩,E,E⟩ ?_;intro j hj;have dg:j=0\/j=1\/j=2\/j=3\/j=4:=by omega
 rcases dg with rfl|rfl|rfl|rfl|rfl
 .have hs:Dp (ws.take 1)=Dp (ws.take 0)++[UInt8.ofNat (src/256),UInt8.ofNat src]:=by subst j6;exact L7 [] src
  have hl:=iz (ws.take 0);have gz:(ws.take 0).length<=4:=by rw[zY];omega
  have ki:=Jc src;refine oT ?_;refine Aj (Cg (k:=.int .i64) Γ.toTy E E E Tryz.underlying3 E E j_ j_ E) E E (oO ?_);refine⟨by decide,?_⟩
  conv=>whnf
  refine Aj (Ah Γ.toTy 46 E E E E E (.row E) (.lit (e:=Al) (l:=[UInt8.ofNat (src/256),UInt8.ofNat src]) E ki) y_ (by rw[hl];simp only[yM,xG];omega) (by rw[hl];simp only[yM,xG];omega)) E E (gF ?_);exact Az [(1000,46)] j_ ⟨kA,⟨.inl (zH (Ob.row 1 Al) hs),E,Y⟩,E,E⟩
 .have hs:Dp (ws.take 2)=Dp (ws.take 1)++[UInt8.ofNat (dst/256),UInt8.ofNat dst]:=by subst j6;exact L7 [src] dst
  have hl:=iz (ws.take 1);have gz:(ws.take 1).length<=4:=by rw[zY];omega
  have ki:=Jc dst;refine oT ?_;refine Aj (Cg (k:=.int .i64) Γ.toTy E E E Tryz.underlying3 E E j_ j_ E) E E (oO ?_);refine⟨by decide,?_⟩
  conv=>whnf
  refine Aj (Ah Γ.toTy 46 E E E E E (.row E) (.lit (e:=Al) (l:=[UInt8.ofNat (dst/256),UInt8.ofNat dst]) E ki) y_ (by rw[hl];simp only[yM,xG];omega) (by rw[hl];simp only[yM,xG];omega)) E E (gF ?_);exact Az [(1000,46)] j_ ⟨kA,⟨.inl (zH (Ob.row 1 Al) hs),E,Y⟩,E,E⟩
 .have hs:Dp (ws.take 3)=Dp (ws.take 2)++[UInt8.ofNat ((8+body.length)/256),UInt8.ofNat (8+body.length)]:=by subst j6;exact L7 [src,dst] (8+body.length)
  have hl:=iz (ws.take 2);have gz:(ws.take 2).length<=4:=by rw[zY];omega
  have ki:=Jc (8+body.length);refine oT ?_;refine Aj (Cg (k:=.int .i64) Γ.toTy E E E Tryz.underlying3 E E j_ j_ E) E E (oO ?_);refine⟨by decide,?_⟩
  conv=>whnf
  refine Aj (Ah Γ.toTy 46 E E E E E (.row E) (.lit (e:=Al) (l:=[UInt8.ofNat ((8+body.length)/256),UInt8.ofNat (8+body.length)]) E ki) y_ (by rw[hl];simp only[yM,xG];omega) (by rw[hl];simp only[yM,xG];omega)) E E (gF ?_);exact Az [(1000,46)] j_ ⟨kA,⟨.inl (zH (Ob.row 1 Al) hs),E,Y⟩,E,E⟩
 .have hs:Dp (ws.take 4)=Dp (ws.take 3)++[UInt8.ofNat (0/256),UInt8.ofNat 0]:=by subst j6;exact L7 [src,dst,8+body.length] 0
  have hl:=iz (ws.take 3);have gz:(ws.take 3).length<=4:=by rw[zY];omega
  have ki:=Jc 0;refine oT ?_;refine Aj (Cg (k:=.int .i64) Γ.toTy E E E Tryz.underlying3 E E j_ j_ E) E E (oO ?_);refine⟨by decide,?_⟩
  conv=>whnf
  refine Aj (Ah Γ.toTy 46 E E E E E (.row E) (.lit (e:=Al) (l:=[UInt8.ofNat (0/256),UInt8.ofNat 0]) E ki) y_ (by rw[hl];simp only[yM,xG];omega) (by rw[hl];simp only[yM,xG];omega)) E E (gF ?_);exact Az [(1000,46)] j_ ⟨kA,⟨.inl (zH (Ob.row 1 Al) hs),E,Y⟩,E,E⟩
 have hl:=iz (ws.take 4);have e:ws.take 4=[src,dst,8+body.length,0]:=by rw[j6];rfl
 rw[e]at hl|-;have l5:(Dp [src,dst,8+body.length,0]).length=8:=hl;refine oF ?_;exact Aj (Ah Γ.toTy 50 E E E E E (.row E) .sl y_ (by rw[l5];simp;omega) (by rw[l5];omega)) E E (Ai 50 E gI)
def Ayy(a b:Nat)(ha:a<18446744073709551616)(hb:b<18446744073709551616):Sp 324 [Bl a,Bl b] (Aa (udpPort a b:Nat)):=cT F324 ntmps324 λF hF=>by
 have hx:=bits_xor_u64_nat a b ha hb;have hmd:((a^^^b:Nat):Int).tmod 16384=(((a^^^b)%16384:Nat):Int):=by rw[Int.tmod_eq_emod_of_nonneg q_];omega
 have hl:=Nat.mod_lt (a^^^b) (show 0<16384 by decide);have hw:IntKind.i64.wrap (((a^^^b)%16384:Nat):Int)=(((a^^^b)%16384:Nat):Int):=by rw[IntKind.wrap_i64];omega
 conv=>whnf
 refine⟨by decide,?_⟩;rw[hx,hmd]
 conv=>whnf
 rw[hw];refine iW ?_;refine Ar E Aq ?_ E;refine zH (λz:Int=>SV.val (.int .i64 z)) ?_;rw[udpPort];omega
def Atu(v:Int)(h:Vj v=true):Sp 322 [Aa v] (.tup [.sl 1 Al [],Aa 17]):=cT F322 ntmps322 λF hF=>by
 simp only[Vj,yO,zJ]at h
 conv=>whnf
 constructor<;>intro h1
 .refine oT ?_;exact Ao 2 1 Al E dN
 refine oO ?_;refine⟨λh2=>?_,λh2=>yA (zT h2) (by have:=zT h1;omega)⟩;refine oO ?_;exact Ao 2 1 Al E dN
def Ayq{v:Int}(h:Vj v=false):1<=v/\v<=16777215:=by
 simp only[Vj,xX,yB]at h;omega
def Axf(k:Nat):(Lf k).map Al=[SV.val (.int .u8 8),SV.val (.int .u8 0),SV.val (.int .u8 0),SV.val (.int .u8 0),SV.val (.int .u8 (IntKind.u8.wrap ((k:Int).fdiv (2 ^ (min (Int.toNat 16) IntKind.i64.bits))))),
  SV.val (.int .u8 (IntKind.u8.wrap ((k:Int).fdiv (2 ^ (min (Int.toNat 8) IntKind.i64.bits))))),SV.val (.int .u8 (IntKind.u8.wrap (k:Int))),SV.val (.int .u8 0)]:=by
 have h1:IntKind.u8.wrap ((k:Int).fdiv (2^(min (Int.toNat 16) IntKind.i64.bits)))=((UInt8.ofNat (k/65536)).toNat:Int):=by
  show IntKind.u8.wrap ((k:Int).fdiv 65536)=_;rw[wQ _ j_,IntKind.wrap_u8];simp
 have h2:IntKind.u8.wrap ((k:Int).fdiv (2^(min (Int.toNat 8) IntKind.i64.bits)))=((UInt8.ofNat (k/256)).toNat:Int):=by
  show IntKind.u8.wrap ((k:Int).fdiv 256)=_;rw[wQ _ j_,IntKind.wrap_u8];simp
 have h3:=u8_of k;rw[h1,h2,h3];rfl
def A16(k:Nat)(h:1<=k/\k<=16777215):Sq 322 [Aa k] [] (.tup [.osl 0,Aa 0]) [(0,.row 1 Al (Lf k))]:=cT F322 ntmps322 λF hF=>by
 have hl:=Axf k
 conv=>whnf
 refine⟨λh1=>yA (zO h1) q_,λ_=>?_⟩;refine oO ?_;refine⟨λh1=>yA (zO h1) q_,λ_=>?_⟩;refine oO ?_;refine⟨by decide,?_⟩
 conv=>whnf
 refine⟨by decide,?_⟩
 conv=>whnf
 refine Jb 18 Al (Lf k) E hl ?_;exact done E (.cons .tmp Aq) [(0,18)] [(0,.row 1 Al (Lf k))] (λ_ h=>h) E E kU
def Ax4(a b:List UInt8):((⟨a.toArray⟩:ByteArray)==(⟨b.toArray⟩:ByteArray))=decide (a=b):=by
 have key:=Go.MapKept.bytes_beq (⟨a.toArray⟩:ByteArray) ⟨b.toArray⟩;by_cases h:a=b
 .subst h;rw[zL rfl];exact key.2 E
 .rw[zK h];cases hb:((⟨a.toArray⟩:ByteArray)==(⟨b.toArray⟩:ByteArray)) with
  |false=>rfl
  |true=>
   have:=zH (λz:ByteArray=>z.data.toList) (key.1 hb);exact yA (kS this) h
def Ay2(x y z:UInt8):bits .or .i64 (bits .or .i64 (IntKind.i64.wrap ((IntKind.i64.wrap (x.toNat:Int))*2^min (Int.toNat 16) IntKind.i64.bits)) (IntKind.i64.wrap ((IntKind.i64.wrap (y.toNat:Int))*2^min (Int.toNat 8) IntKind.i64.bits))) (IntKind.i64.wrap (z.toNat:Int))
  = (((x.toNat*256+y.toNat)*256+z.toNat:Nat):Int):=by
 have h1:=x.toNat_lt;have h2:=y.toNat_lt;have h3:=z.toNat_lt;have e1:IntKind.i64.wrap (x.toNat:Int)=(x.toNat:Int):=by rw[IntKind.wrap_i64];omega
 have e2:IntKind.i64.wrap (y.toNat:Int)=(y.toNat:Int):=by rw[IntKind.wrap_i64];omega
 have e3:IntKind.i64.wrap (z.toNat:Int)=(z.toNat:Int):=by rw[IntKind.wrap_i64];omega
 rw[e1,e2,e3];have f1:IntKind.i64.wrap ((x.toNat:Int)*2^min (Int.toNat 16) IntKind.i64.bits)=((x.toNat*65536:Nat):Int):=by
  show IntKind.i64.wrap ((x.toNat:Int)*65536)=_;rw[IntKind.wrap_i64];omega
 have f2:IntKind.i64.wrap ((y.toNat:Int)*2^min (Int.toNat 8) IntKind.i64.bits)=((y.toNat*256:Nat):Int):=by
  show IntKind.i64.wrap ((y.toNat:Int)*256)=_;rw[IntKind.wrap_i64];omega
 rw[f1,f2,E5 _ _ q_ q_];have g1:x.toNat*65536|||y.toNat*256=x.toNat*65536+y.toNat*256:=by
  have h:=xR (i:=16) (b:=y.toNat*256) q_ x.toNat;rw[vK x.toNat 65536];exact h.symm
 rw[g1,E5 _ _ q_ q_];refine zH (λn:Nat=>(n:Int)) ?_;have h:256*(x.toNat*256+y.toNat)+z.toNat=256*(x.toNat*256+y.toNat)|||z.toNat:=xR (i:=8) (b:=z.toNat) q_ (x.toNat*256+y.toNat);have e:x.toNat*65536+y.toNat*256=256*(x.toNat*256+y.toNat):=by omega
 rw[e,<-h];omega
def vniS(b:List UInt8)(hb:b.length<100000):Sp 374 [.sl 1 Al b] (.tup [Aa (vniT b).1,.sl 1 Al (vniT b).2.1,Aa (vniT b).2.2]):=cT F374 ntmps374 λF hF=>by
 have aa:=vniT.eq_1 b;generalize vniT b=res at *
 conv=>whnf
 constructor<;>intro h
 .rw[zE (qA h)]at aa;subst aa;refine oO ?_;exact Ao 3 1 Al E dN
 have h8:8<=b.length:=qB h;rw[zD q_]at aa;clear h;have i4:(4:Int).toNat<b.length:=by show 4<_;omega
 have i5:(5:Int).toNat<b.length:=by show 5<_;omega
 have i6:(6:Int).toNat<b.length:=by show 6<_;omega
 have hv:bits .or .i64 (bits .or .i64 (IntKind.i64.wrap ((IntKind.i64.wrap ((b[(4:Int).toNat]'i4).toNat:Int))*2^min (Int.toNat 16) IntKind.i64.bits)) (IntKind.i64.wrap ((IntKind.i64.wrap ((b[(5:Int).toNat]'i5).toNat:Int))*2^min (Int.toNat 8) IntKind.i64.bits))) (IntKind.i64.wrap ((b[(6:Int).toNat]'i6).toNat:Int))
   = (numAt b 4 3:Int):=by
  rw[Ay2,numAt3 (show 4+3<=b.length by omega)];rfl
 have fc:=S6 b 4 3;refine oO ?_;refine⟨E,by decide,i4,?_⟩
 conv=>whnf
 refine⟨by decide,?_⟩
 conv=>whnf
 refine⟨E,by decide,i5,?_⟩
 conv=>whnf
 refine⟨by decide,?_⟩
 conv=>whnf
 refine⟨E,by decide,i6,?_⟩
 conv=>whnf
 refine⟨z_,?_⟩;rw[hv];generalize hvv:numAt b 4 3=v at *
 conv=>whnf
 by_cases h0:v=0
 .rw[zE (.inl h0)]at aa;subst aa;have q:=Atu v (by rw[h0];decide);refine c0 q F322 ?_
  (refine rg ?_;(conv=>whnf);refine aT ?_;refine oD ?_)
  refine⟨z_,?_⟩
  ((conv=>whnf);refine aT ?_;refine rg ?_;conv=>whnf)
  exact Ao 3 1 Al E dN
 have q:=A16 v q_;refine Aj (Ad [(0,55)] E F322 q E Y E ⟨.inr E,Y⟩) E E (Ai 55 E ?_)
 (refine rg ?_;(conv=>whnf);refine aF ?_;refine oD ?_)
 refine Ce (Lh Γ.toTy (bs:=Lf v) E E E E E E E .sl) z_ E (oD ?_);refine Ce (D3 (lo:=0) (hi:=8) Γ.toTy E E E E (.inl ⟨E,E⟩) (.inr ⟨_,_,E,E⟩) q_ h8) z_ E (oD ?_);refine Ce (Lh Γ.toTy (bs:=b.take 8) E E E E E E E .sl) z_ E (gL ?_);have hbe:=Ax4 (Lf v) (b.take 8);rw[hbe];by_cases he:b.take 8=Lf v;rotate_left
 .rw[zE (.inr he)]at aa;subst aa;rw[zK (λe=>he e.symm)];refine⟨λ_=>?_,λh=>yA h j_⟩;refine oO ?_;exact Ao 3 1 Al E dN
 rw[zD (λh=>h.elim h0 (λh2=>h2 he))]at aa;subst aa;rw[zL he.symm];have x9:(b.take b.length).drop 8=b.drop 8:=by rw[yN]
 refine⟨λh=>yA h j_,λ_=>?_⟩;refine oO ?_;refine Aj (D3 (lo:=8) (hi:=b.length) Γ.toTy E E E E (.inr ⟨_,_,E,E⟩) (.inl ⟨E,E⟩) h8 (yE _)) E E (oO ?_);refine Aj (Ah Γ.toTy 45 E E E E E .nil .sl y_ kO kO) E E ?_;refine Ai 45 E (oO ?_);refine Ar E (.cons .tmp (.cons .tmp Aq)) ?_ E;show SV.tup [_,.sl 1 Al (b.drop 8),_]=SV.tup [_,.sl 1 Al ([]++(b.take b.length).drop 8),_];rw[x9];rfl
def Amo(a c v:Nat)(f:FrameM)(h:f.body.length<=1450):ipPutT (Lq a c v f)=(Ig (Lq a c v f),0):=by
 rw[ipPutT,zD (by rw[M7];omega)]
def Aot(a b:Nat):udpPort a b<=65535:=by
 have:=Nat.mod_lt (a^^^b) (show 0<16384 by decide);unfold udpPort;omega
def A0d(a c v:Nat)(f:FrameM)(ha:a<4294967296)(hc:c<4294967296)(h:f.body.length<=1450):FrameOK ⟨hostN c,hostN a,2048,Ig (Lq a c v f)⟩ :=
 ⟨Wo c hc,Wo a ha,by show (2048:Nat)<=65535;decide,by show (Ig (Lq a c v f)).length<=1504;rw[Hy,M7];omega⟩
def A3s(a c:Nat)(v:Int)(f:FrameM)(ha:a<4294967296)(hc:c<4294967296)(hf:FrameOK f):Sp 249 [Be a,Be c,Aa v,Df f] (.tup [.sl 1 Al (wrapT a c v f).1,Aa (wrapT a c v f).2]):=cT F249 ntmps249 λF hF=>by
 have aa:=wrapT.eq_1 a c v f;generalize wrapT a c v f=res at *;have q0:=Xn f;have hd:=hf.dst;have hs:=hf.src;have hb:=hf.body;have ay:=D9 f
 conv=>whnf
 refine Bf 7 4 (Df f) E E E ?_;by_cases ht:f.typ=33024
 .rw[zE ht]at aa;subst aa;rw[zL ht]at q0;refine oO ?_;refine c0 q0 F177 (oT ?_);exact Ao 8 1 Al E dN
 rw[zD ht]at aa;rw[zK ht]at q0;refine oO ?_;refine c0 q0 F177 (oF ?_);refine Aj (Ad [(0,55)] E F19 (On f hf) E Y E ⟨.inr E,Y⟩) E E ?_;refine Ai 55 E (oF ?_);cases hv:Vj v;rotate_left
 .rw[zE hv]at aa;subst aa;refine c0 (Atu v hv) F322 (oT ?_);exact Ao 8 1 Al E dN
 rw[zD (by rw[hv];decide)]at aa;have hvg:=Ayq hv;obtain ⟨k,rfl⟩:=xO (show 0<=v by omega);rw[zZ]at aa;refine Aj (Ad [(0,56)] E F322 (A16 k q_) E Y E ⟨.inr E,Y⟩) E E (oF ?_);constructor<;>intro h
 .rw[zE (qA h)]at aa;subst aa;refine oO ?_;exact Ao 8 1 Al E dN
 have hl:f.body.length<=1450:=qB h;rw[zD q_]at aa;subst aa;clear h;have qp:=Ayy f.dst f.src q_ q_;have l6:=Aot f.dst f.src;have qu:=A3w (udpPort f.dst f.src) 4789 (Lf k++Mb f) l6 j_ (by rw[zQ,H7,ay];omega);have hwb:(Lq a c k f).body=oP (udpPort f.dst f.src) 4789 (Lf k++Mb f):=rfl;have qi:=Aiy (Lq a c k f) (Ayk a c k f ha hc) (by rw[M7];omega);rw[Amo a c k f hl]at qi;have qe:=On _ (A0d a c k f ha hc hl);refine oO ?_;refine gE qp F324 ?_;refine Aj (Ah Γ.toTy 46 E E E E E (.row E) .sl j_ (by rw[H7,ay];simp;omega) (by rw[H7,ay];omega)) E E ?_;refine Ai 46 E (oO ?_);refine gE qu F323 ?_;refine gE qi F203 ?_;refine gE (Agk c hc) F204 ?_;refine gE (Agk a ha) F204 ?_;exact Aj (Ad [(0,57)] E F19 qe E Y E ⟨.inr E,Y⟩) E E (Ai 57 E gI)
def Ex(p:PacketM)(v e:Int):List SV:=[Aa p.tos,Aa p.id,Aa p.ttl,Aa p.proto,Be p.src,Be p.dst,.sl 1 Al p.body,Aa v,Aa e]
def D0(is:Bool)(re e:Int):Int:=if is=true/\re=0 then e else re
def dF(p:PacketM)(v re:Int)(is:Bool)(e:Int):Sq 372 [.ptr 0 0,Ab is,Aa e] [(0,.box (Ex p v re))] (.tup []) [(0,.box (Ex p v (D0 is re e)))]:=cT F372 ntmps372 λF hF=>by
 cases is
 .have h:D0 false re e=re:=by simp[D0]
  rw[h]
  ((conv=>whnf);refine aF ?_;refine rg ?_;(conv=>whnf);refine aF ?_;refine rg ?_;conv=>whnf)
  exact A6 E .nil [] [(0,.box (Ex p v re))] (λ_ h=>h) E E kU
 ·((conv=>whnf);refine aT ?_;refine rg ?_;conv=>whnf)
  constructor<;>intro h
  .have h2:D0 true re e=e:=by show (if true=true/\re=0 then e else re)=e;rw[zE ⟨rfl,kS h⟩]
   rw[h2];refine oO ?_;exact A6 E .nil [] [(0,.box (Ex p v e))] (λ_ h=>h) E E kU
  .have h2:D0 true re e=re:=by
    show (if true=true/\re=0 then e else re)=re;rw[zD (λ h3=>by
     have h4:¬ re=0:=kS h;exact h4 h3.2)]
   rw[h2];refine oO ?_;exact A6 E .nil [] [(0,.box (Ex p v re))] (λ_ h=>h) E E kU
def A4e(b:List UInt8)(hb:b.length<100000):Sq 325 [.ptr 0 0,.sl 1 Al b] [(0,.box (Ex noP 0 0))] (.tup []) [(0,.box (Ex (outerT b).1 0 (outerT b).2))]:=cT F325 ntmps325 λF hF=>by
 have aa:=outerT.eq_1 b;generalize outerT b=res at *;have q1:=Uu b hb;have eu:=@Aux b;have aq:=@Vn b;generalize takeF b=tk at *;obtain ⟨f,e⟩:=tk;dsimp only at aa q1 eu aq
 conv=>whnf
 refine gE q1 F120 ?_;refine Aj (Ad [(0,0)] E F372 (dF noP 0 0 true e) E ⟨E,Y⟩ E ⟨.inl E,Y⟩) E E ?_;rw[show D0 true 0 e=e by simp[D0]];refine oO ?_;refine Aj (Ad [(0,0)] E F372 (dF noP 0 e ((f.typ:Int) != 2048) 11) E ⟨E,Y⟩ E ⟨.inl E,Y⟩) E E ?_;by_cases he:e=0;rotate_left
 .rw[zE he]at aa;subst aa;rw[show D0 ((f.typ:Int) != 2048) e 11=e by simp[D0,he]];refine oO ?_;refine⟨λh=>yA (show e=0 by simpa using h) he,λ_=>?_⟩;refine oO ?_;exact A6 E .nil [] [(0,.box (Ex noP 0 e))] (λ_ h=>h) E E kU
 subst he;rw[zD y_]at aa;by_cases ht:f.typ=2048;rotate_left
 .rw[zE ht]at aa;subst aa;have dy:((f.typ:Int) != 2048)=true:=by simp;omega
  rw[dy,show D0 true 0 11=11 by simp[D0]];refine oF ?_;exact A6 E .nil [] [(0,.box (Ex noP 0 11))] (λ_ h=>h) E E kU
 rw[zD (λh=>h ht)]at aa;have dy:((f.typ:Int) != 2048)=false:=by simp;omega
 rw[dy,show D0 false 0 11=0 by simp[D0]];have hfb:=(aq rfl).body;have q2:=Atr f.body q_;have x8:=@A58 f.body;generalize ipTakeT f.body=ip at *;obtain ⟨p,e2⟩:=ip;dsimp only at aa q2 x8;refine oT ?_;refine gE q2 F242 ?_;refine Aj (Ad [(0,0)] E F372 (dF p 0 0 true e2) E ⟨E,Y⟩ E ⟨.inl E,Y⟩) E E ?_;rw[show D0 true 0 e2=e2 by simp[D0]];refine oO ?_;refine Aj (Ad [(0,0)] E F372 (dF p 0 e2 ((p.proto:Int) != 17) 11) E ⟨E,Y⟩ E ⟨.inl E,Y⟩) E E ?_;have gj:res=(p,D0 ((p.proto:Int) != 17) e2 11):=by
  by_cases h2:e2=0
  .subst h2;rw[zD y_]at aa;rw[aa];simp only[D0];by_cases h3:p.proto=17
   .rw[zD (by simp[h3]),zD (by simp[h3])]
   .rw[zE h3,zE kO]
  .rw[zE h2]at aa;rw[aa,x8 h2,show D0 ((noP.proto:Int) != 17) e2 11=e2 by simp[D0,h2]]
 rw[gj];refine oO ?_;exact A6 E .nil [] [(0,.box (Ex p 0 (D0 ((p.proto:Int) != 17) e2 11)))] (λ_ h=>h) E E kU
def frameT(p:PacketM)(e:Int):FrameM×Int×Int :=
 if e≠0 then (noF,0,e) else if (udpTakeT p.body).2.2.2≠0 then (noF,0,(udpTakeT p.body).2.2.2) else if (udpTakeT p.body).2.1≠4789 then (noF,0,11)
 else if (vniT (udpTakeT p.body).2.2.1).2.2≠0 then (noF,(vniT (udpTakeT p.body).2.2.1).1,(vniT (udpTakeT p.body).2.2.1).2.2)
 else ((takeF (vniT (udpTakeT p.body).2.2.1).2.1).1,(vniT (udpTakeT p.body).2.2.1).1,
  if (takeF (vniT (udpTakeT p.body).2.2.1).2.1).2≠0 then (takeF (vniT (udpTakeT p.body).2.2.1).2.1).2 else if (takeF (vniT (udpTakeT p.body).2.2.1).2.1).1.typ=33024 then 15 else 0)
def frameS(p:PacketM)(e:Int)(hb:p.body.length<100000):Sq 326 [.ptr 0 0] [(0,.box (Ex p 0 e))] (Df (frameT p e).1) [(0,.box (Ex p (frameT p e).2.1 (frameT p e).2.2))]:=cT F326 ntmps326 λF hF=>by
 have aa:=frameT.eq_1 p e;generalize frameT p e=res at *;have q1:=Ayx p.body hb;have ox:=@A3n p.body;generalize udpTakeT p.body=u at *;obtain ⟨u1,u2,u3,u4⟩:=u;dsimp only at aa q1 ox;have q2:=vniS u3 q_;have fc:=@vniT_body u3;generalize vniT u3=w at *;obtain ⟨w1,w2,w3⟩:=w;dsimp only at aa q2 fc;have q3:=Uu w2 q_;have eu:=@Aux w2;generalize takeF w2=t at *;obtain ⟨f,t2⟩:=t;dsimp only at aa q3 eu
 conv=>whnf
 constructor<;>intro h
 .rw[zE (kS h)]at aa;subst aa;refine oO ?_;refine Ak 2 zF E vL ?_;exact done E (.cons (.cell E E E E) .nil) [] [(0,.box (Ex p 0 e))] (λ_ h=>h) E E kU
 have he:e=0:=kS h;clear h;subst he;rw[zD y_]at aa;refine oO ?_;refine gE q1 F373 ?_;refine Aj (Ad [(0,0)] E F372 (dF p 0 0 true u4) E ⟨E,Y⟩ E ⟨.inl E,Y⟩) E E ?_;rw[show D0 true 0 u4=u4 by simp[D0]];refine oO ?_;refine Aj (Ad [(0,0)] E F372 (dF p 0 u4 (u2 != 4789) 11) E ⟨E,Y⟩ E ⟨.inl E,Y⟩) E E ?_;by_cases h4:u4=0;rotate_left
 .rw[zE h4]at aa;subst aa;rw[show D0 (u2 != 4789) u4 11=u4 by simp[D0,h4]];refine oO ?_;refine⟨λh=>yA (show u4=0 by simpa using h) h4,λ_=>?_⟩;refine oO ?_;refine⟨λ_=>?_,λh=>yA (show u4=0 by simpa using h) h4⟩;refine oO ?_;refine Ak 2 zF E vL ?_;exact done E (.cons (.cell E E E E) .nil) [] [(0,.box (Ex p 0 u4))] (λ_ h=>h) E E kU
 subst h4;rw[zD y_]at aa;by_cases h2:u2=4789;rotate_left
 .rw[zE h2]at aa;subst aa;rw[show D0 (u2 != 4789) 0 11=11 by simp[D0,h2]]
  (refine oF ?_;refine bT ?_)
  refine Ak 2 zF E vL ?_;exact done E (.cons (.cell E E E E) .nil) [] [(0,.box (Ex p 0 11))] (λ_ h=>h) E E kU
 rw[zD (λh=>h h2)]at aa;rw[show D0 (u2 != 4789) 0 11=0 by simp[D0,h2]];refine oT ?_;refine gE q2 F374 ?_;refine Aj (Ad [(0,0)] E F372 (dF p w1 0 true w3) E ⟨E,Y⟩ E ⟨.inl E,Y⟩) E E ?_;rw[show D0 true 0 w3=w3 by simp[D0]];refine gH ?_ ?_<;>intro h
 .rw[zE (kS h)]at aa;subst aa;refine oO ?_;refine Ak 2 zF E vL ?_;exact done E (.cons (.cell E E E E) .nil) [] [(0,.box (Ex p w1 w3))] (λ_ h=>h) E E kU
 have h3:w3=0:=kS h;clear h;subst h3;rw[zD y_]at aa;refine oO ?_;refine gE q3 F120 ?_;refine Aj (Ad [(0,0)] E F372 (dF p w1 0 true t2) E ⟨E,Y⟩ E ⟨.inl E,Y⟩) E E ?_;rw[show D0 true 0 t2=t2 by simp[D0]];refine oO ?_;refine gE (Xn f) F177 ?_;refine Aj (Ad [(0,0)] E F372 (dF p w1 t2 (decide (f.typ=33024)) 15) E ⟨E,Y⟩ E ⟨.inl E,Y⟩) E E ?_;have gj:D0 (decide (f.typ=33024)) t2 15=if t2≠0 then t2 else if f.typ=33024 then 15 else 0:=by
  by_cases k1:t2=0
  .subst k1;rw[zD y_];by_cases k2:f.typ=33024<;>simp[D0,k2]
  .rw[zE k1];simp[D0,k1]
 rw[<-gj]at aa;subst aa;refine oO ?_;exact done E (.cons (.cell E E E E) .nil) [] [(0,.box (Ex p w1 (D0 (decide (f.typ=33024)) t2 15)))] (λ_ h=>h) E E kU
def Ahp(b:List UInt8):Cn b=if (frameT (outerT b).1 (outerT b).2).2.2≠0 then (0,0,0,noF,(frameT (outerT b).1 (outerT b).2).2.2)
  else ((outerT b).1.src,(outerT b).1.dst,(frameT (outerT b).1 (outerT b).2).2.1,(frameT (outerT b).1 (outerT b).2).1,0):=by
 unfold Cn;generalize outerT b=o;obtain ⟨p,e⟩:=o;dsimp only;by_cases he:e=0;rotate_left
 .rw[zE he];have h1:frameT p e=(noF,0,e):=by rw[frameT,zE he]
  rw[h1,zE he]
 subst he;rw[zD y_];unfold Mx frameT;rw[zD (show ¬(0:Int)≠0 by simp)];generalize udpTakeT p.body=u;obtain ⟨u1,u2,u3,u4⟩:=u;dsimp only;by_cases h4:u4=0;rotate_left
 .rw[zE h4,zE h4,zE h4];dsimp only;rw[zE h4]
 subst h4;simp only[ne_eq,not_true_eq_false,if_false];by_cases h2:u2=4789;rotate_left
 .simp[h2]
 simp only[h2,not_true_eq_false,if_false];generalize vniT u3=w;obtain ⟨w1,w2,w3⟩:=w;dsimp only;by_cases h3:w3=0;rotate_left
 .simp[h3]
 simp only[h3,not_true_eq_false,if_false];generalize takeF w2=t;obtain ⟨f,t2⟩:=t;dsimp only;by_cases k1:t2=0
 .by_cases k2:f.typ=33024<;>simp[k1,k2]
 .simp[k1]
def Aum(b:List UInt8)(hb:b.length<100000):Sp 253 [.sl 1 Al b] (.tup [Be (Cn b).1,Be (Cn b).2.1,Aa (Cn b).2.2.1,Df (Cn b).2.2.2.1,Aa (Cn b).2.2.2.2]):=cT F253 ntmps253 λF hF=>by
 have aa:=Ahp b;generalize Cn b=res at *;have q1:=A4e b hb;have lq:=(fG b).2;generalize outerT b=o at *;obtain ⟨p,e⟩:=o;dsimp only at aa q1 lq;have q2:=frameS p e q_;generalize frameT p e=fr at *;obtain ⟨f,v,e2⟩:=fr;dsimp only at aa q2
 conv=>whnf
 refine Ak 9 (Ex noP 0 0) E vL (oO ?_);refine Aj (Ad [(0,9)] E F325 q1 E ⟨E,Y⟩ E ⟨.inl E,Y⟩) E E (oO ?_);refine Aj (Ad [(0,9)] E F326 q2 E ⟨E,Y⟩ E ⟨.inl E,Y⟩) E E ?_;refine gH ?_ ?_<;>intro h
 .rw[zE (kS h)]at aa;subst aa;refine oO ?_;refine kW ?_;exact Ak 5 zF E vL dN
 rw[zD (kS h)]at aa;subst aa;refine oO ?_;refine kW ?_;exact dN
end
structure MacM where
 up:List Bool
 tables:List (List EntryM)
 queues:List (List QueuedM)
 now:Int
 injected:Int
 drops:Nat->Int
def De(m:MacM)(e:Int):MacM:=⟨m.up,m.tables,m.queues,m.now,m.injected,λi=>if i=e.toNat then m.drops i+1 else m.drops i⟩
def queueL(m:MacM)(dom:Int):List QueuedM:=(m.queues[dom.toNat]?).getD []
def tableL(m:MacM)(dom:Int):List EntryM:=(m.tables[dom.toNat]?).getD []
def setQ(m:MacM)(dom:Int)(l:List QueuedM):MacM:=⟨m.up,m.tables,m.queues.set dom.toNat l,m.now,m.injected,m.drops⟩
def Ez(m:MacM)(dom:Int)(t:List EntryM):MacM:=⟨m.up,m.tables.set dom.toNat t,m.queues,m.now,m.injected,m.drops⟩
def comeM(m:MacM)(dom:Int)(q:QueuedM)(e:Int):MacM :=
 if e≠0 then De m e else if (pushT (queueL m dom) q).2=true then setQ m dom (pushT (queueL m dom) q).1 else De m 3
def takeM(m:MacM)(dom at_:Int):MacM×QueuedM×Bool :=
 if Ag dom m.queues.length=false then (m,noQ,false)
 else (setQ m dom (takeT (queueL m dom) at_).2.1,(takeT (queueL m dom) at_).1,(takeT (queueL m dom) at_).2.2)
def injectT(n:Net)(m:MacM)(port:Int)(b:List UInt8):MacM :=
 if Ag port n.ports.length=false\/0<=(nth n.ports port).link then m
 else comeM ⟨m.up,m.tables,m.queues,m.now,m.injected+1,m.drops⟩ (enterT n port b).1 ⟨port,0,m.injected+1,(enterT n port b).2.1⟩ (enterT n port b).2.2
def goesM(n:Net)(m:MacM)(o:OutM)(origin:Int):MacM×List SeenM :=
 if o.kind=1 then (m,[⟨o.port,origin,o.bytes⟩])
 else if o.kind=2 then (comeM m (linkT n o.port o.bytes).2.1 ⟨(linkT n o.port o.bytes).1,0,origin,(linkT n o.port o.bytes).2.2.1⟩ (linkT n o.port o.bytes).2.2.2,[])
 else if o.kind=3 then (comeM m (comeT n o.bytes).2.1 ⟨-1,(comeT n o.bytes).1,origin,(comeT n o.bytes).2.2.1⟩ (comeT n o.bytes).2.2.2,[])
 else if o.kind=4 then (comeM m o.domain ⟨-2,0,origin,o.frame⟩ 0,[])
 else (De m o.error,[])
def goesL(n:Net)(m:MacM)(origin:Int):List OutM->MacM×List SeenM
 |[]=>(m,[])
 |o::l=>((goesL n (goesM n m o origin).1 origin l).1,(goesM n m o origin).2++(goesL n (goesM n m o origin).1 origin l).2)
def Kv(n:Net)(up:List Bool):List Bool:=if okB n up=true then fX n up else []
def Wc(n:Net)(m:MacM)(dom:Int)(q:QueuedM):List EntryM×List OutM×Int:=bridgeT n (Kv n m.up) (tableL m dom) dom q m.now
def O2(m:MacM)(dom:Int)(r:List EntryM×List OutM×Int):MacM :=
 if r.2.2=2 then De m 2 else if r.2.2≠0 then De (Ez m dom r.1) r.2.2 else Ez m dom r.1
def pickT(n:Net)(m:MacM)(dom at_:Int):MacM×List SeenM :=
 if (takeM m dom at_).2.2=false then ((takeM m dom at_).1,[])
 else goesL n (O2 (takeM m dom at_).1 dom (Wc n (takeM m dom at_).1 dom (takeM m dom at_).2.1)) (takeM m dom at_).2.1.origin (Wc n (takeM m dom at_).1 dom (takeM m dom at_).2.1).2.1
def Yr(m:MacM):MacM :=
 let now:=min (m.now+1) 1099511627776
 ⟨m.up,m.tables.map (λt=>ageT t now),m.queues,now,m.injected,m.drops⟩
def doT(n:Net)(m:MacM)(x:StepM):MacM×List SeenM :=
 if x.kind=1 then (injectT n m x.port x.bytes,[])
 else if x.kind=2 then pickT n m x.domain x.at_
 else if x.kind=3 then ((takeM m x.domain x.at_).1,[])
 else if x.kind=4 then (Yr m,[])
 else if x.kind=5 then ((if x.up.length=n.links.length then ⟨x.up,m.tables,m.queues,m.now,m.injected,m.drops⟩ else m),[])
 else (m,[])
def newT(n:Net):MacM:=⟨List.replicate n.links.length true,List.replicate n.domains.length [],List.replicate n.domains.length [],0,0,λ_=>0⟩
def Dn(n:Net):MacM->List StepM->MacM×List SeenM
 |m,[]=>(m,[])
 |m,x::l=>((Dn n (doT n m x).1 l).1,(doT n m x).2++(Dn n (doT n m x).1 l).2)
def Cf(e:Int):Prop:=0<=e/\e<64
def DomIn(n:Net)(d:Int):Prop:=0<=d/\d.toNat<n.domains.length
def Lw{n:Net}{d:Int}(h:Ag d n.domains.length=true):DomIn n d:=by
 have:=Ch h;unfold DomIn;omega
def eM(b:List UInt8):Cf (takeF b).2:=by
 unfold takeF Cf
 repeat' split
 all_goals (dsimp only;omega)
def Aov(f:FrameM):Cf (stripT f).2.2.2:=by
 unfold stripT Cf
 repeat' split
 all_goals (dsimp only;omega)
def Adf(n:Net)(port:Int)(b:List UInt8):Cf (enterT n port b).2.2:=by
 have h1:=eM b;have h2:=Aov (takeF b).1;have h3:∀f tg v,Cf (He n port f tg v).2.2:=λf tg v=>by
  unfold He Cf
  repeat' split
  all_goals (dsimp only;omega)
 unfold enterT;split
 .unfold Cf;dsimp only;omega
 split
 .exact h1
 split
 .split
  .exact h2
  .exact h3 _ _ _
 .exact h3 _ _ _
def Aw2(n:Net)(port:Int)(b:List UInt8):Cf (linkT n port b).2.2.2:=by
 unfold linkT;split
 .unfold Cf;dsimp only;omega
 .exact Adf _ _ _
def Aq5(n:Net)(port dom:Int)(f:FrameM):Cf (leaveT n port dom f).2:=by
 unfold leaveT;split
 .unfold Cf;dsimp only;omega
 split
 .unfold Cf;dsimp only;omega
 split
 .unfold Cf;dsimp only;omega
 split
 .unfold Cf;dsimp only;omega
 split
 .show Cf (tagT f (nth n.domains dom).vlan).2;unfold tagT Cf
  repeat' split
  all_goals (dsimp only;omega)
 .unfold Cf;dsimp only;omega
def Auk(a b:Nat)(v:Int)(f:FrameM):Cf (wrapT a b v f).2:=by
 unfold wrapT Cf
 repeat' split
 all_goals (dsimp only;omega)
def Awp(n:Net)(dom peer:Int)(f:FrameM):Cf (meshT n dom peer f).2:=by
 unfold meshT;split
 .unfold Cf;dsimp only;omega
 split
 .unfold Cf;dsimp only;omega
 .exact Auk _ _ _ _
def nM(b:List UInt8):Cf (ipTakeT b).2:=by
 unfold ipTakeT Cf
 repeat' split
 all_goals (dsimp only;omega)
def Ahr(b:List UInt8):Cf (udpTakeT b).2.2.2:=by
 unfold udpTakeT Cf
 repeat' split
 all_goals (dsimp only;omega)
def Ays(b:List UInt8):Cf (vniT b).2.2:=by
 unfold vniT Cf
 repeat' split
 all_goals (dsimp only;omega)
def Aql(b:List UInt8):Cf (outerT b).2:=by
 unfold outerT;split
 .exact eM _
 split
 .unfold Cf;dsimp only;omega
 split
 .exact nM _
 .unfold Cf;dsimp only;split<;>omega
def Ark(b:List UInt8):Cf (Mx b).2.2:=by
 unfold Mx;split
 .exact Ahr _
 split
 .unfold Cf;dsimp only;omega
 split
 .exact Ays _
 split
 .exact eM _
 split
 .unfold Cf;dsimp only;omega
 .unfold Cf;dsimp only;omega
def Akb(b:List UInt8):Cf (Cn b).2.2.2.2:=by
 unfold Cn;split
 .exact Aql _
 split
 .exact Ark _
 .unfold Cf;dsimp only;omega
def Ax0(n:Net)(b:List UInt8):Cf (comeT n b).2.2.2:=by
 unfold comeT;split
 .unfold Cf;dsimp only;omega
 split
 .exact Akb _
 split
 .unfold Cf;dsimp only;omega
 split
 .unfold Cf;dsimp only;omega
 .unfold Cf;dsimp only;omega
def A14(n:Net)(irb:Int)(f:FrameM):Cf (hopT n irb f).2.2:=by
 unfold hopT;split
 .unfold Cf;dsimp only;omega
 split
 .unfold Cf;dsimp only;omega
 split
 .exact nM _
 split
 .unfold Cf;dsimp only;omega
 split
 .unfold Cf;dsimp only;omega
 split
 .unfold Cf;dsimp only;omega
 .unfold Cf;dsimp only;omega
def An0(n:Net)(fw:List Bool)(t:List EntryM)(dom:Int)(q:QueuedM)(now:Int):Cf (bridgeT n fw t dom q now).2.2:=by
 unfold bridgeT;split
 .unfold Cf;dsimp only;omega
 split
 .split
  .exact A14 _ _ _
  .unfold Cf;dsimp only;omega
 .unfold Cf;dsimp only;omega
def At4{n:Net}{dev v:Int}(h:Es n dev v=true):DomIn n (C8 n dev v):=by
 have h1:0<=C8 n dev v:=by simpa [Es] using h
 have h2:C8 n dev v<n.domains.length:=Iw _ _;exact⟨h1,by omega⟩
def Ayt{n:Net}(hb:Ac n=true){port:Int}(hp:Ag port n.ports.length=true){tg:Bool}{er:Int}(h:(vlanT (nth n.ports port) tg er).2=true):DomIn n (C8 n (nth n.ports port).dev (vlanT (nth n.ports port) tg er).1):=by
 have hk:=Ch hp;have cx:port.toNat<n.ports.length:=by omega
 simp only[Ac,zG]at hb;have uy:=allB_iff.1 hb.1.1.1.1.1.2 _ cx;rw[Ae cx]at h|-;generalize n.ports[port.toNat]=p at *;simp only[Kj,zG]at uy;obtain ⟨⟨⟨⟨⟨⟨⟨⟨g1,g2⟩,g3⟩,g4⟩,g5⟩,g6⟩,g7⟩,g8⟩,g9⟩:=uy;unfold vlanT at h|-;split
 .rw[zE (by assumption)]at h;have h1:p.native≠0:=kS h;have h2:0<=p.native:=kS g2;refine At4 ?_;have h3:decide (0<p.native)=true:=by simp;omega
  rw[h3,yG]at g8;simpa using g8
 .rw[zD (by assumption)]at h;split
  .rename_i h4;have h5:er∈p.tagged:=inB_mem.1 h4;obtain ⟨i,hi,rfl⟩:=yY.1 h5;exact At4 (allB_iff.1 g7 i hi)
  .rw[zD (by assumption)]at h;cases h
def aB{n:Net}{port:Int}{b:List UInt8}(h:(enterT n port b).2.2=0):DomIn n (enterT n port b).1:=by
 unfold enterT at h|-;split
 .rw[zE (by assumption)]at h;cases h
 rename_i hc;rw[zD hc]at h;have hp:Ag port n.ports.length=true:=by cases hx:Ag port n.ports.length;exact yA (.inl hx) hc;rfl
 have hb:Ac n=true:=by cases hx:Ac n;exact yA (.inr hx) hc;rfl
 have key:∀f tg v,(He n port f tg v).2.2=0->DomIn n (He n port f tg v).1:=λf tg v h=>by
  unfold He at h|-;split
  .rw[zE (by assumption)]at h;cases h
  rw[zD (by assumption)]at h;split
  .rw[zE (by assumption)]at h;cases h
  rename_i h5;show DomIn n (B5 n _ _);rw[B5,zE hb];exact Ayt hb hp (kS h5)
 split
 .rename_i h2;rw[zE h2]at h;exact yA h h2
 rename_i h2;rw[zD h2]at h;split
 .rename_i h3;rw[zE h3]at h;split
  .rename_i h4;rw[zE h4]at h;exact yA h h4
  .rename_i h4;rw[zD h4]at h;exact key _ _ _ h
 .rename_i h3;rw[zD h3]at h;exact key _ _ _ h
def Af9{n:Net}{port:Int}{b:List UInt8}(h:(linkT n port b).2.2.2=0):DomIn n (linkT n port b).2.1:=by
 unfold linkT at h|-;split
 .rw[zE (by assumption)]at h;cases h
 .rename_i h2;rw[zD h2]at h;exact aB h
def Ale{n:Net}(hb:Ac n=true){dom:Nat}(hd:dom<n.domains.length){k:Int}(hk:k∈n.domains[dom].peers):DomIn n k:=by
 simp only[Ac,zG]at hb;have:=allB_iff.1 hb.1.1.1.1.1.1.2 _ hd;obtain ⟨i,hi,rfl⟩:=yY.1 hk;have h2:=allB_iff.1 this i hi;simp only[S4,zG]at h2;exact Lw h2.1.1.1.1.1.1.1.1.1
def A2o{n:Net}(hb:Ac n=true){src dst:Nat}{vni:Int}(h:¬(endsT n src dst vni).1<0):DomIn n (endsT n src dst vni).1/\DomIn n (endsT n src dst vni).2:=by
 unfold endsT at h|-;dsimp only at h|-;split
 .rw[zE (by assumption)]at h;exact yA j_ h
 rename_i h1;rw[zD h1]at h;split
 .rw[zE (by assumption)]at h;exact yA j_ h
 rename_i h2;have hd:=Iw (λd:Domain=>decide (d.dev=Bs (λd:Device=>decide (d.vtep=(dst:Int))) n.devices)&&decide (d.vni=vni)) n.domains;generalize Bs (λd:Domain=>decide (d.dev=Bs (λd:Device=>decide (d.vtep=(dst:Int))) n.devices)&&decide (d.vni=vni)) n.domains=dom at *;have jf:dom.toNat<n.domains.length:=by omega
 have hi:=Iw (λk:Int=>decide (C9 n k=(src:Int))) (nth n.domains dom).peers;generalize Bs (λk:Int=>decide (C9 n k=(src:Int))) (nth n.domains dom).peers=i at *;rw[Ae jf]at hi|-;have j5:i.toNat<(n.domains[dom.toNat]).peers.length:=by omega
 refine⟨?_,⟨by dsimp only;omega,jf⟩⟩;show DomIn n (nth (n.domains[dom.toNat]).peers i);rw[Ae j5];exact Ale hb jf (zI j5)
def lB{n:Net}{b:List UInt8}(h:(comeT n b).2.2.2=0):DomIn n (comeT n b).1/\DomIn n (comeT n b).2.1:=by
 unfold comeT at h|-;split
 .rw[zE (by assumption)]at h;cases h
 rename_i hb;rw[zD hb]at h;split
 .rename_i h2;rw[zE h2]at h;exact yA h h2
 rename_i h2;rw[zD h2]at h;split
 .rw[zE (by assumption)]at h;cases h
 rename_i h3;rw[zD h3]at h;split
 .rw[zE (by assumption)]at h;cases h
 exact A2o (kS hb) h3
def Am0{n:Net}{irb:Int}{f:FrameM}(a6:∀(d:Int),(lookT n irb d).2=true->0<=(lookT n irb d).1/\(lookT n irb d).1.toNat<n.irbs.length)(h:(hopT n irb f).2.2=0):DomIn n (hopT n irb f).1:=by
 unfold hopT at h|-;split
 .rw[zE (by assumption)]at h;cases h
 rename_i h1;rw[zD h1]at h;split
 .rw[zE (by assumption)]at h;cases h
 rename_i h2;rw[zD h2]at h;split
 .rename_i h3;rw[zE h3]at h;exact yA h h3
 rename_i h3;rw[zD h3]at h;split
 .rw[zE (by assumption)]at h;cases h
 rename_i h4;rw[zD h4]at h;split
 .rw[zE (by assumption)]at h;cases h
 rename_i h5;rw[zD h5]at h;split
 .rw[zE (by assumption)]at h;cases h
 have hl:=a6 ((ipTakeT f.body).1.dst:Int) (kS h5);have hb:Ac n=true:=by cases hx:Ac n;exact yA (.inr hx) h1;rfl
 have:=(Dl hb hl.2).1;show DomIn n (nth n.irbs _).domain;rw[Ae hl.2];exact this
end Go.Sy.Zaa
