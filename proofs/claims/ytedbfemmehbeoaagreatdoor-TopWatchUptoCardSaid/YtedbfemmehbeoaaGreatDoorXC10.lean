/- Parts of a proof. -/
import Derived.Test.YtedbfemmehbeoaaGreatDoorXC7
import Derived.Test.YtedbfemmehbeoaaGreatDoorXC8
import Derived.Test.YtedbfemmehbeoaaGreatDoorXC9
set_option maxHeartbeats 4000000
set_option linter.all false
namespace Go.Sy.Zaa
open Go.Proofs Go.Proofs.Tryz
section
def Lj(l:List UInt8):Nat:=l.foldl (λn c=>n*256+c.toNat) 0
def Ams(l:List UInt8)(c:UInt8):Lj (l++[c])=Lj l*256+c.toNat:=by
 rw[Lj,xS];rfl
def W5:∀(k:Nat) (l:List UInt8),l.length=k->Lj l<256^k
 |0,l,h=>by rw[wU.1 h];decide
 |k+1,l,h=>by
  have g:l≠[]:=λe=>by rw[e]at h;cases h
  have e:=uS g;have i:=W5 k l.dropLast (by rw[tG];omega);have j:=(l.getLast g).toNat_lt;rw[<-e,Ams,tV];omega
def A4c(l:List UInt8){j:Nat}(h:j<l.length):Lj (l.take (j+1))=Lj (l.take j)*256+l[j].toNat:=by
 rw[zZ h,Ams]
def Bd8(m:Nat)(c:UInt8)(h:m<1099511627776):bits .or .u64 (IntKind.u64.wrap ((m:Int)*2^min (Int.toNat 8) IntKind.u64.bits)) (IntKind.u64.wrap (c.toNat:Int))=((m*256+c.toNat:Nat):Int):=by
 have l:=c.toNat_lt;have g:IntKind.u64.wrap ((m:Int)*2^min (Int.toNat 8) IntKind.u64.bits)=((m*256:Nat):Int):=by
  show IntKind.u64.wrap ((m:Int)*256)=_;rw[IntKind.wrap_u64];omega
 have j:IntKind.u64.wrap (c.toNat:Int)=(c.toNat:Int):=by rw[IntKind.wrap_u64];omega
 rw[g,j,bits_or_u64_nat _ _ j_ j_];congr 1;have h:=xX (i:=8) (b:=c.toNat) j_ m;rw[vJ m 256];exact h.symm
def J5(m:Nat):Bool:=decide (m/1099511627776%2=1)
def Bf8(m k:Nat):m&&&2^k=if m/2^k%2=1 then 2^k else 0:=by
 apply Nat.eq_of_testBit_eq;intro i;rw[Nat.testBit_and,Nat.testBit_two_pow];by_cases hi:k=i
 .subst hi;rw[zL rfl,uP,Nat.testBit_eq_decide_div_mod_eq];split
  .rename_i h;rw[zL h,Nat.testBit_two_pow_self]
  .rename_i h;rw[zJ h,Nat.zero_testBit]
 .rw[zJ hi,wR];split
  .rw[Nat.testBit_two_pow,zJ hi]
  .rw[Nat.zero_testBit]
def An5(m:Nat)(h:m<18446744073709551616):(bits .and .u64 (m:Int) 1099511627776 != 0)=J5 m:=by
 have e:=bits_and_u64_nat m 1099511627776 h qq;rw[show ((1099511627776:Nat):Int)=1099511627776 from rfl]at e;rw[e,show (1099511627776:Nat)=2^40 from rfl,Bf8,J5,show (1099511627776:Nat)=2^40 from rfl];split
 .rename_i h;rw[zL h];rfl
 .rename_i h;rw[zJ h];rfl
structure Bc where
 an:Nat
 cd:Int
 seen:Int
deriving DecidableEq
def Bv(e:Bc):SV:=.agg [B1 e.an,Aa e.cd,Aa e.seen]
def T0(m:Nat):Bool:=decide (m<=281474976710655)&&!J5 m
def Q1(now:Int):Bool:=decide (0<=now)&&decide (now<=1099511627776)
def Mp(t:List Bc)(m:Nat):Int:=Bt (λe=>decide (e.an=m)) t
def Ae2(t:List Bc)(i:Nat)(e:Bc):Bool:=T0 e.an&&Q1 e.seen&&decide (Mp t e.an=i)
def Q3(t:List Bc):Bool:=decide (t.length<=8)&&Lu (Ae2 t) t
def Ks(t:List Bc)(m:Nat):Int×Bool:=if Mp t m<0 then (0,false) else (((t[(Mp t m).toNat]?).map (·.cd)).getD 0,true)
def O8(t:List Bc):Nat->Nat
 |0=>0
 |j+1=>if ((t[j]?).map (·.seen)).getD 0<((t[O8 t j]?).map (·.seen)).getD 0 then j else O8 t j
def dC(t:List Bc)(m:Nat)(g now:Int):List Bc :=
 if Q3 t=false\/T0 m=false\/Q1 now=false then t
 else if 0<=Mp t m then t.set (Mp t m).toNat ⟨m,g,now⟩
 else (if t.length=8 then t.eraseIdx (O8 t t.length) else t)++[⟨m,g,now⟩]
def Ak7(t:List Bc)(now:Int):List Bc:=if Q3 t=false\/Q1 now=false then t else t.filter λe=>decide (now-4<=e.seen)
def V9:Bg:=⟨0,0,0,[]⟩
structure Cf(f:Bg):Prop where
 dst:f.dst<281474976710656
 src:f.src<281474976710656
 au:f.au<=65535
 body:f.body.length<=1504
def Dw(b:List UInt8):Bg×Int :=
 if b.length<14 then (V9,10) else if 1518<b.length then (V9,14)
 else (⟨Lj (b.take 6),Lj ((b.drop 6).take 6),Lj ((b.drop 12).take 2),b.drop 14⟩,0)
def Vc(f:Bg):List UInt8:=frame f.dst f.src f.au f.body
def H1(f:Bg):Bg×Int×Int×Int :=
 if f.au≠33024 then (V9,0,0,11) else if f.body.length<4 then (V9,0,0,10)
 else if 4094<Lj (f.body.take 2)%4096\/Lj ((f.body.drop 2).take 2)=33024 then (V9,0,0,15)
 else (⟨f.dst,f.src,Lj ((f.body.drop 2).take 2),f.body.drop 4⟩,(Lj (f.body.take 2)%4096:Nat),(Lj (f.body.take 2)/4096:Nat),0)
def Om(f:Bg)(v:Int):Bg×Int :=
 if f.au=33024 then (V9,15) else if 1500<f.body.length then (V9,14)
 else (⟨f.dst,f.src,33024,[UInt8.ofNat (v.toNat/256),UInt8.ofNat v.toNat,UInt8.ofNat (f.au/256),UInt8.ofNat f.au]++f.body⟩,0)
def Kx(p:D4)(tagged:Bool)(g:Int):Int×Bool :=
 if tagged=false\/g=0 then (p.native,decide (p.native≠0)) else if Li p.u g=true then (g,true) else (0,false)
def Ld(n:Ai)(port:Int)(f:Bg)(tagged:Bool)(g:Int):Int×Bg×Int :=
 if J5 f.src=true then (0,V9,11)
 else if (Kx (Af n.g port) tagged g).2=false then (0,V9,16)
 else (D2 n (Af n.g port).q (Kx (Af n.g port) tagged g).1,f,0)
def Ev(n:Ai)(port:Int)(b:List UInt8):Int×Bg×Int :=
 if Am port n.g.length=false\/Ac n=false then (0,V9,2)
 else if (Dw b).2≠0 then (0,V9,(Dw b).2)
 else if (Dw b).1.au=33024 then
  (if (H1 (Dw b).1).2.2.2≠0 then (0,V9,(H1 (Dw b).1).2.2.2) else Ld n port (H1 (Dw b).1).1 true (H1 (Dw b).1).2.1)
 else Ld n port (Dw b).1 false 0
def Hi(n:Ai)(port dom:Int)(f:Bg):List UInt8×Int :=
 if Am port n.g.length=false\/Am dom n.c.length=false\/Ac n=false then ([],2)
 else if (Af n.g port).q≠(Af n.c dom).q\/Hk (Af n.g port) (Af n.c dom).z=false then ([],16)
 else if f.au=33024 then ([],15)
 else if (Af n.c dom).z=(Af n.g port).native then (Vc f,0)
 else if (Om f (Af n.c dom).z).2≠0 then ([],(Om f (Af n.c dom).z).2)
 else (Vc (Om f (Af n.c dom).z).1,0)
def Ir(n:Ai)(port:Int)(b:List UInt8):Int×Int×Bg×Int :=
 if Eg n port<0 then (0,0,V9,2) else (Eg n port,Ev n (Eg n port) b)
structure B0 where
 ba:Int
 peer:Int
 ad:Int
 frame:Bg
def Db(q:B0):SV:=.agg [Aa q.ba,Aa q.peer,Aa q.ad,B1 q.frame.dst,B1 q.frame.src,Aa q.frame.au,.sl 1 Ae q.frame.body]
def noQ:B0:=⟨0,0,0,V9⟩
def cN(l:List B0)(q:B0):List B0×Bool:=if 64<=l.length then (l,false) else (l++[q],true)
def Tz(l:List B0)(at_:Int):B0×List B0×Bool :=
 if at_<0\/(l.length:Int)<=at_ then (noQ,l,false) else ((l[at_.toNat]?).getD noQ,l.eraseIdx at_.toNat,true)
def eZ(n:Ai)(fw:List Bool)(p:Int):Bool:=decide ((Af n.g p).ah<0)||(fw[(Af n.g p).ah.toNat]?).getD false
def aQ(n:Ai)(fw:List Bool)(dom from_:Int):Bool :=
 Am dom n.c.length&&decide (fw.length=n.x.length)&&Ac n&&(decide (from_=-1)||decide (from_=-2)||Li (Bz n dom) from_)
def Ln(n:Ai)(fw:List Bool)(from_:Int)(l:List Int):List Int:=l.filter λp=>!(decide (p=from_)||!(eZ n fw p))
def Ot(n:Ai)(dom from_:Int):List Int:=if from_=-1 then [] else (Af n.c dom).ae
def Aam(n:Ai)(fw:List Bool)(dom from_:Int):List Int×List Int×Int :=
 if aQ n fw dom from_=false then ([],[],2) else (Ln n fw from_ (Bz n dom),Ot n dom from_,0)
def Jr(n:Ai)(dom:Int)(m:Nat):Int:=Bt (λs:I2=>decide (s.l=dom)&&decide (s.an=(m:Int))) n.ab
def Hb(n:Ai)(fw:List Bool)(t:List Bc)(dom from_:Int)(m:Nat):List Int×List Int×Int :=
 if aQ n fw dom from_=false then ([],[],2)
 else if J5 m=true then (Ln n fw from_ (Bz n dom),Ot n dom from_,0)
 else if 0<=Jr n dom m then (Ln n fw from_ [(Af n.ab (Jr n dom m)).ac],[],0)
 else if (Ks t m).2=true/\0<=(Ks t m).1/\Li (Bz n dom) (Ks t m).1=true then (Ln n fw from_ [(Ks t m).1],[],0)
 else if (Ks t m).2=true/\(Ks t m).1<0/\Li (Af n.c dom).ae (-1-(Ks t m).1)=true then ([],if from_=-1 then [] else [-1-(Ks t m).1],0)
 else (Ln n fw from_ (Bz n dom),Ot n dom from_,0)
def bAt(b:List UInt8)(i:Nat):UInt8:=b.getD i 0
def Cd(b:List UInt8)(k m:Nat):Nat:=Lj ((b.drop k).take m)
def E8(l:List Nat):List UInt8:=l.flatMap λn=>[UInt8.ofNat (n/256),UInt8.ofNat n]
def Qy(a b:Nat):Nat:=49152+(a^^^b)%16384
def Ag1(src dst:Nat)(body:List UInt8):List UInt8:=E8 [src,dst,8+body.length,0]++body
def B9(b:List UInt8):Int×Int×List UInt8×Int :=
 if b.length<8 then (0,0,[],10) else if Cd b 4 2<8 then (0,0,[],11) else if b.length<Cd b 4 2 then (0,0,[],10)
 else if Cd b 6 2≠0 then (0,0,[],12) else (Cd b 0 2,Cd b 2 2,(b.take (Cd b 4 2)).drop 8,0)
structure Dv where
 bj:Nat
 id:Nat
 bg:Nat
 aw:Nat
 src:Nat
 dst:Nat
 body:List UInt8
def noP:Dv:=⟨0,0,0,0,0,0,[]⟩
def Ab5(p:Dv):SV:=.agg [Aa p.bj,Aa p.id,Aa p.bg,Aa p.aw,Bo p.src,Bo p.dst,.sl 1 Ae p.body]
structure Mx(p:Dv):Prop where
 bj:p.bj<=255
 id:p.id<=65535
 bg:p.bg<=255
 aw:p.aw<=255
 src:p.src<4294967296
 dst:p.dst<4294967296
def Kr(p:Dv)(s:Nat):List UInt8:=E8 [17664+p.bj,20+p.body.length,p.id,0,p.bg*256+p.aw,s,p.src/65536,p.src,p.dst/65536,p.dst]
def Mm(p:Dv):Nat:=Amz (Kr p 0)
def Oy(p:Dv):List UInt8:=Kr p (Mm p)++p.body
def Sd(p:Dv):List UInt8×Int:=if 1480<p.body.length then ([],14) else (Oy p,0)
def Cn(b:List UInt8):Dv×Int :=
 if b.length<20 then (noP,10) else if bAt b 0≠69\/Cd b 2 2<20 then (noP,11) else if b.length<Cd b 2 2 then (noP,10)
 else if Cd b 6 2≠0 then (noP,11) else if Ls (Wv (b.take 20) 10)≠65535 then (noP,12)
 else (⟨(bAt b 1).toNat,Cd b 4 2,(bAt b 8).toNat,(bAt b 9).toNat,Cd b 12 4,Cd b 16 4,(b.take (Cd b 2 2)).drop 20⟩,0)
def Sg(v:Nat):List UInt8:=[8,0,0,0,UInt8.ofNat (v/65536),UInt8.ofNat (v/256),UInt8.ofNat v,0]
def bI(v:Int):Bool:=decide (v<1)||decide (16777215<v)
def Qb(b:List UInt8):Int×List UInt8×Int :=
 if b.length<8 then (0,[],10) else if Cd b 4 3=0\/b.take 8≠Sg (Cd b 4 3) then (0,[],11) else (Cd b 4 3,b.drop 8,0)
def Sw(from_ g:Nat)(v:Nat)(f:Bg):Dv:=⟨0,0,64,17,from_,g,Ag1 (Qy f.dst f.src) 4789 (Sg v++Vc f)⟩
def Wy(from_ g:Nat)(v:Int)(f:Bg):List UInt8×Int :=
 if f.au=33024 then ([],15) else if bI v=true then ([],17) else if 1450<f.body.length then ([],14)
 else (frame (I4 g) (I4 from_) 2048 (Oy (Sw from_ g v.toNat f)),0)
def Eu(b:List UInt8):Dv×Int :=
 if (Dw b).2≠0 then (noP,(Dw b).2) else if (Dw b).1.au≠2048 then (noP,11)
 else if (Cn (Dw b).1.body).2≠0 then (noP,(Cn (Dw b).1.body).2)
 else ((Cn (Dw b).1.body).1,if (Cn (Dw b).1.body).1.aw≠17 then 11 else 0)
def Us(b:List UInt8):Int×Bg×Int :=
 if (B9 b).2.2.2≠0 then (0,V9,(B9 b).2.2.2) else if (B9 b).2.1≠4789 then (0,V9,11)
 else if (Qb (B9 b).2.2.1).2.2≠0 then (0,V9,(Qb (B9 b).2.2.1).2.2)
 else if (Dw (Qb (B9 b).2.2.1).2.1).2≠0 then (0,V9,(Dw (Qb (B9 b).2.2.1).2.1).2)
 else if (Dw (Qb (B9 b).2.2.1).2.1).1.au=33024 then (0,V9,15)
 else ((Qb (B9 b).2.2.1).1,(Dw (Qb (B9 b).2.2.1).2.1).1,0)
def Do(b:List UInt8):Nat×Nat×Int×Bg×Int :=
 if (Eu b).2≠0 then (0,0,0,V9,(Eu b).2) else if (Us (Eu b).1.body).2.2≠0 then (0,0,0,V9,(Us (Eu b).1.body).2.2)
 else ((Eu b).1.src,(Eu b).1.dst,(Us (Eu b).1.body).1,(Us (Eu b).1.body).2.1,0)
structure Ai.Num(n:Ai):Prop where
 aq:∀d∈n.j,0<=d.aq/\d.aq<4294967296
 addr:∀i∈n.r,0<=i.addr/\i.addr<4294967296
def Ei(n:Ai)(dom:Int):Int:=(Af n.j (Af n.c dom).q).aq
def Mc(n:Ai)(dom g:Int)(f:Bg):List UInt8×Int :=
 if Am g n.c.length=false\/Am dom n.c.length=false\/Ac n=false then ([],2)
 else if Li (Af n.c dom).ae g=false then ([],17)
 else Wy (Ei n dom).toNat (Ei n g).toNat (Af n.c dom).ao f
def Xn(n:Ai)(src dst:Nat)(g:Int):Int×Int :=
 let dev:=Bt (λd:Device=>decide (d.aq=(dst:Int))) n.j
 let dom:=Bt (λd:A0=>decide (d.q=dev)&&decide (d.ao=g)) n.c
 if dev<0\/dom<0 then (-1,-1)
 else
  let i:=Bt (λk:Int=>decide (Ei n k=(src:Int))) (Af n.c dom).ae
  if i<0 then (-1,-1) else (Af (Af n.c dom).ae i,dom)
def Jh(n:Ai)(b:List UInt8):Int×Int×Bg×Int :=
 if Ac n=false then (0,0,V9,2)
 else if (Do b).2.2.2.2≠0 then (0,0,V9,(Do b).2.2.2.2)
 else if (Xn n (Do b).1 (Do b).2.1 (Do b).2.2.1).1<0 then (0,0,V9,17)
 else if J5 (Do b).2.2.2.1.src=true then (0,0,V9,11)
 else ((Xn n (Do b).1 (Do b).2.1 (Do b).2.2.1).1,(Xn n (Do b).1 (Do b).2.1 (Do b).2.2.1).2,(Do b).2.2.2.1,0)
def Ie(n:Ai)(dom:Int)(m:Nat):Int×Bool :=
 if Am dom n.c.length=false\/Ac n=false then (0,false)
 else if (Af n.c dom).ar<0\/I4 (Af n.r (Af n.c dom).ar).addr≠m then (0,false)
 else ((Af n.c dom).ar,true)
def Avq(p:Dv):Dv:=⟨p.bj,p.id,p.bg-1,p.aw,p.src,p.dst,p.body⟩
def Ww(n:Ai)(irb:Int)(f:Bg):Int×Bg×Int :=
 if Am irb n.r.length=false\/Ac n=false then (0,V9,2)
 else if f.au≠2048 then (0,V9,11)
 else if (Cn f.body).2≠0 then (0,V9,(Cn f.body).2)
 else if (Cn f.body).1.bg<=1 then (0,V9,13)
 else if (Cu n irb (Cn f.body).1.dst).2=false then (0,V9,31)
 else if 1480<(Cn f.body).1.body.length then (0,V9,14)
 else ((Af n.r (Cu n irb (Cn f.body).1.dst).1).l,
  ⟨I4 (Cn f.body).1.dst,I4 (Af n.r (Cu n irb (Cn f.body).1.dst).1).addr,2048,Oy (Avq (Cn f.body).1)⟩,0)
structure My where
 kind:Int
 ac:Int
 l:Int
 bytes:List UInt8
 frame:Bg
 error:Int
def Lo(o:My):SV:=.agg [Aa o.kind,Aa o.ac,Aa o.l,.sl 1 Ae o.bytes,B1 o.frame.dst,B1 o.frame.src,Aa o.frame.au,.sl 1 Ae o.frame.body,Aa o.error]
def Sb(t:List Bc)(q:B0)(now:Int):List Bc :=
 if q.ba=-2 then t else dC t q.frame.src (if q.ba=-1 then -1-q.peer else q.ba) now
def Xh(o:My)(r:List UInt8×Int):My:=if r.2≠0 then ⟨5,o.ac,o.l,[],o.frame,r.2⟩ else ⟨o.kind,o.ac,o.l,r.1,o.frame,o.error⟩
def Ab7(n:Ai)(dom:Int)(f:Bg)(p:Int):My:=Xh ⟨if (Af n.g p).ah<0 then 1 else 2,p,0,[],V9,0⟩ (Hi n p dom f)
def Aeq(n:Ai)(dom:Int)(f:Bg)(p:Int):My:=Xh ⟨3,0,p,[],V9,0⟩ (Mc n dom p f)
def Hz(n:Ai)(fw:List Bool)(t:List Bc)(dom:Int)(q:B0)(now:Int):List Bc×List My×Int :=
 if aQ n fw dom q.ba=false\/Q3 t=false then ([],[],2)
 else if (Ie n dom q.frame.dst).2=true then
  (if (Ww n (Ie n dom q.frame.dst).1 q.frame).2.2≠0 then (Sb t q now,[],(Ww n (Ie n dom q.frame.dst).1 q.frame).2.2)
   else (Sb t q now,[⟨4,0,(Ww n (Ie n dom q.frame.dst).1 q.frame).1,[],(Ww n (Ie n dom q.frame.dst).1 q.frame).2.1,0⟩],0))
 else (Sb t q now,(Hb n fw (Sb t q now) dom q.ba q.frame.dst).1.map (Ab7 n dom q.frame)++(Hb n fw (Sb t q now) dom q.ba q.frame.dst).2.1.map (Aeq n dom q.frame),0)
attribute [local irreducible]G DR
set_option maxRecDepth 100000
def aJ:=iJ Ae F309 ntmps309
def cut6(b:List UInt8)(k j:Nat)(g:j<6)(h:k+6<=b.length):Lj (((b.drop k).take 6).take (j+1))=Lj (((b.drop k).take 6).take j)*256+(b[k+j]'j_).toNat:=by
 rw[A4c _ (by rw[zY,yP];omega)];congr 2;rw[wN,vS]
def Aur(b:List UInt8)(k:Nat)(h:k+6<=b.length)(R:b.length<100000):Sp 206 [.sl 1 Ae b,Aa k] (.tup [B1 (Lj ((b.drop k).take 6)),Ab true]):=cT F206 ntmps206 λF hF=>by
 ((conv=>whnf);refine aF ?_;refine rg ?_;conv=>whnf)
 refine iW ?_
 (refine⟨λh=>False.elim (by simp at h;omega),λ_=>?_⟩;refine rg ?_;conv=>whnf)
 refine Bl 6 (λj=>[(0,.sl 1 Ae b),(1,Aa k),(6,B1 (Lj (((b.drop k).take 6).take j))),(17,Aa j)]) (λ_=>[]) [] kU ?_;intro j hj;have l:=W5 _ (((b.drop k).take 6).take j) rfl;refine oO ?_;constructor<;>intro o
 .have g:j<6:=by have:=zO o;omega
  have p:=cut6 b k j g h;have I:(((b.drop k).take 6).take j).length=j:=by rw[zY,zY,yP];omega
  rw[I]at l;have J:Lj (((b.drop k).take 6).take j)<1099511627776:=xB l (by
   have:(256:Nat) ^ j<=256 ^ 5:=vC qq j_;exact this)
  have r:((k:Int)+(j:Int)).toNat<b.length:=by omega
  obtain ⟨c,t⟩:=kE (b[((k:Int)+(j:Int)).toNat]'r);have P:b[k+j]'j_=c:=by rw[<-t];congr 1
  rw[P]at p;have i:=Bd8 _ c J;refine oO ?_;refine⟨by decide,?_⟩
  conv=>whnf
  refine iW ?_;refine⟨q_,by omega,r,?_⟩;rw[t]
  conv=>whnf
  refine iW ?_;exact A9 [] g ⟨⟨q_,q_,q_,q_,zH (λz:Int=>SV.val (.int .u64 z)) (i.trans (zH Int.ofNat p.symm)).symm,q_,q_,q_,z_⟩,z_,q_,q_⟩
 .have g:j=6:=by have:=zQ o;omega
  subst g;rw[List.take_take,Nat.min_self];exact gM
def Amt(a b:UInt8):Lj [a,b]=a.toNat*256+b.toNat:=by simp[Lj]
def Abh{b:List UInt8}{k:Nat}(h:k+2<=b.length):(b.drop k).take 2=[b[k]'j_,b[k+1]'j_]:=by
 rw[yK (by omega:k<b.length),yK (by omega:k+1<b.length)];rfl
def aD(b:List UInt8)(l:b.length<100000):Sp 121 [.sl 1 Ae b] (.tup [Ek (Dw b).1,Aa (Dw b).2]):=cT F121 ntmps121 λF hF=>by
 have g:=Dw.eq_1 b;generalize Dw b=p at *
 conv=>whnf
 constructor<;>intro h
 .rw[zE (qA h)]at g;subst g;refine oO ?_;exact An 2 [B1 0,B1 0,Aa 0,.sl 1 Ae []] q_ vL dN
 rw[zD (qB h)]at g;have r:14<=b.length:=qB h;refine gI ?_ ?_<;>intro h
 .rw[zE (qA h)]at g;subst g;refine oO ?_;exact An 2 [B1 0,B1 0,Aa 0,.sl 1 Ae []] q_ vL dN
 rw[zD (qB h)]at g;have t:=Aur b 0 j_ l;have I:=Aur b 6 j_ l;rw[Abh j_,Amt]at g;have hp:=M8 (b[12]'j_) (b[13]'j_);have J:(b.drop 14).length=b.length-14:=yP;have o:((b.length:Int)-14)=((b.length-14:Nat):Int):=by omega
 have P:(b.drop 14).take (List.replicate (b.length-14) (0:UInt8)).length++(List.replicate (b.length-14) (0:UInt8)).drop (b.drop 14).length=b.drop 14:=by
  have R:(List.replicate (b.length-14) (0:UInt8)).drop (b.length-14)=[]:=vP qx;rw[wS,J,R,yV];exact xI j_
 have yb:(b.take b.length).drop 14=b.drop 14:=by rw[yM]
 have i:(12:Int).toNat<b.length:=by show 12<_;omega
 have j:(13:Int).toNat<b.length:=by show 13<_;omega
 refine oO ?_;refine gF t F206 ?_;refine gF I F206 ?_;refine iW ?_;refine Al (Cw Γ.toTy (d:=32) (n:=b.length-14) Ae 0 q_ q_ q_ q_ q_ q_ (zH (λz=>SV.val (.int .i64 z)) o) (zH (λz=>SV.val (.int .i64 z)) o) j_ j_ q_ q_ q_) q_ q_ (oO ?_);refine Al (Hx (lo:=14) (hi:=b.length) Γ.toTy q_ q_ q_ q_ (.inr ⟨_,_,q_,q_⟩) (.inl ⟨q_,q_⟩) j_ (yG _)) q_ q_ ?_;rw[yb];refine oO ?_;refine Al (fO Γ.toTy q_ q_ q_ q_ q_ .sl) q_ q_ ?_;rw[P];refine Ao 32 q_ (oO ?_);refine⟨q_,by decide,i,?_⟩
 conv=>whnf
 refine⟨by decide,?_⟩
 conv=>whnf
 refine⟨q_,by decide,j,?_⟩
 conv=>whnf
 refine kW ?_;refine Av q_ (.cons (.cell q_ q_ q_ q_) As) ?_ q_;rw[g];show SV.tup [.agg [_,_,Aa ((b[12].toNat*256+b[13].toNat:Nat):Int),_],_]=_;rw[<-hp];rfl
def Wb(m:Nat)(h:m<18446744073709551616):Sp 234 [B1 m] (Ab (J5 m)):=cT F234 ntmps234 λF g=>by
 have e:=An5 m h;refine fW ?_;refine Av q_ As ?_ q_;exact zH Ab e.symm
def fA(f:Bg):Sp 207 [Ek f] (Ab (decide (f.au=33024))):=cT F207 ntmps207 λF g=>by
 conv=>whnf
 refine Av q_ As ?_ q_;refine zH Ab ?_;rw[xY];simp;omega
def aE(p:D4)(j:Bool)(i:Int)(l:At p.u):Sp 235 [Bm p,Ab j,Aa i] (.tup [Aa (Kx p j i).1,Ab (Kx p j i).2]):=cT F235 ntmps235 λF t=>by
 have g:=Kx.eq_1 p j i;generalize Kx p j i=o at *;have q:=Ij p.u i l;have r:decide (p.native≠0)=(p.native != 0):=by rw[xY];simp
 rw[r]at g;cases j
 .rw[zE (.inl rfl)]at g;subst g
  ((conv=>whnf);refine aT ?_;refine rg ?_;conv=>whnf)
  refine kW ?_;exact dN
 ((conv=>whnf);refine aF ?_;refine rg ?_;conv=>whnf)
 constructor<;>intro h
 .rw[zE (.inr (kS h))]at g;subst g;refine oO ?_;refine kW ?_;exact dN
 rw[zD (kS h)]at g;refine oO ?_;refine c0 q F114 ?_;cases hi:Li p.u i
 .rw[zD (by simp[hi])]at g;subst g;refine oF ?_;exact dN
 .rw[zE hi]at g;subst g;refine oT ?_;exact dN
def Bdd(n:Nat)(h:n<9223372036854775808):bits .and .i64 (n:Int) 4095=((n%4096:Nat):Int):=by
 have:=Tk n 4095 h qq;rw[show ((4095:Nat):Int)=4095 from rfl]at this;rw[this];have g:=uN n 12;rw[show 2^12-1=4095 from rfl,show 2^12=4096 from rfl]at g;rw[g]
def Bdb{b:List UInt8}(h:4<=b.length):b.take 2=[b[0]'j_,b[1]'j_]/\(b.drop 2).take 2=[b[2]'j_,b[3]'j_]:=by
 have g:=Abh (b:=b) (k:=0) j_;have i:=Abh (b:=b) (k:=2) j_;exact⟨g,i⟩
abbrev zF:List SV:=[B1 0,B1 0,Aa 0,.sl 1 Ae []]
def A4n(f:Bg)(hb:f.body.length<100000):Sp 233 [Ek f] (.tup [Ek (H1 f).1,Aa (H1 f).2.1,Aa (H1 f).2.2.1,Aa (H1 f).2.2.2]):=cT F233 ntmps233 λF hF=>by
 have g:=H1.eq_1 f;generalize H1 f=a0 at *;have l:=fA f;obtain ⟨d,s,t,b⟩:=f;dsimp only at g hb l
 conv=>whnf
 refine c0 l F207 ?_;by_cases i:t=33024;rotate_left
 .rw[zE i]at g;subst g;rw[zJ i];refine oT ?_;exact An 2 zF q_ vL dN
 rw[zD (kS i)]at g;rw[zL i];refine oF ?_;constructor<;>intro h
 .rw[zE (by have:=zO h;dsimp only at this;omega)]at g;subst g;refine oO ?_;exact An 2 zF q_ vL dN
 have j:4<=b.length:=by have:=zQ h;dsimp only at this;omega
 rw[zD j_,(Bdb j).1,(Bdb j).2,Amt,Amt]at g;have o:=aJ (b.drop 4) (by rw[yP];omega);have p:(b.take b.length).drop 4=b.drop 4:=by rw[yM]
 rw[<-p]at o;have r:(0:Int).toNat<b.length:=by show 0<_;omega
 have I:(1:Int).toNat<b.length:=by show 1<_;omega
 have J:(2:Int).toNat<b.length:=by show 2<_;omega
 have R:(3:Int).toNat<b.length:=by show 3<_;omega
 have e0:b[(0:Int).toNat]'r=b[0]'j_:=rfl;have e1:b[(1:Int).toNat]'I=b[1]'j_:=rfl;have e2:b[(2:Int).toNat]'J=b[2]'j_:=rfl;have e3:b[(3:Int).toNat]'R=b[3]'j_:=rfl;have eh:=M8 (b[0]'j_) (b[1]'j_);have fy:=M8 (b[2]'j_) (b[3]'j_);have l0:=(b[0]'j_).toNat_lt;have l1:=(b[1]'j_).toNat_lt;obtain ⟨P,hP⟩:=kE ((b[0]'j_).toNat*256+(b[1]'j_).toNat);obtain ⟨Q,hQ⟩:=kE ((b[2]'j_).toNat*256+(b[3]'j_).toNat);have a1:P<65536:=by omega
 rw[hP]at eh g;rw[hQ]at fy g;have ha:=Bdd P j_;have hs:(P:Int).fdiv (2^(min (Int.toNat 12) IntKind.i64.bits))=((P/4096:Nat):Int):=A2p P 12 qq;refine oO ?_;refine⟨q_,by decide,r,?_⟩;rw[e0]
 conv=>whnf
 refine⟨by decide,?_⟩
 conv=>whnf
 refine⟨q_,by decide,I,?_⟩;rw[e1]
 conv=>whnf
 refine⟨y_,?_⟩;rw[eh]
 conv=>whnf
 refine⟨q_,by decide,J,?_⟩;rw[e2]
 conv=>whnf
 refine⟨by decide,?_⟩
 conv=>whnf
 refine⟨q_,by decide,R,?_⟩;rw[e3]
 conv=>whnf
 refine⟨y_,?_⟩;rw[fy]
 conv=>whnf
 refine⟨by decide,?_⟩;rw[ha,hs]
 conv=>whnf
 constructor<;>intro h
 .rw[zE (.inl (qA h))]at g;subst g;refine oO ?_;exact An 2 zF q_ vL dN
 have h5:¬4094<P%4096:=qB h;refine gI ?_ ?_<;>intro h
 .rw[zE (.inr (by have:(Q:Int)=33024:=(kS h);omega))]at g;subst g;refine oO ?_;exact An 2 zF q_ vL dN
 have h6:¬Q=33024:=λe=>by rw[e]at h;simp at h
 rw[zD j_]at g;subst g;refine oO ?_;refine C6 (Hx (lo:=4) (hi:=b.length) Γ.toTy q_ q_ q_ q_ (.inr ⟨_,_,q_,q_⟩) (.inl ⟨q_,q_⟩) j (yG _)) y_ q_ (oD ?_);refine cD o F309 (gO ?_);refine Av q_ (.cons (.cell q_ q_ q_ q_) (.cons .tmp (.cons .tmp As))) ?_ q_;show SV.tup [.agg [_,_,_,.sl 1 Ae (b.drop 4)],_,_,_]=SV.tup [.agg [_,_,_,.sl 1 Ae ((b.take b.length).drop 4)],_,_,_];rw[p];rfl
def Tj(f:Bg)(h:Cf f):Sq 19 [Ek f] [] (.tup [.osl 0,Aa 0]) [(0,.row 1 Ae (Vc f))]:=Av3 f.dst f.src f.au f.body h.dst h.src h.au h.body
def Asr(f:Bg)(v:Nat)(h:Cf f)(p:v<=4094):Sp 122 [Ek f,Aa v,Aa 0] (.tup [Ek (Om f v).1,Aa (Om f v).2]):=by
 have g:=Om.eq_1 f v;have i:=fA f;obtain ⟨d,s,t,b⟩:=f;have l:=h.au;have r:=h.body;dsimp only at g i l r;by_cases j:t=33024
 .rw[zE j]at g;rw[g];rw[zL j]at i;refine Y7 Γ hm 100 F122 ntmps122 q_ λF I=>by
   conv=>whnf
   refine c0 i F207 ?_
   (refine oT ?_;refine bT ?_;refine bT ?_;refine bT ?_;refine bT ?_)
   exact An 6 zF q_ vL dN
 rw[zD j]at g;by_cases o:1500<b.length
 .rw[zE o]at g;rw[g];rw[zJ j]at i;refine Y7 Γ hm 100 F122 ntmps122 q_ λF I=>by
   conv=>whnf
   refine c0 i F207 ?_
   (refine oF ?_;refine bF ?_)
   (refine⟨λh=>False.elim (by simp at h;omega),λ_=>?_⟩;refine rg ?_;(conv=>whnf);refine aF ?_;refine rg ?_;(conv=>whnf);refine aF ?_;refine rg ?_;(conv=>whnf);refine aF ?_;refine rg ?_;(conv=>whnf);refine⟨λh=>False.elim (by simp at h;omega),λ_=>?_⟩;refine rg ?_;(conv=>whnf);refine⟨λ_=>?_,λh=>False.elim (by simp at h;omega)⟩;refine rg ?_;conv=>whnf)
   exact An 6 zF q_ vL dN
 rw[zD o]at g;rw[g];exact Bef d s t v b j l p j_
def A4m{b:List UInt8}(h:(Dw b).2≠0):(Dw b).1=V9:=by
 unfold Dw at h|-;split
 .rfl
 rw[zD (by assumption)]at h;split
 .rfl
 rw[zD (by assumption)]at h;exact zW q_ h
def bQ{b:List UInt8}(h:(Dw b).2=0):Cf (Dw b).1:=by
 unfold Dw at h|-;split
 .rw[zE (by assumption)]at h;cases h
 rw[zD (by assumption)]at h;split
 .rw[zE (by assumption)]at h;cases h
 rename_i r t;have g:((b.take 6).length)=6:=by rw[zY];omega
 have i:(((b.drop 6).take 6).length)=6:=by rw[zY,yP];omega
 have j:(((b.drop 12).take 2).length)=2:=by rw[zY,yP];omega
 have l:=W5 _ _ g;have o:=W5 _ _ i;have p:=W5 _ _ j;refine⟨l,o,?_,?_⟩
 .dsimp only;exact Nat.le_of_lt_succ p
 .dsimp only;rw[yP];omega
def A9g{f:Bg}(g:Cf f)(h:(H1 f).2.2.2=0):Cf (H1 f).1:=by
 unfold H1 at h|-;split
 .rw[zE (by assumption)]at h;cases h
 rw[zD (by assumption)]at h;split
 .rw[zE (by assumption)]at h;cases h
 rw[zD (by assumption)]at h;split
 .rw[zE (by assumption)]at h;cases h
 rename_i l o p;have i:(((f.body.drop 2).take 2).length)=2:=by rw[zY,yP];omega
 have j:=W5 _ _ i;have r:=g.body;refine⟨g.dst,g.src,?_,?_⟩
 .dsimp only;exact Nat.le_of_lt_succ j
 .dsimp only;rw[yP];omega
def strip_bad{f:Bg}(h:(H1 f).2.2.2≠0):(H1 f).1=V9/\(H1 f).2.1=0:=by
 unfold H1 at h|-;split
 .exact⟨q_,q_⟩
 rw[zD (by assumption)]at h;split
 .exact⟨q_,q_⟩
 rw[zD (by assumption)]at h;split
 .exact⟨q_,q_⟩
 rw[zD (by assumption)]at h;exact zW q_ h
def Av5(n:Ai)(hn:n.Fin)(port:Int)(b:List UInt8)(hb:b.length<100000):Sp 165 [Aq n,Aa port,.sl 1 Ae b] (.tup [Aa (Ev n port b).1,Ek (Ev n port b).2.1,Aa (Ev n port b).2.2]):=cT F165 ntmps165 λF hF=>by
 have i:=Ev.eq_1 n port b;generalize Ev n port b=a1 at *;have hr:=A7 n hn;refine fW ?_;by_cases j8:port<0
 .rw[zE (.inl (by rw[Am,zJ j_];rfl))]at i;subst i
  (repeat (first|(refine⟨λh=>False.elim (by first|(exact zW h qq)|(simp at h;done)|(simp at h;omega)),λ_=>?_⟩;(refine fU ?_))|(refine⟨λ_=>?_,λh=>False.elim (by first|(exact zW h qq)|(simp at h;done)|(simp at h;omega))⟩;(refine fU ?_))))
  exact An 7 zF q_ vL dN
 refine⟨λh=>zW (zO h) j8,λ_=>?_⟩;refine Bi 3 8 (Aq n) q_ q_ q_ ?_;by_cases wu:(n.g.length:Int)<=port
 .rw[zE (.inl (by rw[Am,zJ (by omega:¬port<_),wR]))]at i;subst i;refine fU ?_
  (repeat (first|(refine⟨λh=>False.elim (by first|(exact zW h qq)|(simp at h;done)|(simp at h;omega)),λ_=>?_⟩;(refine fU ?_))|(refine⟨λ_=>?_,λh=>False.elim (by first|(exact zW h qq)|(simp at h;done)|(simp at h;omega))⟩;(refine fU ?_))))
  exact An 7 zF q_ vL dN
 have bd:Am port n.g.length=true:=by rw[Am,zL j_,zL j_];rfl
 refine fU ?_
 (refine⟨λh=>False.elim (by first|(exact zW h qq)|(simp at h;done)|(simp at h;omega)),λ_=>?_⟩;(refine fU ?_))
 refine c0 hr F49 ?_;cases t:Ac n
 .rw[zE (.inr t)]at i;subst i;refine fU ?_;exact An 7 zF q_ vL dN
 rw[zD (by simp[t,bd])]at i;have r:0<=port:=by omega
 have j:port.toNat<n.g.length:=by omega
 have e1:Af n.g port=n.g[port.toNat]:=Aj j;have I:=hn.u _ (zI j);obtain ⟨p,hp⟩:=kE (n.g[port.toNat]'j);rw[hp]at e1 I;have qt:=aD b hb;have gh:=@bQ b;have kt:=@A4m b;generalize Dw b=tf at *;obtain ⟨f,e⟩:=tf;dsimp only at i qt gh kt;have qi:=fA f;refine gL qt F121 ?_;refine gL qi F207 ?_;by_cases he:e=0;rotate_left
 .rw[zE he]at i;subst i;obtain rfl:=kt he;refine fU ?_
  (refine⟨λh=>False.elim (by first|(exact zW h qq)|(simp at h;done)|(simp at h;omega)),λ_=>?_⟩;(refine fU ?_))
  (refine⟨λh=>False.elim (by first|(exact zW h qq)|(simp at h;done)|(simp at h;omega)),λ_=>?_⟩;(refine fU ?_))
  refine⟨q_,r,j,?_⟩;rw[hp];refine gQ (aE p false 0 I) F235 ?_;refine fU ?_
  (repeat (first|(refine⟨λh=>False.elim (by first|(exact zW h qq)|(simp at h;done)|(simp at h;omega)),λ_=>?_⟩;(refine fU ?_))|(refine⟨λ_=>?_,λh=>False.elim (by first|(exact zW h qq)|(simp at h;done)|(simp at h;omega))⟩;(refine fU ?_))))
  exact An 7 zF q_ vL dN
 subst he;rw[zD qq]at i;have mq:=gh rfl;by_cases ht:f.au=33024
 .rw[zE ht]at i;rw[zL ht];have qs:=A4n f (by have:=mq.body;omega);have J:=@A9g f mq;have P:=@strip_bad f;generalize H1 f=st at *;obtain ⟨g,eu,a0,e2⟩:=st;dsimp only at i qs J P;refine gL qs F233 ?_;by_cases d5:e2=0;rotate_left
  .rw[zE d5]at i;subst i;obtain ⟨rfl,rfl⟩:=P d5;refine fU ?_
   (refine⟨λh=>False.elim (by first|(exact zW h qq)|(simp at h;done)|(simp at h;omega)),λ_=>?_⟩;(refine fU ?_))
   refine⟨q_,r,j,?_⟩;rw[hp];refine gQ (aE p true 0 I) F235 ?_;refine fU ?_
   (repeat (first|(refine⟨λh=>False.elim (by first|(exact zW h qq)|(simp at h;done)|(simp at h;omega)),λ_=>?_⟩;(refine fU ?_))|(refine⟨λ_=>?_,λh=>False.elim (by first|(exact zW h qq)|(simp at h;done)|(simp at h;omega))⟩;(refine fU ?_))))
   exact An 7 zF q_ vL dN
  subst d5;rw[zD qq]at i;have l:=J rfl;have wv:=l.src;have qg:=Wb g.src j_;rw[Ld,e1]at i;have R:=aE p true eu I;have qd:=Q8 n hn p.q (Kx p true eu).1;refine gL qg F234 ?_;cases za:J5 g.src;rotate_left
  .rw[zE za]at i;subst i;refine fU ?_;refine⟨q_,r,j,?_⟩;rw[hp];refine gQ R F235 ?_;refine fU ?_
   (repeat (first|(refine⟨λh=>False.elim (by first|(exact zW h qq)|(simp at h;done)|(simp at h;omega)),λ_=>?_⟩;(refine fU ?_))|(refine⟨λ_=>?_,λh=>False.elim (by first|(exact zW h qq)|(simp at h;done)|(simp at h;omega))⟩;(refine fU ?_))))
   exact An 7 zF q_ vL dN
  rw[zD (by simp[za])]at i;refine fU ?_;refine⟨q_,r,j,?_⟩;rw[hp];refine gQ R F235 ?_;generalize Kx p true eu=vl at *;obtain ⟨vl,o⟩:=vl;dsimp only at i qd|-;cases o
  .rw[zE rfl]at i;subst i;refine fU ?_;exact An 7 zF q_ vL dN
  rw[zD qx]at i;subst i;refine gK qd F195 ?_;refine⟨y_,?_⟩;refine fW ?_;exact dN
 .rw[zD ht]at i;rw[zJ ht];have l:=mq;have wv:=l.src;have qg:=Wb f.src j_;rw[Ld,e1]at i;have R:=aE p false 0 I;have qd:=Q8 n hn p.q (Kx p false 0).1;refine gL qg F234 ?_;cases za:J5 f.src;rotate_left
  .rw[zE za]at i;subst i;refine fU ?_;refine⟨q_,r,j,?_⟩;rw[hp];refine gQ R F235 ?_;refine fU ?_
   (repeat (first|(refine⟨λh=>False.elim (by first|(exact zW h qq)|(simp at h;done)|(simp at h;omega)),λ_=>?_⟩;(refine fU ?_))|(refine⟨λ_=>?_,λh=>False.elim (by first|(exact zW h qq)|(simp at h;done)|(simp at h;omega))⟩;(refine fU ?_))))
   exact An 7 zF q_ vL dN
  rw[zD (by simp[za])]at i;refine fU ?_;refine⟨q_,r,j,?_⟩;rw[hp];refine gQ R F235 ?_;generalize Kx p false 0=vl at *;obtain ⟨vl,o⟩:=vl;dsimp only at i qd|-;cases o
  .rw[zE rfl]at i;subst i;refine fU ?_;exact An 7 zF q_ vL dN
  rw[zD qx]at i;subst i;refine gK qd F195 ?_;refine⟨y_,?_⟩;refine fW ?_;exact dN
def Dy{i:Int}{n:Nat}(h:Am i n=true):0<=i/\i<n:=by simpa [Am] using h
def Xi(i:Int)(n:Nat):Sp 320 [Aa i,Aa n] (Ab (Am i n)):=cT F320 ntmps320 λF g=>by
 conv=>whnf
 (repeat' (first|(refine⟨λh=>?_,λh=>?_⟩<;>(repeat (first|simp only[zK]at h|simp only[yC]at h))<;>((refine oO ?_)))|(refine Av rfl As ?_ rfl)))
 all_goals (refine zH Ab ?_)
 all_goals grind [Am]
def A0h(n:Ai)(f:Bg)(h:Cf f)(v:Int):Sp 322 [Aq n,Ek f,Aa v] (.tup [.sl 1 Ae (Vc f),Aa 0]):=cT F322 ntmps322 λF g=>by
 conv=>whnf
 exact Al (Ad [(0,55)] q_ F19 (Tj f h) q_ z_ q_ ⟨.inr q_,z_⟩) q_ q_ (Ao 55 q_ gM)
def A9c{f:Bg}(g:Cf f)(v:Nat)(_hv:v<=4094)(h:(Om f v).2=0):Cf (Om f v).1:=by
 unfold Om at h|-;split
 .rw[zE (by assumption)]at h;cases h
 rw[zD (by assumption)]at h;split
 .rw[zE (by assumption)]at h;cases h
 refine⟨g.dst,g.src,?_,?_⟩
 .show (33024:Nat)<=65535;decide
 .dsimp only;simp;omega
def Aqs(n:Ai)(f:Bg)(h:Cf f)(v:Nat)(j:v<=4094):Sp 321 [Aq n,Ek f,Aa v] (.tup [.sl 1 Ae (if (Om f v).2≠0 then [] else Vc (Om f v).1),Aa (if (Om f v).2≠0 then (Om f v).2 else 0)]):=by
 have q:=Asr f v h j;have l:=A9c h v j;generalize Om f v=t at *;obtain ⟨g,e⟩:=t;dsimp only at q l|-;refine Y7 Γ hm 100 F321 ntmps321 q_ λF o=>by
  conv=>whnf
  refine gF q F122 ?_;by_cases i:e=0
  .subst i
   (refine⟨λh=>False.elim (zW h qq),λ_=>?_⟩;refine rg ?_;conv=>whnf)
   refine Bi 8 4 (Ek g) q_ q_ q_ (oO ?_);exact Al (Ad [(0,55)] q_ F19 (Tj g (l q_)) q_ z_ q_ ⟨.inr q_,z_⟩) q_ q_ (Ao 55 q_ gM)
  .rw[zE i,zE i]
   (refine⟨λ_=>?_,λh=>False.elim (by simp at h;omega)⟩;refine rg ?_;conv=>whnf)
   exact Ar 6 1 Ae q_ dN
def Aaq{n:Ai}(h:Ac n=true){i:Nat}(hi:i<n.c.length):1<=n.c[i].z/\n.c[i].z<=4094:=by
 simp only[Ac,zG]at h;have g:Lu (Wq n) n.c=true:=h.1.1.1.1.1.1.1.2;have:=Cm.1 g i hi;simp only[Wq,zG,zK]at this;omega
def Bbu(n:Ai)(hn:n.Fin)(port dom:Int)(f:Bg)(h:Cf f):Sp 244 [Aq n,Aa port,Aa dom,Ek f] (.tup [.sl 1 Ae (Hi n port dom f).1,Aa (Hi n port dom f).2]):=cT F244 ntmps244 λF hF=>by
 have g:=Hi.eq_1 n port dom f;generalize Hi n port dom f=a1 at *;have hr:=A7 n hn;have I:=Xi port n.g.length;have J:=Xi dom n.c.length
 conv=>whnf
 refine c0 I F320 ?_;cases P:Am port n.g.length
 .rw[zE (.inl P)]at g;subst g
  (refine oT ?_;refine bT ?_;refine bT ?_)
  exact Ar 8 1 Ae q_ dN
 refine oF ?_;refine c0 J F320 ?_;cases R:Am dom n.c.length
 .rw[zE (.inr (.inl R))]at g;subst g
  (refine oT ?_;refine bT ?_)
  exact Ar 8 1 Ae q_ dN
 refine oF ?_;refine c0 hr F49 ?_;cases i:Ac n
 .rw[zE (.inr (.inr i))]at g;subst g;refine oT ?_;exact Ar 8 1 Ae q_ dN
 rw[zD (by simp[i,P,R])]at g;have ku:=Dy P;have nu:=Dy R;have d8:0<=port:=ku.1;have mw:0<=dom:=nu.1;have l:port.toNat<n.g.length:=by omega
 have o:dom.toNat<n.c.length:=by omega
 have e1:Af n.g port=n.g[port.toNat]:=Aj l;have e2:Af n.c dom=n.c[dom.toNat]:=Aj o;have kr:=hn.u _ (zI l);have hv:=Aaq i o;obtain ⟨p,hp⟩:=kE (n.g[port.toNat]'l);obtain ⟨d,hd⟩:=kE (n.c[dom.toNat]'o);rw[hp]at e1 kr;rw[hd]at e2 hv;rw[e1,e2]at g;have qm:=Aci p d.z kr;refine oF ?_;refine⟨q_,d8,l,q_,mw,o,?_⟩;rw[hp,hd]
 conv=>whnf
 refine kW ?_;constructor<;>intro h1
 .rw[zE (.inl (kS h1))]at g;subst g;refine oT ?_;exact Ar 8 1 Ae q_ dN
 refine Bi 10 7 (Bm p) q_ q_ q_ (oO ?_);refine c0 qm F185 ?_;cases bq:Hk p d.z
 .rw[zE (.inr bq)]at g;subst g;refine oT ?_;exact Ar 8 1 Ae q_ dN
 rw[zD (by simp at h1;simp[bq,h1])]at g;have r:=fA f;by_cases t:f.au=33024
 .rw[zE t]at g;subst g;rw[zL t]at r;refine oF ?_;refine c0 r F207 (oT ?_);exact Ar 8 1 Ae q_ dN
 rw[zD t]at g;rw[zJ t]at r;refine oF ?_;refine c0 r F207 (oF ?_);constructor<;>intro h2
 .rw[zE (kS h2)]at g;subst g;refine oO ?_;refine Is ⟨⟨_,_,F322⟩,A0h n f h d.z⟩ q_ q_ q_ q_ q_ q_ ?_;exact gM
 rw[zD (kS h2)]at g;refine oO ?_;have a0:(d.z.toNat:Int)=d.z:=by omega
 have qg:=Aqs n f h d.z.toNat j_;rw[a0]at qg;refine Is ⟨⟨_,_,F321⟩,qg⟩ q_ q_ q_ q_ q_ q_ ?_;refine oO ?_;by_cases j:(Om f d.z).2=0
 .rw[zD (kS j)]at g;subst g;rw[zD (kS j),zD (kS j)];exact dN
 .rw[zE j]at g;subst g;rw[zE j,zE j];exact dN
def Aqv{l:List Int}{x:Int}:Li l x=true↔x∈l:=by
 simp[Li]
def A0f(n:Ai)(j:n.Fin)(port:Int)(b:List UInt8)(p:b.length<100000):Sp 248 [Aq n,Aa port,.sl 1 Ae b] (.tup [Aa (Ir n port b).1,Aa (Ir n port b).2.1,Ek (Ir n port b).2.2.1,Aa (Ir n port b).2.2.2]):=cT F248 ntmps248 λF P=>by
 have i:=Ir.eq_1 n port b;generalize Ir n port b=r at *;have t:=Acn n j port;have I:=Av5 n j (Eg n port) b p;generalize Eg n port=o at *
 conv=>whnf
 refine gF t F326 ?_;constructor<;>intro l
 .rw[zE (kS l)]at i;subst i;refine oO ?_;exact An 8 zF q_ vL dN
 rw[zD (kS l)]at i;refine oO ?_;refine c0 I F165 ?_;generalize Ev n o b=J at *;obtain ⟨R,g,x2⟩:=J;subst i;refine oO ?_;refine kW ?_;exact dN
end
section
def Xu(l:List Nat):(E8 l).length=2*l.length:=by
 induction l with
 |nil=>rfl
 |cons a l g=>simp only[E8,xZ,zR,yI,xG]at g|-;omega
def Tv(l:List Nat)(n:Nat):E8 (l++[n])=E8 l++[UInt8.ofNat (n/256),UInt8.ofNat n]:=by simp[E8]
def Yp(b:List UInt8)(k m:Nat):Cd b k m<256^m:=by
 have h:=W5 _ ((b.drop k).take m) rfl;have g:((b.drop k).take m).length<=m:=by rw[zY];omega
 exact xB h (vC qq g)
def oX{b:List UInt8}{k:Nat}(h:k+2<=b.length):Cd b k 2=(b[k]'j_).toNat*256+(b[k+1]'j_).toNat:=by
 rw[Cd,Abh h,Amt]
def Ary{b:List UInt8}{k:Nat}(h:k<b.length):bAt b k=b[k]:=A02 h
def A9b{b:List UInt8}{k:Nat}(h:k+3<=b.length):(b.drop k).take 3=[b[k]'j_,b[k+1]'j_,b[k+2]'j_]:=by
 rw[yK j_,yK (i:=k+1) j_,yK (i:=k+2) j_];rfl
def A9a{b:List UInt8}{k:Nat}(h:k+4<=b.length):(b.drop k).take 4=[b[k]'j_,b[k+1]'j_,b[k+2]'j_,b[k+3]'j_]:=by
 rw[yK j_,yK (i:=k+1) j_,yK (i:=k+2) j_,yK (i:=k+3) j_];rfl
def numAt3{b:List UInt8}{k:Nat}(h:k+3<=b.length):Cd b k 3=((b[k]'j_).toNat*256+(b[k+1]'j_).toNat)*256+(b[k+2]'j_).toNat:=by
 rw[Cd,A9b h];simp[Lj]
def Az0{b:List UInt8}{k:Nat}(h:k+4<=b.length):Cd b k 4=Cd b k 2*65536+Cd b (k+2) 2:=by
 have e:b[k+2+1]'j_=b[k+3]'j_:=rfl;rw[Cd,A9a h,oX j_,oX j_,e];simp[Lj];omega
def Js(f:Bg):(Vc f).length=14+f.body.length:=by
 simp[Vc,frame,E2];omega
def Ox(p:Dv)(s:Nat):(Kr p s).length=20:=by rw[Kr,Xu];rfl
def Qo(p:Dv):(Oy p).length=20+p.body.length:=by rw[Oy,zR,Ox]
def bK(s d:Nat)(b:List UInt8):(Ag1 s d b).length=8+b.length:=by rw[Ag1,zR,Xu];rfl
def Lb(v:Nat):(Sg v).length=8:=rfl
def Jd:Cf V9:=⟨by decide,by decide,by decide,by decide⟩
def dH(g:Nat)(h:g<4294967296):I4 g<281474976710656:=by rw[I4,yA];omega
def Al7(n:Ai)(port dom:Int)(f:Bg)(i:Cf f):(Hi n port dom f).1.length<=1518:=by
 have j:=i.body;unfold Hi;split
 .simp
 split
 .simp
 split
 .simp
 split
 .rw[Js];omega
 split
 .simp
 .rw[Js];rename_i h;have g:(Om f (Af n.c dom).z).2=0:=Classical.byContradiction h;unfold Om at g|-;split
  .rw[zE (by assumption)]at g;cases g
  rw[zD (by assumption)]at g;split
  .rw[zE (by assumption)]at g;cases g
  .dsimp only;simp;omega
def Aah{b:List UInt8}(h:(Cn b).2=0):Mx (Cn b).1/\(Cn b).1.body.length+20<=b.length:=by
 unfold Cn at h|-;split
 .rw[zE (by assumption)]at h;cases h
 rw[zD (by assumption)]at h;split
 .rw[zE (by assumption)]at h;cases h
 rw[zD (by assumption)]at h;split
 .rw[zE (by assumption)]at h;cases h
 rw[zD (by assumption)]at h;split
 .rw[zE (by assumption)]at h;cases h
 rw[zD (by assumption)]at h;split
 .rw[zE (by assumption)]at h;cases h
 have j:=(bAt b 1).toNat_lt;have l:=(bAt b 8).toNat_lt;have o:=(bAt b 9).toNat_lt;have p:=Yp b 4 2;have g:=Yp b 12 4;have i:=Yp b 16 4;refine⟨⟨?_,?_,?_,?_,?_,?_⟩,?_⟩
 .show (bAt b 1).toNat<=255;omega
 .show Cd b 4 2<=65535;omega
 .show (bAt b 8).toNat<=255;omega
 .show (bAt b 9).toNat<=255;omega
 .exact g
 .exact i
 .show ((b.take (Cd b 2 2)).drop 20).length+20<=b.length;rw[yP,zY];omega
def Bgw{b:List UInt8}(h:(Cn b).2≠0):(Cn b).1=noP:=by
 unfold Cn at h|-;split
 .rfl
 rw[zD (by assumption)]at h;split
 .rfl
 rw[zD (by assumption)]at h;split
 .rfl
 rw[zD (by assumption)]at h;split
 .rfl
 rw[zD (by assumption)]at h;split
 .rfl
 rw[zD (by assumption)]at h;exact zW q_ h
def Az1:Mx noP:=⟨by decide,by decide,by decide,by decide,by decide,by decide⟩
def oB:∀(l:List Nat) (j:Nat),j<=l.length->(∀n∈l,n<4294967296)->Wv (E8 l) j=((l.take j).map (·%65536)).sum
 |l,0,_,_=>by simp[Wv]
 |l,j+1,h,i=>by
  have o:=oB l j j_ i;have g:j<l.length:=by omega
  have p:(E8 l).getD (2*j) 0=UInt8.ofNat (l[j]/256)/\(E8 l).getD (2*j+1) 0=UInt8.ofNat l[j]:=by
   clear o i
   induction l generalizing j with
   |nil=>simp at g
   |cons a l r=>
    cases j with
    |zero=>simp[E8]
    |succ j=>
     have:=r j (kS h) (kS g);rw[E8,xZ,show 2*(j+1)+1=(2*j+1)+1+1 by omega,show 2*(j+1)=2*j+1+1 by omega];simpa [E8] using this
  rw[Wv,o,p.1,p.2,zZ g,wP,List.sum_append];have t:=i l[j] (zI g);generalize l[j]=x at *;simp only[xR,vW,List.sum_cons,List.sum_nil,ofNat_toNat];omega
def Afi{p:Dv}(hp:Mx p)(i:p.body.length<=1480)(s:Nat)(j:s<=65535):∀n∈[17664+p.bj,20+p.body.length,p.id,0,p.bg*256+p.aw,s,p.src/65536,p.src,p.dst/65536,p.dst],n<4294967296:=by
 have l:=hp.bj;have o:=hp.aw;have r:=hp.bg;have t:=hp.id;have I:=hp.src;have J:=hp.dst;intro n g;simp only[yH,xJ,vH]at g;rcases g with rfl|rfl|rfl|rfl|rfl|rfl|rfl|rfl|rfl|rfl<;>omega
def A0p(p:Dv)(s:Nat):((Kr p 0).set 10 (UInt8.ofNat (s/256))).set 11 (UInt8.ofNat s)=Kr p s:=by
 simp only[Kr,E8,xZ,List.flatMap_nil,wF,xO,List.set_cons_succ,uA]
def A8n(a b v:Nat)(f:Bg)(g:a<4294967296)(i:b<4294967296):Mx (Sw a b v f):=⟨xV _,xV _,by show (64:Nat)<=255;decide,by show (17:Nat)<=255;decide,g,i⟩
def U6(a b v:Nat)(f:Bg):(Sw a b v f).body.length=30+f.body.length:=by
 simp only[Sw,bK,zR,Lb,Js];omega
def Ape(a b:Nat)(v:Int)(f:Bg):(Wy a b v f).1.length<=1514:=by
 unfold Wy;split
 .simp
 split
 .simp
 split
 .simp
 .simp only[frame,zR,E2,Qo,U6,yI,xG];omega
def Aqn(n:Ai)(dom g:Int)(f:Bg):(Mc n dom g f).1.length<=1514:=by
 unfold Mc;split
 .simp
 split
 .simp
 .exact Ape _ _ _ _
def Bdx{b:List UInt8}:(B9 b).2.2.1.length<=b.length:=by
 unfold B9
 repeat' split
 all_goals first|(simp;done)|(simp only[yP,zY];omega)
def vniT_body{b:List UInt8}:(Qb b).2.1.length<=b.length:=by
 unfold Qb
 repeat' split
 all_goals first|(simp;done)|(simp only[yP];omega)
def Aep(b:List UInt8):Mx (Eu b).1/\(Eu b).1.body.length<=b.length:=by
 unfold Eu;split
 .exact⟨Az1,by simp[noP]⟩
 split
 .exact⟨Az1,by simp[noP]⟩
 split
 .exact⟨Az1,by simp[noP]⟩
 .rename_i g o i;have p:(Dw b).2=0:=Classical.byContradiction g;have j:(Cn (Dw b).1.body).2=0:=Classical.byContradiction i;obtain ⟨l,r⟩:=Aah j;refine⟨l,?_⟩;have t:(Dw b).1.body.length<=b.length:=by
   unfold Dw
   repeat' split
   all_goals simp[V9]
  dsimp only;omega
def Anw(b:List UInt8):Cf (Us b).2.1/\0<=(Us b).1:=by
 unfold Us
 repeat' split
 all_goals first|exact⟨Jd,wB _⟩|skip
 rename_i i j l g o;refine⟨bQ (Classical.byContradiction g),?_⟩;show 0<=(Qb (B9 b).2.2.1).1;unfold Qb
 repeat' split
 all_goals omega
def Ahy(b:List UInt8):(Do b).1<4294967296/\(Do b).2.1<4294967296/\0<=(Do b).2.2.1/\Cf (Do b).2.2.2.1:=by
 unfold Do;split
 .exact⟨Nat.zero_lt_succ _,Nat.zero_lt_succ _,wB _,Jd⟩
 split
 .exact⟨Nat.zero_lt_succ _,Nat.zero_lt_succ _,wB _,Jd⟩
 .exact⟨(Aep b).1.src,(Aep b).1.dst,(Anw _).2,(Anw _).1⟩
def Aof(n:Ai)(port:Int)(f:Bg)(g:Cf f)(i:Bool)(j:Int):Cf (Ld n port f i j).2.1:=by
 unfold Ld;split
 .exact Jd
 split
 .exact Jd
 .exact g
def Ae3(n:Ai)(port:Int)(b:List UInt8):Cf (Ev n port b).2.1:=by
 unfold Ev;split
 .exact Jd
 split
 .exact Jd
 rename_i l i;have g:=bQ (Classical.byContradiction i);split
 .split
  .exact Jd
  .rename_i j;exact Aof _ _ _ (A9g g (Classical.byContradiction j)) _ _
 .exact Aof _ _ _ g _ _
def Au3(n:Ai)(port:Int)(b:List UInt8):Cf (Ir n port b).2.2.1:=by
 unfold Ir;split
 .exact Jd
 .exact Ae3 _ _ _
def Awi(n:Ai)(b:List UInt8):Cf (Jh n b).2.2.1:=by
 unfold Jh;split
 .exact Jd
 split
 .exact Jd
 split
 .exact Jd
 split
 .exact Jd
 .exact(Ahy b).2.2.2
def Bfh(n:Ai)(hm:n.Num)(irb:Int)(f:Bg)(i:∀(d:Int),(Cu n irb d).2=true->0<=(Cu n irb d).1/\(Cu n irb d).1.toNat<n.r.length):Cf (Ww n irb f).2.1:=by
 unfold Ww;split
 .exact Jd
 split
 .exact Jd
 split
 .exact Jd
 split
 .exact Jd
 split
 .exact Jd
 split
 .exact Jd
 rename_i p r j t l I;have hp:=(Aah (Classical.byContradiction j)).1;have g:=i ((Cn f.body).1.dst:Int) (kS l);have o:=hm.addr _ (zI g.2);rw[<-Aj g.2]at o;refine⟨dH _ hp.dst,?_,?_,?_⟩
 .show I4 (Af n.r _).addr<_;rw[I4];omega
 .show (2048:Nat)<=65535;decide
 .show (Oy (Avq (Cn f.body).1)).length<=1504;rw[Qo];show 20+(Cn f.body).1.body.length<=1504;omega
attribute [local irreducible]G DR
set_option maxRecDepth 100000
def Ahd(a b:Nat)(j:a<4294967296)(l:b<4294967296):bits .or .u32 (a:Int) (b:Int)=((a|||b:Nat):Int):=by
 have o:a|||b<2^32:=Nat.or_lt_two_pow j_ j_;have g:(BitVec.ofInt 32 (a:Int)).toNat=a:=by
  rw[BitVec.ofInt_natCast,BitVec.toNat_ofNat];exact xN j_
 have i:(BitVec.ofInt 32 (b:Int)).toNat=b:=by
  rw[BitVec.ofInt_natCast,BitVec.toNat_ofNat];exact xN j_
 show IntKind.u32.wrap ((BitVec.ofInt 32 (a:Int)|||BitVec.ofInt 32 (b:Int)).toNat:Int)=_;rw[BitVec.toNat_or,g,i,IntKind.wrap_u32];omega
def A3w(x:UInt8)(k:UInt8):((x.toNat:Int) != (k.toNat:Int))=decide (x≠k):=by
 rw[xY];simp only[xF,zK,ne_eq,<-UInt8.toNat_inj];omega
def Acq(b:List UInt8)(k:Nat)(h:k+2<=b.length)(p:b.length<100000):Sp 374 [.sl 1 Ae b,Aa k] (Aa (Cd b k 2)):=cT F374 ntmps374 λF r=>by
 have g:(k:Int).toNat<b.length:=by simpa using (by omega:k<b.length)
 have i:((k:Int)+1).toNat<b.length:=by omega
 have j:b[(k:Int).toNat]'g=b[k]'j_:=rfl;have l:b[((k:Int)+1).toNat]'i=b[k+1]'j_:=rfl;have hp:=M8 (b[k]'j_) (b[k+1]'j_);have o:=oX h;rw[<-o]at hp
 conv=>whnf
 refine⟨q_,by omega,g,?_⟩;rw[j]
 conv=>whnf
 refine⟨by decide,?_⟩
 conv=>whnf
 refine iW ?_;refine⟨q_,by omega,i,?_⟩;rw[l]
 conv=>whnf
 refine⟨y_,?_⟩;rw[hp]
 conv=>whnf
 exact dN
def A85(x y:Nat)(o:x<65536)(p:y<65536):bits .or .u32 (IntKind.u32.wrap ((IntKind.u32.wrap (x:Int))*2^min (Int.toNat 16) IntKind.u32.bits)) (IntKind.u32.wrap (y:Int))=((x*65536+y:Nat):Int):=by
 have g:IntKind.u32.wrap (x:Int)=(x:Int):=by rw[IntKind.wrap_u32];omega
 have j:IntKind.u32.wrap (y:Int)=(y:Int):=by rw[IntKind.wrap_u32];omega
 rw[g,j];have l:IntKind.u32.wrap ((x:Int)*2^min (Int.toNat 16) IntKind.u32.bits)=((x*65536:Nat):Int):=by
  show IntKind.u32.wrap ((x:Int)*65536)=_;rw[IntKind.wrap_u32];omega
 rw[l,Ahd _ _ j_ j_];congr 1;have h:=xX (i:=16) (b:=y) j_ x;rw[vJ x 65536];exact h.symm
def A3f(b:List UInt8)(k:Nat)(h:k+4<=b.length)(g:b.length<100000):Sp 376 [.sl 1 Ae b,Aa k] (Bo (Cd b k 4)):=cT F376 ntmps376 λF o=>by
 have l:=Acq b k j_ g;have i:=Acq b (k+2) j_ g;rw[show ((k+2:Nat):Int)=(k:Int)+2 by omega]at i;have j:=A85 (Cd b k 2) (Cd b (k+2) 2) (by have:=Yp b k 2;omega) (by have:=Yp b (k+2) 2;omega);rw[<-Az0 h]at j
 conv=>whnf
 refine gF l F374 ?_;refine⟨by decide,?_⟩
 conv=>whnf
 refine iW ?_;refine gF i F374 ?_;rw[j];exact dN
def A4p(l:List UInt8)(g:l.length<100000)(i:l.length%2=0):Sp 375 [.sl 1 Ae l] (Ab (decide (Ls (Wv l (l.length/2))=65535))):=cT F375 ntmps375 λF o=>by
 have j:=A2l l g i
 conv=>whnf
 refine gF j F337 ?_;refine Av q_ As (zH Ab ?_) q_;rw[xY];simp only[yL,zK];omega
abbrev zP:List SV:=[Aa 0,Aa 0,Aa 0,Aa 0,Bo 0,Bo 0,.sl 1 Ae []]
def A3e(b:List UInt8)(i:b.length<100000):Sp 316 [.sl 1 Ae b] (.tup [Ab5 (Cn b).1,Aa (Cn b).2]):=cT F316 ntmps316 λF hF=>by
 have g:=Cn.eq_1 b;generalize Cn b=a0 at *
 conv=>whnf
 constructor<;>intro h
 .rw[zE (qA h)]at g;subst g;refine oO ?_;exact An 2 zP q_ vL dN
 have p:20<=b.length:=qB h;rw[zD j_]at g;clear h;have i0:(0:Int).toNat<b.length:=by show 0<_;omega
 have r:(1:Int).toNat<b.length:=by show 1<_;omega
 have i8:(8:Int).toNat<b.length:=by show 8<_;omega
 have t:(9:Int).toNat<b.length:=by show 9<_;omega
 have e0:b[(0:Int).toNat]'i0=bAt b 0:=(Ary j_).symm;have I:=Acq b 2 j_ i;have q4:=Acq b 4 j_ i;have q6:=Acq b 6 j_ i;have J:=A3f b 12 j_ i;have P:=A3f b 16 j_ i;have zb:(b.take 20).length=20:=by rw[zY];omega
 have j:(b.take 20).length/2=10:=by rw[zb]
 have qs:=A4p (b.take 20) j_ (by rw[zb]);rw[j]at qs;refine oO ?_;refine⟨q_,by decide,i0,?_⟩;rw[e0]
 conv=>whnf
 constructor<;>intro h
 .rw[zE (.inl (by rw[show ((69:Int))=((69:UInt8).toNat:Int) from rfl,A3w]at h;exact zO h))]at g;subst g;refine oT ?_;exact An 2 zP q_ vL dN
 have R:¬bAt b 0≠69:=by rw[show ((69:Int))=((69:UInt8).toNat:Int) from rfl,A3w]at h;exact zQ h
 clear h;refine oO ?_;refine gF I F374 ?_;constructor<;>intro h
 .rw[zE (.inr (qA h))]at g;subst g;refine oO ?_;exact An 2 zP q_ vL dN
 have l:20<=Cd b 2 2:=qB h;rw[zD (λh=>h.elim R j_)]at g;clear h;refine oO ?_;refine gF I F374 ?_;constructor<;>intro h
 .rw[zE (qA h)]at g;subst g;refine oO ?_;exact An 2 zP q_ vL dN
 have ny:Cd b 2 2<=b.length:=qB h;rw[zD j_]at g;clear h;refine oO ?_;refine gF q6 F374 ?_;constructor<;>intro h
 .rw[zE (by have:(Cd b 6 2:Int)≠0:=(kS h);omega)]at g;subst g;refine oO ?_;exact An 2 zP q_ vL dN
 rw[zD (by have:(Cd b 6 2:Int)=0:=(kS h);omega)]at g;clear h;refine oO ?_;refine Al (Hx (lo:=0) (hi:=20) Γ.toTy q_ q_ q_ q_ (.inl ⟨q_,q_⟩) (.inr ⟨_,_,q_,q_⟩) j_ p) q_ q_ (oO ?_);refine c0 qs F375 ?_;by_cases o:Ls (Wv (b.take 20) 10)=65535;rotate_left
 .rw[zE o]at g;subst g;rw[zJ o];refine oT ?_;exact An 2 zP q_ vL dN
 rw[zD (λh=>h o)]at g;subst g;rw[zL o];have qc:=aJ ((b.take (Cd b 2 2)).drop 20) (by rw[yP,zY];omega);have w1:IntKind.i64.wrap ((b[(1:Int).toNat]'r).toNat:Int)=((bAt b 1).toNat:Int):=by
  rw[Ary (show 1<b.length by omega)];have:=(b[1]'j_).toNat_lt;show IntKind.i64.wrap ((b[1]'j_).toNat:Int)=_;rw[IntKind.wrap_i64];omega
 have w8:IntKind.i64.wrap ((b[(8:Int).toNat]'i8).toNat:Int)=((bAt b 8).toNat:Int):=by
  rw[Ary (show 8<b.length by omega)];have:=(b[8]'j_).toNat_lt;show IntKind.i64.wrap ((b[8]'j_).toNat:Int)=_;rw[IntKind.wrap_i64];omega
 have w9:IntKind.i64.wrap ((b[(9:Int).toNat]'t).toNat:Int)=((bAt b 9).toNat:Int):=by
  rw[Ary (show 9<b.length by omega)];have:=(b[9]'j_).toNat_lt;show IntKind.i64.wrap ((b[9]'j_).toNat:Int)=_;rw[IntKind.wrap_i64];omega
 refine oF ?_;refine⟨q_,by decide,r,?_⟩
 conv=>whnf
 refine cD q4 F374 (oD ?_);refine⟨q_,by decide,i8,?_⟩
 conv=>whnf
 refine⟨q_,by decide,t,?_⟩
 conv=>whnf
 refine cD J F376 (oD ?_);refine cD P F376 (oD ?_);refine cD I F374 (oD ?_);refine C6 (Hx (lo:=20) (hi:=Cd b 2 2) Γ.toTy q_ q_ q_ q_ (.inr ⟨_,_,q_,q_⟩) (.inr ⟨_,_,q_,q_⟩) l ny) y_ q_ (oD ?_);refine cD qc F309 (gO ?_);refine Av q_ (.cons (.cell q_ q_ q_ q_) As) ?_ q_;show SV.tup [.agg [Aa (bAt b 1).toNat,_,Aa (bAt b 8).toNat,Aa (bAt b 9).toNat,_,_,_],_]=SV.tup [.agg [Aa (IntKind.i64.wrap ((b[(1:Int).toNat]'r).toNat:Int)),_,Aa (IntKind.i64.wrap ((b[(8:Int).toNat]'i8).toNat:Int)),Aa (IntKind.i64.wrap ((b[(9:Int).toNat]'t).toNat:Int)),_,_,_],_];rw[w1,w8,w9];rfl
def Baq(t:Nat)(h:t<=255):bits .or .i64 17664 (t:Int)=((17664+t:Nat):Int):=by
 have g:=Jp 17664 t qq j_;rw[show ((17664:Nat):Int)=17664 from rfl]at g;rw[g];congr 1;have j:=xX (i:=8) (b:=t) j_ 69;rw[show 2^8*69=17664 from rfl]at j;rw[<-j]
def Bex(x y:Nat)(j:x<=255)(l:y<=255):bits .or .i64 (IntKind.i64.wrap ((x:Int)*2^min (Int.toNat 8) IntKind.i64.bits)) (y:Int)=((x*256+y:Nat):Int):=by
 have g:IntKind.i64.wrap ((x:Int)*2^min (Int.toNat 8) IntKind.i64.bits)=((x*256:Nat):Int):=by
  show IntKind.i64.wrap ((x:Int)*256)=_;rw[IntKind.wrap_i64];omega
 rw[g,Jp _ _ j_ j_];congr 1;have h:=xX (i:=8) (b:=y) j_ x;rw[vJ x 256];exact h.symm
def Avr(x:Nat)(h:x<4294967296):IntKind.i64.wrap ((x:Int).fdiv (2^(min (Int.toNat 16) IntKind.u32.bits)))=((x/65536:Nat):Int):=by
 show IntKind.i64.wrap ((x:Int).fdiv 65536)=_;rw[wM _ qq,IntKind.wrap_i64];omega
def A29(x:Nat)(h:x<4294967296):IntKind.i64.wrap (x:Int)=(x:Int):=by rw[IntKind.wrap_i64];omega
def Aqu(p:Dv)(hp:Mx p)(hb:p.body.length<100000):Sp 204 [Ab5 p] (.tup [.sl 1 Ae (Sd p).1,Aa (Sd p).2]):=cT F204 ntmps204 λF hF=>by
 have i:=Sd.eq_1 p;generalize Sd p=P at *;have R:=hp.bj;have h2:=hp.id;have h3:=hp.bg;have h4:=hp.aw;have o:=hp.src;have r:=hp.dst
 conv=>whnf
 refine Is ⟨⟨_,_,F266⟩,Apv p.bj 255 j_⟩ q_ q_ q_ q_ q_ q_ ?_;refine oF ?_;refine Is ⟨⟨_,_,F266⟩,Apv p.bg 255 j_⟩ q_ q_ q_ q_ q_ q_ ?_;refine oF ?_;refine Is ⟨⟨_,_,F266⟩,Apv p.aw 255 j_⟩ q_ q_ q_ q_ q_ q_ ?_;refine oF ?_;refine Is ⟨⟨_,_,F266⟩,Apv p.id 65535 j_⟩ q_ q_ q_ q_ q_ q_ ?_;refine oF ?_;constructor<;>intro h
 .rw[zE (qA h)]at i;subst i;refine oO ?_;exact Ar 2 1 Ae q_ dN
 have hl:p.body.length<=1480:=qB h;rw[zD j_]at i;subst i;clear h;have az:Oy p=((Kr p 0).set 10 (UInt8.ofNat (Mm p/256))).set 11 (UInt8.ofNat (Mm p))++p.body:=by rw[A0p,Oy]
 rw[az];have g:=Ox p 0;have t:=sumOfS (Kr p 0) (by rw[g];decide) (by rw[g]);have I:=Bbw [17664+p.bj,20+p.body.length,p.id,0,p.bg*256+p.aw,0,p.src/65536,p.src,p.dst/65536,p.dst] qx;rw[show V8 [17664+p.bj,20+p.body.length,p.id,0,p.bg*256+p.aw,0,p.src/65536,p.src,p.dst/65536,p.dst]=Kr p 0 from rfl]at I;have j:Amz (Kr p 0)=Mm p:=rfl;rw[j]at t;have ny:Mm p<=65535:=Nat.sub_le _ _;generalize Mm p=s at *;have J:=Mz s;have o1:=Baq p.bj R;have o2:=Bex p.bg p.aw h3 h4;have g1:=Avr p.src o;have g2:=A29 p.src o;have g3:=Avr p.dst r;have g4:=A29 p.dst r;generalize Kr p 0=b at *;refine gG ?_;refine⟨by decide,?_⟩
 conv=>whnf
 refine⟨by decide,?_⟩
 conv=>whnf
 refine⟨by decide,?_⟩
 conv=>whnf
 refine Axe 68 (e:=Ba0) (l:=[17664+p.bj,20+p.body.length,p.id,0,p.bg*256+p.aw,0,p.src/65536,p.src,p.dst/65536,p.dst]) q_ ?_ ?_
 .show _=[SV.val (.int .i64 (bits .or .i64 17664 (p.bj:Int))),SV.val _,SV.val _,SV.val _,SV.val (.int .i64 (bits .or .i64 (IntKind.i64.wrap ((p.bg:Int) * 2 ^ min (Int.toNat 8) IntKind.i64.bits)) (p.aw:Int))),SV.val _,
   SV.val (.int .i64 (IntKind.i64.wrap ((p.src:Int).fdiv (2 ^ (min (Int.toNat 16) IntKind.u32.bits))))),SV.val (.int .i64 (IntKind.i64.wrap (p.src:Int))),SV.val (.int .i64 (IntKind.i64.wrap ((p.dst:Int).fdiv (2 ^ (min (Int.toNat 16) IntKind.u32.bits))))),SV.val (.int .i64 (IntKind.i64.wrap (p.dst:Int)))]
  rw[o1,o2,g1,g2,g3,g4];rfl
 refine Ao 68 q_ ?_;refine Al (Ad [(0,69)] q_ F267 I q_ z_ q_ ⟨.inr q_,z_⟩) q_ q_ (oO ?_);refine Agj [69] t F268 q_ (.cons (.row q_ q_) .nil) q_ q_ q_ ?_;refine oO ?_;have ff:=(List.cons.inj J).1;have d6:=(List.cons.inj (List.cons.inj J).2).1;refine⟨by omega,?_⟩
 conv=>whnf
 refine⟨by decide,by rw[g];decide,?_⟩
 conv=>whnf
 refine⟨q_,by rw[g];decide,UInt8.ofNat (s/256),zH (λz=>[z]) ff,q_,?_⟩
 conv=>whnf
 refine⟨by decide,by simp[g],?_⟩
 conv=>whnf
 refine⟨q_,by simp[g],UInt8.ofNat s,zH (λz=>[z]) d6,q_,?_⟩
 conv=>whnf
 exact Al (Ah Γ.toTy 84 q_ q_ q_ q_ q_ (.row q_) .sl qq (by simp[g];omega) (by simp[g];omega)) q_ q_ (Ao 84 q_ gM)
def A67(p:Dv):Dv×Int:=if p.bg<=1 then (noP,13) else (Avq p,0)
def ipHopS(p:Dv)(o:p.body.length<100000)(r:p.bg<=255):Sp 317 [Ab5 p] (.tup [Ab5 (A67 p).1,Aa (A67 p).2]):=cT F317 ntmps317 λF t=>by
 have g:=A67.eq_1 p;generalize A67 p=i at *;have j:=aJ p.body j_
 conv=>whnf
 constructor<;>intro h
 .rw[zE (qA h)]at g;subst g;refine oO ?_;exact An 2 zP q_ vL dN
 have l:¬p.bg<=1:=qB h;rw[zD l]at g;subst g;have e:((p.bg-1:Nat):Int)=(p.bg:Int)-1:=by omega
 refine gG ?_;refine gF j F309 ?_;refine Av q_ (.cons (.cell q_ q_ q_ q_) As) ?_ q_;show SV.tup [.agg [_,_,Aa ((p.bg-1:Nat):Int),_,_,_,_],_]=SV.tup [.agg [_,_,Aa ((p.bg:Int)-1),_,_,_,_],_];rw[e];rfl
def udpU(b:List UInt8):Nat->List SV
 |0=>[Aa 0,Aa 0,Aa 0,Aa 0]
 |1=>[Aa (Cd b 0 2),Aa 0,Aa 0,Aa 0]
 |2=>[Aa (Cd b 0 2),Aa (Cd b 2 2),Aa 0,Aa 0]
 |3=>[Aa (Cd b 0 2),Aa (Cd b 2 2),Aa (Cd b 4 2),Aa 0]
 |_=>[Aa (Cd b 0 2),Aa (Cd b 2 2),Aa (Cd b 4 2),Aa (Cd b 6 2)]
def A82(b:List UInt8)(R:b.length<100000):Sp 418 [.sl 1 Ae b] (.tup [Aa (B9 b).1,Aa (B9 b).2.1,.sl 1 Ae (B9 b).2.2.1,Aa (B9 b).2.2.2]):=cT F418 ntmps418 λF hF=>by
 have g:=B9.eq_1 b;generalize B9 b=t at *
 conv=>whnf
 constructor<;>intro h
 .rw[zE (qA h)]at g;subst g;refine oO ?_;exact Ar 4 1 Ae q_ dN
 have h8:8<=b.length:=qB h;rw[zD j_]at g;clear h;have i:=M8 (b[0]'j_) (b[1]'j_);rw[<-oX (show 0+2<=b.length by omega)]at i;have l:=M8 (b[2]'j_) (b[3]'j_);rw[<-oX (show 2+2<=b.length by omega)]at l;have o:=M8 (b[4]'j_) (b[5]'j_);rw[<-oX (show 4+2<=b.length by omega)]at o;have p:=M8 (b[6]'j_) (b[7]'j_);rw[<-oX (show 6+2<=b.length by omega)]at p;refine oO ?_;refine Bl 4 (λj=>[(0,.sl 1 Ae b),(6,.ptr 6 0),(11,Aa j)]) (λj=>[(6,.box (udpU b j))]) [] kU ?_;intro j hj;have I:j=0\/j=1\/j=2\/j=3\/j=4:=by omega
 rcases I with rfl|rfl|rfl|rfl|rfl
 .refine oT ?_;refine iW ?_;refine⟨q_,by omega,by omega,?_⟩
  conv=>whnf
  refine⟨by decide,?_⟩
  conv=>whnf
  refine iW ?_;refine iW ?_;refine⟨q_,by omega,by omega,?_⟩
  conv=>whnf
  refine⟨by decide,by decide,?_⟩
  conv=>whnf
  refine kW ?_;refine iW ?_;exact A9 [] qq ⟨kA,⟨.inl (zH (λz:Int=>Ob.box [Aa z,Aa 0,Aa 0,Aa 0]) i.symm),q_,z_⟩,q_,q_⟩
 .refine oT ?_;refine iW ?_;refine⟨q_,by omega,by omega,?_⟩
  conv=>whnf
  refine⟨by decide,?_⟩
  conv=>whnf
  refine iW ?_;refine iW ?_;refine⟨q_,by omega,by omega,?_⟩
  conv=>whnf
  refine⟨by decide,by decide,?_⟩
  conv=>whnf
  refine kW ?_;refine iW ?_;exact A9 [] qq ⟨kA,⟨.inl (zH (λz:Int=>Ob.box [Aa (Cd b 0 2),Aa z,Aa 0,Aa 0]) l.symm),q_,z_⟩,q_,q_⟩
 .refine oT ?_;refine iW ?_;refine⟨q_,by omega,by omega,?_⟩
  conv=>whnf
  refine⟨by decide,?_⟩
  conv=>whnf
  refine iW ?_;refine iW ?_;refine⟨q_,by omega,by omega,?_⟩
  conv=>whnf
  refine⟨by decide,by decide,?_⟩
  conv=>whnf
  refine kW ?_;refine iW ?_;exact A9 [] qq ⟨kA,⟨.inl (zH (λz:Int=>Ob.box [Aa (Cd b 0 2),Aa (Cd b 2 2),Aa z,Aa 0]) o.symm),q_,z_⟩,q_,q_⟩
 .refine oT ?_;refine iW ?_;refine⟨q_,by omega,by omega,?_⟩
  conv=>whnf
  refine⟨by decide,?_⟩
  conv=>whnf
  refine iW ?_;refine iW ?_;refine⟨q_,by omega,by omega,?_⟩
  conv=>whnf
  refine⟨by decide,by decide,?_⟩
  conv=>whnf
  refine kW ?_;refine iW ?_;exact A9 [] qq ⟨kA,⟨.inl (zH (λz:Int=>Ob.box [Aa (Cd b 0 2),Aa (Cd b 2 2),Aa (Cd b 4 2),Aa z]) p.symm),q_,z_⟩,q_,q_⟩
 clear i l o p;refine oF ?_;refine⟨by decide,by decide,?_⟩
 conv=>whnf
 constructor<;>intro h
 .rw[zE (qA h)]at g;subst g;refine oO ?_;exact Ar 4 1 Ae q_ dN
 have r:8<=Cd b 4 2:=qB h;rw[zD j_]at g;clear h;refine oO ?_;refine⟨by decide,by decide,?_⟩
 conv=>whnf
 constructor<;>intro h
 .rw[zE (qA h)]at g;subst g;refine oO ?_;exact Ar 4 1 Ae q_ dN
 have J:Cd b 4 2<=b.length:=qB h;rw[zD j_]at g;clear h;refine oO ?_;refine⟨by decide,by decide,?_⟩
 conv=>whnf
 constructor<;>intro h
 .rw[zE (by have:(Cd b 6 2:Int)≠0:=(kS h);omega)]at g;subst g;refine oO ?_;exact Ar 4 1 Ae q_ dN
 rw[zD (by have:(Cd b 6 2:Int)=0:=(kS h);omega)]at g;subst g;clear h;have P:=aJ ((b.take (Cd b 4 2)).drop 8) (by rw[yP,zY];omega);refine oO ?_;refine⟨by decide,by decide,?_⟩
 conv=>whnf
 refine⟨by decide,by decide,?_⟩
 conv=>whnf
 refine⟨by decide,by decide,?_⟩
 conv=>whnf
 refine C6 (Hx (lo:=8) (hi:=Cd b 4 2) Γ.toTy q_ q_ q_ q_ (.inr ⟨_,_,q_,q_⟩) (.inr ⟨_,_,q_,q_⟩) r J) y_ q_ (oD ?_);refine cD P F309 (gO ?_);exact dN
def Bd7(src dst:Nat)(body:List UInt8)(P:src<=65535)(R:dst<=65535)(h3:body.length<=1472):Sp 386 [Aa src,Aa dst,.sl 1 Ae body] (.tup [.sl 1 Ae (Ag1 src dst body),Aa 0]):=cT F386 ntmps386 λF hF=>by
 ((conv=>whnf);refine aF ?_;refine rg ?_;conv=>whnf)
 (refine⟨λh=>False.elim (by simp at h;omega),λ_=>?_⟩;refine rg ?_;(conv=>whnf);refine aF ?_;refine rg ?_;(conv=>whnf);refine⟨λh=>False.elim (by simp at h;omega),λ_=>?_⟩;refine rg ?_;(conv=>whnf);refine⟨λh=>False.elim (by simp at h;omega),λ_=>?_⟩;refine rg ?_;conv=>whnf)
 refine iW ?_;refine Ct 8 1000 1 Ae q_ q_ ?_;refine Al (dV Γ.toTy q_ q_ q_ q_ q_ q_) q_ q_ (oO ?_);have key:∀(x:Nat) (pre:List Nat),pre.length<=4->E8 (pre++[x])=E8 pre++[UInt8.ofNat (x/256),UInt8.ofNat x]:=λx pre _=>Tv pre x
 have p:∀l:List Nat,(E8 l).length=2*l.length:=Xu;obtain ⟨ws,r⟩:∃ws:List Nat,ws=[src,dst,8+body.length,0]:=⟨_,rfl⟩
 refine Bl 4 (λj=>[(2,.sl 1 Ae body),(8,.osl 1000),(35,.agg [Aa src,Aa dst,Aa (8+body.length:Nat),Aa 0]),(36,Aa j)]) (λj=>[(1000,.row 1 Ae (E8 (ws.take j)))]) [] ⟨kA,⟨.inl (zH (Ob.row 1 Ae) (by simp[E8])),q_,z_⟩,q_,q_⟩ ?_;intro j hj;have J:j=0\/j=1\/j=2\/j=3\/j=4:=by omega
 rcases J with rfl|rfl|rfl|rfl|rfl
 .have i:E8 (ws.take 1)=E8 (ws.take 0)++[UInt8.ofNat (src/256),UInt8.ofNat src]:=by subst r;exact Tv [] src
  have g:=p (ws.take 0);have t:(ws.take 0).length<=4:=by rw[zY];omega
  have o:=Mz src;refine oT ?_;refine Al (B5 (k:=.int .i64) Γ.toTy q_ q_ q_ Tryz.underlying3 q_ q_ qq qq q_) q_ q_ (oO ?_);refine⟨by decide,?_⟩
  conv=>whnf
  refine Al (Ah Γ.toTy 46 q_ q_ q_ q_ q_ (.row q_) (.lit (e:=Ae) (l:=[UInt8.ofNat (src/256),UInt8.ofNat src]) q_ o) qx (by rw[g];simp only[yI,xG];omega) (by rw[g];simp only[yI,xG];omega)) q_ q_ (gG ?_);exact A9 [(1000,46)] qq ⟨kA,⟨.inl (zH (Ob.row 1 Ae) i),q_,z_⟩,q_,q_⟩
 .have i:E8 (ws.take 2)=E8 (ws.take 1)++[UInt8.ofNat (dst/256),UInt8.ofNat dst]:=by subst r;exact Tv [src] dst
  have g:=p (ws.take 1);have t:(ws.take 1).length<=4:=by rw[zY];omega
  have o:=Mz dst;refine oT ?_;refine Al (B5 (k:=.int .i64) Γ.toTy q_ q_ q_ Tryz.underlying3 q_ q_ qq qq q_) q_ q_ (oO ?_);refine⟨by decide,?_⟩
  conv=>whnf
  refine Al (Ah Γ.toTy 46 q_ q_ q_ q_ q_ (.row q_) (.lit (e:=Ae) (l:=[UInt8.ofNat (dst/256),UInt8.ofNat dst]) q_ o) qx (by rw[g];simp only[yI,xG];omega) (by rw[g];simp only[yI,xG];omega)) q_ q_ (gG ?_);exact A9 [(1000,46)] qq ⟨kA,⟨.inl (zH (Ob.row 1 Ae) i),q_,z_⟩,q_,q_⟩
 .have i:E8 (ws.take 3)=E8 (ws.take 2)++[UInt8.ofNat ((8+body.length)/256),UInt8.ofNat (8+body.length)]:=by subst r;exact Tv [src,dst] (8+body.length)
  have g:=p (ws.take 2);have t:(ws.take 2).length<=4:=by rw[zY];omega
  have o:=Mz (8+body.length);refine oT ?_;refine Al (B5 (k:=.int .i64) Γ.toTy q_ q_ q_ Tryz.underlying3 q_ q_ qq qq q_) q_ q_ (oO ?_);refine⟨by decide,?_⟩
  conv=>whnf
  refine Al (Ah Γ.toTy 46 q_ q_ q_ q_ q_ (.row q_) (.lit (e:=Ae) (l:=[UInt8.ofNat ((8+body.length)/256),UInt8.ofNat (8+body.length)]) q_ o) qx (by rw[g];simp only[yI,xG];omega) (by rw[g];simp only[yI,xG];omega)) q_ q_ (gG ?_);exact A9 [(1000,46)] qq ⟨kA,⟨.inl (zH (Ob.row 1 Ae) i),q_,z_⟩,q_,q_⟩
 .have i:E8 (ws.take 4)=E8 (ws.take 3)++[UInt8.ofNat (0/256),UInt8.ofNat 0]:=by subst r;exact Tv [src,dst,8+body.length] 0
  have g:=p (ws.take 3);have t:(ws.take 3).length<=4:=by rw[zY];omega
  have o:=Mz 0;refine oT ?_;refine Al (B5 (k:=.int .i64) Γ.toTy q_ q_ q_ Tryz.underlying3 q_ q_ qq qq q_) q_ q_ (oO ?_);refine⟨by decide,?_⟩
  conv=>whnf
  refine Al (Ah Γ.toTy 46 q_ q_ q_ q_ q_ (.row q_) (.lit (e:=Ae) (l:=[UInt8.ofNat (0/256),UInt8.ofNat 0]) q_ o) qx (by rw[g];simp only[yI,xG];omega) (by rw[g];simp only[yI,xG];omega)) q_ q_ (gG ?_);exact A9 [(1000,46)] qq ⟨kA,⟨.inl (zH (Ob.row 1 Ae) i),q_,z_⟩,q_,q_⟩
 have g:=p (ws.take 4);have e:ws.take 4=[src,dst,8+body.length,0]:=by rw[r];rfl
 rw[e]at g|-;have I:(E8 [src,dst,8+body.length,0]).length=8:=g;refine oF ?_;exact Al (Ah Γ.toTy 50 q_ q_ q_ q_ q_ (.row q_) .sl qx (by rw[I];simp;omega) (by rw[I];omega)) q_ q_ (Ao 50 q_ gM)
def A83(a b:Nat)(i:a<18446744073709551616)(j:b<18446744073709551616):Sp 387 [B1 a,B1 b] (Aa (Qy a b:Nat)):=cT F387 ntmps387 λF p=>by
 have l:=bits_xor_u64_nat a b i j;have g:((a^^^b:Nat):Int).tmod 16384=(((a^^^b)%16384:Nat):Int):=by rw[uE j_];omega
 have r:=tQ (a^^^b) (show 0<16384 by decide);have o:IntKind.i64.wrap (((a^^^b)%16384:Nat):Int)=(((a^^^b)%16384:Nat):Int):=by rw[IntKind.wrap_i64];omega
 conv=>whnf
 refine⟨by decide,?_⟩;rw[l,g]
 conv=>whnf
 rw[o];refine iW ?_;refine Av q_ As ?_ q_;refine zH (λz:Int=>SV.val (.int .i64 z)) ?_;rw[Qy];omega
def A3j(v:Int)(h:bI v=true):Sp 385 [Aa v] (.tup [.sl 1 Ae [],Aa 17]):=cT F385 ntmps385 λF j=>by
 simp only[bI,yR,zK]at h
 conv=>whnf
 constructor<;>intro i
 .refine oT ?_;exact Ar 2 1 Ae q_ dN
 refine oO ?_;refine⟨λg=>?_,λg=>zW (zQ g) (by have:=zQ i;omega)⟩;refine oO ?_;exact Ar 2 1 Ae q_ dN
def A8t{v:Int}(h:bI v=false):1<=v/\v<=16777215:=by
 simp only[bI,wY,yC]at h;omega
def A68(k:Nat):(Sg k).map Ae=[SV.val (.int .u8 8),SV.val (.int .u8 0),SV.val (.int .u8 0),SV.val (.int .u8 0),SV.val (.int .u8 (IntKind.u8.wrap ((k:Int).fdiv (2 ^ (min (Int.toNat 16) IntKind.i64.bits))))),
  SV.val (.int .u8 (IntKind.u8.wrap ((k:Int).fdiv (2 ^ (min (Int.toNat 8) IntKind.i64.bits))))),SV.val (.int .u8 (IntKind.u8.wrap (k:Int))),SV.val (.int .u8 0)]:=by
 have g:IntKind.u8.wrap ((k:Int).fdiv (2^(min (Int.toNat 16) IntKind.i64.bits)))=((UInt8.ofNat (k/65536)).toNat:Int):=by
  show IntKind.u8.wrap ((k:Int).fdiv 65536)=_;rw[wM _ qq,IntKind.wrap_u8];simp
 have i:IntKind.u8.wrap ((k:Int).fdiv (2^(min (Int.toNat 8) IntKind.i64.bits)))=((UInt8.ofNat (k/256)).toNat:Int):=by
  show IntKind.u8.wrap ((k:Int).fdiv 256)=_;rw[wM _ qq,IntKind.wrap_u8];simp
 have j:=u8_of k;rw[g,i,j];rfl
def Bca(k:Nat)(h:1<=k/\k<=16777215):Sq 385 [Aa k] [] (.tup [.osl 0,Aa 0]) [(0,.row 1 Ae (Sg k))]:=cT F385 ntmps385 λF j=>by
 have i:=A68 k
 conv=>whnf
 refine⟨λg=>zW (zO g) j_,λ_=>?_⟩;refine oO ?_;refine⟨λg=>zW (zO g) j_,λ_=>?_⟩;refine oO ?_;refine⟨by decide,?_⟩
 conv=>whnf
 refine⟨by decide,?_⟩
 conv=>whnf
 refine Wu 18 Ae (Sg k) q_ i ?_;exact done q_ (.cons .tmp As) [(0,18)] [(0,.row 1 Ae (Sg k))] (λ_ h=>h) q_ q_ kU
def A72(a b:List UInt8):((⟨a.toArray⟩:ByteArray)==(⟨b.toArray⟩:ByteArray))=decide (a=b):=by
 have key:=Go.MapKept.bytes_beq (⟨a.toArray⟩:ByteArray) ⟨b.toArray⟩;by_cases h:a=b
 .subst h;rw[zL rfl];exact key.2 q_
 .rw[zJ h];cases g:((⟨a.toArray⟩:ByteArray)==(⟨b.toArray⟩:ByteArray)) with
  |false=>rfl
  |true=>
   have:=zH (λz:ByteArray=>z.data.toList) (key.1 g);exact zW (kS this) h
def A87(x y z:UInt8):bits .or .i64 (bits .or .i64 (IntKind.i64.wrap ((IntKind.i64.wrap (x.toNat:Int))*2^min (Int.toNat 16) IntKind.i64.bits)) (IntKind.i64.wrap ((IntKind.i64.wrap (y.toNat:Int))*2^min (Int.toNat 8) IntKind.i64.bits))) (IntKind.i64.wrap (z.toNat:Int))
  = (((x.toNat*256+y.toNat)*256+z.toNat:Nat):Int):=by
 have p:=x.toNat_lt;have r:=y.toNat_lt;have t:=z.toNat_lt;have g:IntKind.i64.wrap (x.toNat:Int)=(x.toNat:Int):=by rw[IntKind.wrap_i64];omega
 have j:IntKind.i64.wrap (y.toNat:Int)=(y.toNat:Int):=by rw[IntKind.wrap_i64];omega
 have l:IntKind.i64.wrap (z.toNat:Int)=(z.toNat:Int):=by rw[IntKind.wrap_i64];omega
 rw[g,j,l];have f1:IntKind.i64.wrap ((x.toNat:Int)*2^min (Int.toNat 16) IntKind.i64.bits)=((x.toNat*65536:Nat):Int):=by
  show IntKind.i64.wrap ((x.toNat:Int)*65536)=_;rw[IntKind.wrap_i64];omega
 have f2:IntKind.i64.wrap ((y.toNat:Int)*2^min (Int.toNat 8) IntKind.i64.bits)=((y.toNat*256:Nat):Int):=by
  show IntKind.i64.wrap ((y.toNat:Int)*256)=_;rw[IntKind.wrap_i64];omega
 rw[f1,f2,Jp _ _ j_ j_];have o:x.toNat*65536|||y.toNat*256=x.toNat*65536+y.toNat*256:=by
  have h:=xX (i:=16) (b:=y.toNat*256) j_ x.toNat;rw[vJ x.toNat 65536];exact h.symm
 rw[o,Jp _ _ j_ j_];refine zH (λn:Nat=>(n:Int)) ?_;have h:256*(x.toNat*256+y.toNat)+z.toNat=256*(x.toNat*256+y.toNat)|||z.toNat:=xX (i:=8) (b:=z.toNat) j_ (x.toNat*256+y.toNat);have e:x.toNat*65536+y.toNat*256=256*(x.toNat*256+y.toNat):=by omega
 rw[e,<-h];omega
def vniS(b:List UInt8)(hb:b.length<100000):Sp 419 [.sl 1 Ae b] (.tup [Aa (Qb b).1,.sl 1 Ae (Qb b).2.1,Aa (Qb b).2.2]):=cT F419 ntmps419 λF hF=>by
 have g:=Qb.eq_1 b;generalize Qb b=t at *
 conv=>whnf
 constructor<;>intro h
 .rw[zE (qA h)]at g;subst g;refine oO ?_;exact Ar 3 1 Ae q_ dN
 have l:8<=b.length:=qB h;rw[zD j_]at g;clear h;have o:(4:Int).toNat<b.length:=by show 4<_;omega
 have p:(5:Int).toNat<b.length:=by show 5<_;omega
 have r:(6:Int).toNat<b.length:=by show 6<_;omega
 have I:bits .or .i64 (bits .or .i64 (IntKind.i64.wrap ((IntKind.i64.wrap ((b[(4:Int).toNat]'o).toNat:Int))*2^min (Int.toNat 16) IntKind.i64.bits)) (IntKind.i64.wrap ((IntKind.i64.wrap ((b[(5:Int).toNat]'p).toNat:Int))*2^min (Int.toNat 8) IntKind.i64.bits))) (IntKind.i64.wrap ((b[(6:Int).toNat]'r).toNat:Int))
   = (Cd b 4 3:Int):=by
  rw[A87,numAt3 (show 4+3<=b.length by omega)];rfl
 have jc:=Yp b 4 3;refine oO ?_;refine⟨q_,by decide,o,?_⟩
 conv=>whnf
 refine⟨by decide,?_⟩
 conv=>whnf
 refine⟨q_,by decide,p,?_⟩
 conv=>whnf
 refine⟨by decide,?_⟩
 conv=>whnf
 refine⟨q_,by decide,r,?_⟩
 conv=>whnf
 refine⟨y_,?_⟩;rw[I];generalize J:Cd b 4 3=v at *
 conv=>whnf
 by_cases j:v=0
 .rw[zE (.inl j)]at g;subst g;have q:=A3j v (by rw[j];decide);refine c0 q F385 ?_
  (refine rg ?_;(conv=>whnf);refine aT ?_;refine oD ?_)
  refine⟨y_,?_⟩
  ((conv=>whnf);refine aT ?_;refine rg ?_;conv=>whnf)
  exact Ar 3 1 Ae q_ dN
 have q:=Bca v j_;refine Al (Ad [(0,55)] q_ F385 q q_ z_ q_ ⟨.inr q_,z_⟩) q_ q_ (Ao 55 q_ ?_)
 (refine rg ?_;(conv=>whnf);refine aF ?_;refine oD ?_)
 refine C6 (Cz Γ.toTy (bs:=Sg v) q_ q_ q_ q_ q_ q_ q_ .sl) y_ q_ (oD ?_);refine C6 (Hx (lo:=0) (hi:=8) Γ.toTy q_ q_ q_ q_ (.inl ⟨q_,q_⟩) (.inr ⟨_,_,q_,q_⟩) j_ l) y_ q_ (oD ?_);refine C6 (Cz Γ.toTy (bs:=b.take 8) q_ q_ q_ q_ q_ q_ q_ .sl) y_ q_ (gO ?_);have P:=A72 (Sg v) (b.take 8);rw[P];by_cases i:b.take 8=Sg v;rotate_left
 .rw[zE (.inr i)]at g;subst g;rw[zJ (λe=>i e.symm)];refine⟨λ_=>?_,λh=>zW h qq⟩;refine oO ?_;exact Ar 3 1 Ae q_ dN
 rw[zD (λh=>h.elim j (λR=>R i))]at g;subst g;rw[zL i.symm];have yb:(b.take b.length).drop 8=b.drop 8:=by rw[yM]
 refine⟨λh=>zW h qq,λ_=>?_⟩;refine oO ?_;refine Al (Hx (lo:=8) (hi:=b.length) Γ.toTy q_ q_ q_ q_ (.inr ⟨_,_,q_,q_⟩) (.inl ⟨q_,q_⟩) l (yG _)) q_ q_ (oO ?_);refine Al (Ah Γ.toTy 45 q_ q_ q_ q_ q_ .nil .sl qx kO kO) q_ q_ ?_;refine Ao 45 q_ (oO ?_);refine Av q_ (.cons .tmp (.cons .tmp As)) ?_ q_;show SV.tup [_,.sl 1 Ae (b.drop 8),_]=SV.tup [_,.sl 1 Ae ([]++(b.take b.length).drop 8),_];rw[yb];rfl
def Avg(a c v:Nat)(f:Bg)(h:f.body.length<=1450):Sd (Sw a c v f)=(Oy (Sw a c v f),0):=by
 rw[Sd,zD (by rw[U6];omega)]
def Axw(a b:Nat):Qy a b<=65535:=by
 have:=tQ (a^^^b) (show 0<16384 by decide);unfold Qy;omega
def Bal(a c v:Nat)(f:Bg)(g:a<4294967296)(i:c<4294967296)(h:f.body.length<=1450):Cf ⟨I4 c,I4 a,2048,Oy (Sw a c v f)⟩ :=
 ⟨dH c i,dH a g,by show (2048:Nat)<=65535;decide,by show (Oy (Sw a c v f)).length<=1504;rw[Qo,U6];omega⟩
def Bd3(a c:Nat)(v:Int)(f:Bg)(p:a<4294967296)(r:c<4294967296)(i:Cf f):Sp 323 [Bo a,Bo c,Aa v,Ek f] (.tup [.sl 1 Ae (Wy a c v f).1,Aa (Wy a c v f).2]):=cT F323 ntmps323 λF hF=>by
 have g:=Wy.eq_1 a c v f;generalize Wy a c v f=P at *;have j:=fA f;have hd:=i.dst;have hs:=i.src;have hb:=i.body;have t:=Js f
 conv=>whnf
 refine Bi 7 4 (Ek f) q_ q_ q_ ?_;by_cases l:f.au=33024
 .rw[zE l]at g;subst g;rw[zL l]at j;refine oO ?_;refine c0 j F207 (oT ?_);exact Ar 8 1 Ae q_ dN
 rw[zD l]at g;rw[zJ l]at j;refine oO ?_;refine c0 j F207 (oF ?_);refine Al (Ad [(0,55)] q_ F19 (Tj f i) q_ z_ q_ ⟨.inr q_,z_⟩) q_ q_ ?_;refine Ao 55 q_ (oF ?_);cases o:bI v;rotate_left
 .rw[zE o]at g;subst g;refine c0 (A3j v o) F385 (oT ?_);exact Ar 8 1 Ae q_ dN
 rw[zD (by rw[o];decide)]at g;have R:=A8t o;obtain ⟨k,rfl⟩:=xK (show 0<=v by omega);rw[yA]at g;refine Al (Ad [(0,56)] q_ F385 (Bca k j_) q_ z_ q_ ⟨.inr q_,z_⟩) q_ q_ (oF ?_);constructor<;>intro h
 .rw[zE (qA h)]at g;subst g;refine oO ?_;exact Ar 8 1 Ae q_ dN
 have I:f.body.length<=1450:=qB h;rw[zD j_]at g;subst g;clear h;have qp:=A83 f.dst f.src j_ j_;have mg:=Axw f.dst f.src;have qu:=Bd7 (Qy f.dst f.src) 4789 (Sg k++Vc f) mg qq (by rw[zR,Lb,t];omega);have a0:(Sw a c k f).body=Ag1 (Qy f.dst f.src) 4789 (Sg k++Vc f):=rfl;have J:=Aqu (Sw a c k f) (A8n a c k f p r) (by rw[U6];omega);rw[Avg a c k f I]at J;have qe:=Tj _ (Bal a c k f p r I);refine oO ?_;refine gF qp F387 ?_;refine Al (Ah Γ.toTy 46 q_ q_ q_ q_ q_ (.row q_) .sl qq (by rw[Lb,t];simp;omega) (by rw[Lb,t];omega)) q_ q_ ?_;refine Ao 46 q_ (oO ?_);refine gF qu F386 ?_;refine gF J F204 ?_;refine gF (An0 c r) F205 ?_;refine gF (An0 a p) F205 ?_;exact Al (Ad [(0,57)] q_ F19 qe q_ z_ q_ ⟨.inr q_,z_⟩) q_ q_ (Ao 57 q_ gM)
def Jk(p:Dv)(v e:Int):List SV:=[Aa p.bj,Aa p.id,Aa p.bg,Aa p.aw,Bo p.src,Bo p.dst,.sl 1 Ae p.body,Aa v,Aa e]
def Ht(is:Bool)(g e:Int):Int:=if is=true/\g=0 then e else g
def Ac5(p:Dv)(v g:Int)(is:Bool)(e:Int):Sq 417 [.ptr 0 0,Ab is,Aa e] [(0,.box (Jk p v g))] (.tup []) [(0,.box (Jk p v (Ht is g e)))]:=cT F417 ntmps417 λF o=>by
 cases is
 .have h:Ht false g e=g:=by simp[Ht]
  rw[h]
  ((conv=>whnf);refine aF ?_;refine rg ?_;(conv=>whnf);refine aF ?_;refine rg ?_;conv=>whnf)
  exact Bf q_ .nil [] [(0,.box (Jk p v g))] (λ_ h=>h) q_ q_ kU
 ·((conv=>whnf);refine aT ?_;refine rg ?_;conv=>whnf)
  constructor<;>intro h
  .have i:Ht true g e=e:=by show (if true=true/\g=0 then e else g)=e;rw[zE ⟨rfl,kS h⟩]
   rw[i];refine oO ?_;exact Bf q_ .nil [] [(0,.box (Jk p v e))] (λ_ h=>h) q_ q_ kU
  .have i:Ht true g e=g:=by
    show (if true=true/\g=0 then e else g)=g;rw[zD (λ j=>by
     have l:¬ g=0:=kS h;exact l j.2)]
   rw[i];refine oO ?_;exact Bf q_ .nil [] [(0,.box (Jk p v g))] (λ_ h=>h) q_ q_ kU
def Ber(b:List UInt8)(hb:b.length<100000):Sq 388 [.ptr 0 0,.sl 1 Ae b] [(0,.box (Jk noP 0 0))] (.tup []) [(0,.box (Jk (Eu b).1 0 (Eu b).2))]:=cT F388 ntmps388 λF hF=>by
 have g:=Eu.eq_1 b;generalize Eu b=o at *;have I:=aD b hb;have ew:=@A4m b;have J:=@bQ b;generalize Dw b=tk at *;obtain ⟨f,e⟩:=tk;dsimp only at g I ew J
 conv=>whnf
 refine gF I F121 ?_;refine Al (Ad [(0,0)] q_ F417 (Ac5 noP 0 0 true e) q_ ⟨q_,z_⟩ q_ ⟨.inl q_,z_⟩) q_ q_ ?_;rw[show Ht true 0 e=e by simp[Ht]];refine oO ?_;refine Al (Ad [(0,0)] q_ F417 (Ac5 noP 0 e ((f.au:Int) != 2048) 11) q_ ⟨q_,z_⟩ q_ ⟨.inl q_,z_⟩) q_ q_ ?_;by_cases j:e=0;rotate_left
 .rw[zE j]at g;subst g;rw[show Ht ((f.au:Int) != 2048) e 11=e by simp[Ht,j]];refine oO ?_;refine⟨λh=>zW (show e=0 by simpa using h) j,λ_=>?_⟩;refine oO ?_;exact Bf q_ .nil [] [(0,.box (Jk noP 0 e))] (λ_ h=>h) q_ q_ kU
 subst j;rw[zD qx]at g;by_cases P:f.au=2048;rotate_left
 .rw[zE P]at g;subst g;have r:((f.au:Int) != 2048)=true:=by simp;omega
  rw[r,show Ht true 0 11=11 by simp[Ht]];refine oF ?_;exact Bf q_ .nil [] [(0,.box (Jk noP 0 11))] (λ_ h=>h) q_ q_ kU
 rw[zD (λh=>h P)]at g;have r:((f.au:Int) != 2048)=false:=by simp;omega
 rw[r,show Ht false 0 11=0 by simp[Ht]];have a0:=(J rfl).body;have R:=A3e f.body j_;have yc:=@Bgw f.body;generalize Cn f.body=ip at *;obtain ⟨p,i⟩:=ip;dsimp only at g R yc;refine oT ?_;refine gF R F316 ?_;refine Al (Ad [(0,0)] q_ F417 (Ac5 p 0 0 true i) q_ ⟨q_,z_⟩ q_ ⟨.inl q_,z_⟩) q_ q_ ?_;rw[show Ht true 0 i=i by simp[Ht]];refine oO ?_;refine Al (Ad [(0,0)] q_ F417 (Ac5 p 0 i ((p.aw:Int) != 17) 11) q_ ⟨q_,z_⟩ q_ ⟨.inl q_,z_⟩) q_ q_ ?_;have ed:o=(p,Ht ((p.aw:Int) != 17) i 11):=by
  by_cases l:i=0
  .subst l;rw[zD qx]at g;rw[g];simp only[Ht];by_cases t:p.aw=17
   .rw[zD (by simp[t]),zD (by simp[t])]
   .rw[zE t,zE kO]
  .rw[zE l]at g;rw[g,yc l,show Ht ((noP.aw:Int) != 17) i 11=i by simp[Ht,l]]
 rw[ed];refine oO ?_;exact Bf q_ .nil [] [(0,.box (Jk p 0 (Ht ((p.aw:Int) != 17) i 11)))] (λ_ h=>h) q_ q_ kU
def Tg(p:Dv)(e:Int):Bg×Int×Int :=
 if e≠0 then (V9,0,e) else if (B9 p.body).2.2.2≠0 then (V9,0,(B9 p.body).2.2.2) else if (B9 p.body).2.1≠4789 then (V9,0,11)
 else if (Qb (B9 p.body).2.2.1).2.2≠0 then (V9,(Qb (B9 p.body).2.2.1).1,(Qb (B9 p.body).2.2.1).2.2)
 else ((Dw (Qb (B9 p.body).2.2.1).2.1).1,(Qb (B9 p.body).2.2.1).1,
  if (Dw (Qb (B9 p.body).2.2.1).2.1).2≠0 then (Dw (Qb (B9 p.body).2.2.1).2.1).2 else if (Dw (Qb (B9 p.body).2.2.1).2.1).1.au=33024 then 15 else 0)
def frameS(p:Dv)(e:Int)(hb:p.body.length<100000):Sq 389 [.ptr 0 0] [(0,.box (Jk p 0 e))] (Ek (Tg p e).1) [(0,.box (Jk p (Tg p e).2.1 (Tg p e).2.2))]:=cT F389 ntmps389 λF hF=>by
 have g:=Tg.eq_1 p e;generalize Tg p e=a0 at *;have R:=A82 p.body hb;have lp:=@Bdx p.body;generalize B9 p.body=u at *;obtain ⟨u1,j,J,i⟩:=u;dsimp only at g R lp;have q2:=vniS J j_;have jc:=@vniT_body J;generalize Qb J=w at *;obtain ⟨l,P,o⟩:=w;dsimp only at g q2 jc;have q3:=aD P j_;have ew:=@A4m P;generalize Dw P=t at *;obtain ⟨f,t2⟩:=t;dsimp only at g q3 ew
 conv=>whnf
 constructor<;>intro h
 .rw[zE (kS h)]at g;subst g;refine oO ?_;refine An 2 zF q_ vL ?_;exact done q_ (.cons (.cell q_ q_ q_ q_) .nil) [] [(0,.box (Jk p 0 e))] (λ_ h=>h) q_ q_ kU
 have he:e=0:=kS h;clear h;subst he;rw[zD qx]at g;refine oO ?_;refine gF R F418 ?_;refine Al (Ad [(0,0)] q_ F417 (Ac5 p 0 0 true i) q_ ⟨q_,z_⟩ q_ ⟨.inl q_,z_⟩) q_ q_ ?_;rw[show Ht true 0 i=i by simp[Ht]];refine oO ?_;refine Al (Ad [(0,0)] q_ F417 (Ac5 p 0 i (j != 4789) 11) q_ ⟨q_,z_⟩ q_ ⟨.inl q_,z_⟩) q_ q_ ?_;by_cases r:i=0;rotate_left
 .rw[zE r]at g;subst g;rw[show Ht (j != 4789) i 11=i by simp[Ht,r]];refine oO ?_;refine⟨λh=>zW (show i=0 by simpa using h) r,λ_=>?_⟩;refine oO ?_;refine⟨λ_=>?_,λh=>zW (show i=0 by simpa using h) r⟩;refine oO ?_;refine An 2 zF q_ vL ?_;exact done q_ (.cons (.cell q_ q_ q_ q_) .nil) [] [(0,.box (Jk p 0 i))] (λ_ h=>h) q_ q_ kU
 subst r;rw[zD qx]at g;by_cases I:j=4789;rotate_left
 .rw[zE I]at g;subst g;rw[show Ht (j != 4789) 0 11=11 by simp[Ht,I]]
  (refine oF ?_;refine bT ?_)
  refine An 2 zF q_ vL ?_;exact done q_ (.cons (.cell q_ q_ q_ q_) .nil) [] [(0,.box (Jk p 0 11))] (λ_ h=>h) q_ q_ kU
 rw[zD (λh=>h I)]at g;rw[show Ht (j != 4789) 0 11=0 by simp[Ht,I]];refine oT ?_;refine gF q2 F419 ?_;refine Al (Ad [(0,0)] q_ F417 (Ac5 p l 0 true o) q_ ⟨q_,z_⟩ q_ ⟨.inl q_,z_⟩) q_ q_ ?_;rw[show Ht true 0 o=o by simp[Ht]];refine gI ?_ ?_<;>intro h
 .rw[zE (kS h)]at g;subst g;refine oO ?_;refine An 2 zF q_ vL ?_;exact done q_ (.cons (.cell q_ q_ q_ q_) .nil) [] [(0,.box (Jk p l o))] (λ_ h=>h) q_ q_ kU
 have h3:o=0:=kS h;clear h;subst h3;rw[zD qx]at g;refine oO ?_;refine gF q3 F121 ?_;refine Al (Ad [(0,0)] q_ F417 (Ac5 p l 0 true t2) q_ ⟨q_,z_⟩ q_ ⟨.inl q_,z_⟩) q_ q_ ?_;rw[show Ht true 0 t2=t2 by simp[Ht]];refine oO ?_;refine gF (fA f) F207 ?_;refine Al (Ad [(0,0)] q_ F417 (Ac5 p l t2 (decide (f.au=33024)) 15) q_ ⟨q_,z_⟩ q_ ⟨.inl q_,z_⟩) q_ q_ ?_;have ed:Ht (decide (f.au=33024)) t2 15=if t2≠0 then t2 else if f.au=33024 then 15 else 0:=by
  by_cases k1:t2=0
  .subst k1;rw[zD qx];by_cases k2:f.au=33024<;>simp[Ht,k2]
  .rw[zE k1];simp[Ht,k1]
 rw[<-ed]at g;subst g;refine oO ?_;exact done q_ (.cons (.cell q_ q_ q_ q_) .nil) [] [(0,.box (Jk p l (Ht (decide (f.au=33024)) t2 15)))] (λ_ h=>h) q_ q_ kU
def Apl(b:List UInt8):Do b=if (Tg (Eu b).1 (Eu b).2).2.2≠0 then (0,0,0,V9,(Tg (Eu b).1 (Eu b).2).2.2)
  else ((Eu b).1.src,(Eu b).1.dst,(Tg (Eu b).1 (Eu b).2).2.1,(Tg (Eu b).1 (Eu b).2).1,0):=by
 unfold Do;generalize Eu b=o;obtain ⟨p,e⟩:=o;dsimp only;by_cases i:e=0;rotate_left
 .rw[zE i];have r:Tg p e=(V9,0,e):=by rw[Tg,zE i]
  rw[r,zE i]
 subst i;rw[zD qx];unfold Us Tg;rw[zD (show ¬(0:Int)≠0 by simp)];generalize B9 p.body=u;obtain ⟨u1,I,J,P⟩:=u;dsimp only;by_cases g:P=0;rotate_left
 .rw[zE g,zE g,zE g];dsimp only;rw[zE g]
 subst g;simp only[ne_eq,not_true_eq_false,if_false];by_cases j:I=4789;rotate_left
 .simp[j]
 simp only[j,not_true_eq_false,if_false];generalize Qb J=w;obtain ⟨w1,R,w3⟩:=w;dsimp only;by_cases l:w3=0;rotate_left
 .simp[l]
 simp only[l,not_true_eq_false,if_false];generalize Dw R=t;obtain ⟨f,t2⟩:=t;dsimp only;by_cases k1:t2=0
 .by_cases k2:f.au=33024<;>simp[k1,k2]
 .simp[k1]
def A38(b:List UInt8)(l:b.length<100000):Sp 327 [.sl 1 Ae b] (.tup [Bo (Do b).1,Bo (Do b).2.1,Aa (Do b).2.2.1,Ek (Do b).2.2.2.1,Aa (Do b).2.2.2.2]):=cT F327 ntmps327 λF J=>by
 have g:=Apl b;generalize Do b=r at *;have i:=Ber b l;have t:=(Aep b).2;generalize Eu b=o at *;obtain ⟨p,e⟩:=o;dsimp only at g i t;have j:=frameS p e j_;generalize Tg p e=I at *;obtain ⟨f,v,P⟩:=I;dsimp only at g j
 conv=>whnf
 refine An 9 (Jk noP 0 0) q_ vL (oO ?_);refine Al (Ad [(0,9)] q_ F388 i q_ ⟨q_,z_⟩ q_ ⟨.inl q_,z_⟩) q_ q_ (oO ?_);refine Al (Ad [(0,9)] q_ F389 j q_ ⟨q_,z_⟩ q_ ⟨.inl q_,z_⟩) q_ q_ ?_;refine gI ?_ ?_<;>intro h
 .rw[zE (kS h)]at g;subst g;refine oO ?_;refine kW ?_;exact An 5 zF q_ vL dN
 rw[zD (kS h)]at g;subst g;refine oO ?_;refine kW ?_;exact dN
end
section
structure B4 where
 up:List Bool
 al:List (List Bc)
 ai:List (List B0)
 ay:Int
 af:Int
 ap:Nat->Int
def Et(m:B4)(e:Int):B4:=⟨m.up,m.al,m.ai,m.ay,m.af,λi=>if i=e.toNat then m.ap i+1 else m.ap i⟩
def Ec(m:B4)(dom:Int):List B0:=(m.ai[dom.toNat]?).getD []
def Uk(m:B4)(dom:Int):List Bc:=(m.al[dom.toNat]?).getD []
def setQ(m:B4)(dom:Int)(l:List B0):B4:=⟨m.up,m.al,m.ai.set dom.toNat l,m.ay,m.af,m.ap⟩
def M0(m:B4)(dom:Int)(t:List Bc):B4:=⟨m.up,m.al.set dom.toNat t,m.ai,m.ay,m.af,m.ap⟩
def Sz(m:B4)(dom:Int)(q:B0)(e:Int):B4 :=
 if e≠0 then Et m e else if (cN (Ec m dom) q).2=true then setQ m dom (cN (Ec m dom) q).1 else Et m 3
def C5(m:B4)(dom at_:Int):B4×B0×Bool :=
 if Am dom m.ai.length=false then (m,noQ,false)
 else (setQ m dom (Tz (Ec m dom) at_).2.1,(Tz (Ec m dom) at_).1,(Tz (Ec m dom) at_).2.2)
def M4(n:Ai)(m:B4)(port:Int)(b:List UInt8):B4 :=
 if Am port n.g.length=false\/0<=(Af n.g port).ah then m
 else Sz ⟨m.up,m.al,m.ai,m.ay,m.af+1,m.ap⟩ (Ev n port b).1 ⟨port,0,m.af+1,(Ev n port b).2.1⟩ (Ev n port b).2.2
def Ii(n:Ai)(m:B4)(o:My)(origin:Int):B4×List Kt :=
 if o.kind=1 then (m,[⟨o.ac,origin,o.bytes⟩])
 else if o.kind=2 then (Sz m (Ir n o.ac o.bytes).2.1 ⟨(Ir n o.ac o.bytes).1,0,origin,(Ir n o.ac o.bytes).2.2.1⟩ (Ir n o.ac o.bytes).2.2.2,[])
 else if o.kind=3 then (Sz m (Jh n o.bytes).2.1 ⟨-1,(Jh n o.bytes).1,origin,(Jh n o.bytes).2.2.1⟩ (Jh n o.bytes).2.2.2,[])
 else if o.kind=4 then (Sz m o.l ⟨-2,0,origin,o.frame⟩ 0,[])
 else (Et m o.error,[])
def goesL(n:Ai)(m:B4)(origin:Int):List My->B4×List Kt
 |[]=>(m,[])
 |o::l=>((goesL n (Ii n m o origin).1 origin l).1,(Ii n m o origin).2++(goesL n (Ii n m o origin).1 origin l).2)
def X9(n:Ai)(up:List Bool):List Bool:=if okB n up=true then fwdT n up else []
def lZ(n:Ai)(m:B4)(dom:Int)(q:B0):List Bc×List My×Int:=Hz n (X9 n m.up) (Uk m dom) dom q m.ay
def Xf(m:B4)(dom:Int)(r:List Bc×List My×Int):B4 :=
 if r.2.2=2 then Et m 2 else if r.2.2≠0 then Et (M0 m dom r.1) r.2.2 else M0 m dom r.1
def T5(n:Ai)(m:B4)(dom at_:Int):B4×List Kt :=
 if (C5 m dom at_).2.2=false then ((C5 m dom at_).1,[])
 else goesL n (Xf (C5 m dom at_).1 dom (lZ n (C5 m dom at_).1 dom (C5 m dom at_).2.1)) (C5 m dom at_).2.1.ad (lZ n (C5 m dom at_).1 dom (C5 m dom at_).2.1).2.1
def lO(m:B4):B4 :=
 let now:=min (m.ay+1) 1099511627776
 ⟨m.up,m.al.map (λt=>Ak7 t now),m.ai,now,m.af,m.ap⟩
def fS(n:Ai)(m:B4)(x:B7):B4×List Kt :=
 if x.kind=1 then (M4 n m x.ac x.bytes,[])
 else if x.kind=2 then T5 n m x.l x.az
 else if x.kind=3 then ((C5 m x.l x.az).1,[])
 else if x.kind=4 then (lO m,[])
 else if x.kind=5 then ((if x.up.length=n.x.length then ⟨x.up,m.al,m.ai,m.ay,m.af,m.ap⟩ else m),[])
 else (m,[])
def Vg(n:Ai):B4:=⟨List.replicate n.x.length true,List.replicate n.c.length [],List.replicate n.c.length [],0,0,λ_=>0⟩
def Ja(n:Ai):B4->List B7->B4×List Kt
 |m,[]=>(m,[])
 |m,x::l=>((Ja n (fS n m x).1 l).1,(fS n m x).2++(Ja n (fS n m x).1 l).2)
def Dg(e:Int):Prop:=0<=e/\e<64
def K2(n:Ai)(d:Int):Prop:=0<=d/\d.toNat<n.c.length
def Tb{n:Ai}{d:Int}(h:Am d n.c.length=true):K2 n d:=by
 have:=Dy h;unfold K2;omega
def Ad7(b:List UInt8):Dg (Dw b).2:=by
 unfold Dw Dg
 repeat' split
 all_goals (dsimp only;omega)
def Ax1(f:Bg):Dg (H1 f).2.2.2:=by
 unfold H1 Dg
 repeat' split
 all_goals (dsimp only;omega)
def Akd(n:Ai)(port:Int)(b:List UInt8):Dg (Ev n port b).2.2:=by
 have j:=Ad7 b;have l:=Ax1 (Dw b).1;have g:∀f i v,Dg (Ld n port f i v).2.2:=λf i v=>by
  unfold Ld Dg
  repeat' split
  all_goals (dsimp only;omega)
 unfold Ev;split
 .unfold Dg;dsimp only;omega
 split
 .exact j
 split
 .split
  .exact l
  .exact g _ _ _
 .exact g _ _ _
def A6z(n:Ai)(port:Int)(b:List UInt8):Dg (Ir n port b).2.2.2:=by
 unfold Ir;split
 .unfold Dg;dsimp only;omega
 .exact Akd _ _ _
def A0d(n:Ai)(port dom:Int)(f:Bg):Dg (Hi n port dom f).2:=by
 unfold Hi;split
 .unfold Dg;dsimp only;omega
 split
 .unfold Dg;dsimp only;omega
 split
 .unfold Dg;dsimp only;omega
 split
 .unfold Dg;dsimp only;omega
 split
 .show Dg (Om f (Af n.c dom).z).2;unfold Om Dg
  repeat' split
  all_goals (dsimp only;omega)
 .unfold Dg;dsimp only;omega
def A35(a b:Nat)(v:Int)(f:Bg):Dg (Wy a b v f).2:=by
 unfold Wy Dg
 repeat' split
 all_goals (dsimp only;omega)
def A6n(n:Ai)(dom g:Int)(f:Bg):Dg (Mc n dom g f).2:=by
 unfold Mc;split
 .unfold Dg;dsimp only;omega
 split
 .unfold Dg;dsimp only;omega
 .exact A35 _ _ _ _
def Af7(b:List UInt8):Dg (Cn b).2:=by
 unfold Cn Dg
 repeat' split
 all_goals (dsimp only;omega)
def Apn(b:List UInt8):Dg (B9 b).2.2.2:=by
 unfold B9 Dg
 repeat' split
 all_goals (dsimp only;omega)
def A8v(b:List UInt8):Dg (Qb b).2.2:=by
 unfold Qb Dg
 repeat' split
 all_goals (dsimp only;omega)
def Azu(b:List UInt8):Dg (Eu b).2:=by
 unfold Eu;split
 .exact Ad7 _
 split
 .unfold Dg;dsimp only;omega
 split
 .exact Af7 _
 .unfold Dg;dsimp only;split<;>omega
def A0r(b:List UInt8):Dg (Us b).2.2:=by
 unfold Us;split
 .exact Apn _
 split
 .unfold Dg;dsimp only;omega
 split
 .exact A8v _
 split
 .exact Ad7 _
 split
 .unfold Dg;dsimp only;omega
 .unfold Dg;dsimp only;omega
def Ash(b:List UInt8):Dg (Do b).2.2.2.2:=by
 unfold Do;split
 .exact Azu _
 split
 .exact A0r _
 .unfold Dg;dsimp only;omega
def A7y(n:Ai)(b:List UInt8):Dg (Jh n b).2.2.2:=by
 unfold Jh;split
 .unfold Dg;dsimp only;omega
 split
 .exact Ash _
 split
 .unfold Dg;dsimp only;omega
 split
 .unfold Dg;dsimp only;omega
 .unfold Dg;dsimp only;omega
def Bb8(n:Ai)(irb:Int)(f:Bg):Dg (Ww n irb f).2.2:=by
 unfold Ww;split
 .unfold Dg;dsimp only;omega
 split
 .unfold Dg;dsimp only;omega
 split
 .exact Af7 _
 split
 .unfold Dg;dsimp only;omega
 split
 .unfold Dg;dsimp only;omega
 split
 .unfold Dg;dsimp only;omega
 .unfold Dg;dsimp only;omega
def Aws(n:Ai)(fw:List Bool)(t:List Bc)(dom:Int)(q:B0)(now:Int):Dg (Hz n fw t dom q now).2.2:=by
 unfold Hz;split
 .unfold Dg;dsimp only;omega
 split
 .split
  .exact Bb8 _ _ _
  .unfold Dg;dsimp only;omega
 .unfold Dg;dsimp only;omega
def A3q{n:Ai}{dev v:Int}(h:I8 n dev v=true):K2 n (Ep n dev v):=by
 have g:0<=Ep n dev v:=by simpa [I8] using h
 have i:Ep n dev v<n.c.length:=Kf _ _;exact⟨g,by omega⟩
def A8x{n:Ai}(l:Ac n=true){port:Int}(hp:Am port n.g.length=true){o:Bool}{j:Int}(h:(Kx (Af n.g port) o j).2=true):K2 n (Ep n (Af n.g port).q (Kx (Af n.g port) o j).1):=by
 have hk:=Dy hp;have r:port.toNat<n.g.length:=by omega
 simp only[Ac,zG]at l;have g:=Cm.1 l.1.1.1.1.1.2 _ r;rw[Aj r]at h|-;generalize n.g[port.toNat]=p at *;simp only[Qj,zG]at g;obtain ⟨⟨⟨⟨⟨⟨⟨⟨g1,I⟩,g3⟩,g4⟩,g5⟩,g6⟩,J⟩,t⟩,g9⟩:=g;unfold Kx at h|-;split
 .rw[zE (by assumption)]at h;have h1:p.native≠0:=kS h;have h2:0<=p.native:=kS I;refine A3q ?_;have P:decide (0<p.native)=true:=by simp;omega
  rw[P,yB]at t;simpa using t
 .rw[zD (by assumption)]at h;split
  .rename_i R;have h5:j∈p.u:=Aqv.1 R;obtain ⟨i,hi,rfl⟩:=yY.1 h5;exact A3q (Cm.1 J i hi)
  .rw[zD (by assumption)]at h;cases h
def Aao{n:Ai}{port:Int}{b:List UInt8}(h:(Ev n port b).2.2=0):K2 n (Ev n port b).1:=by
 unfold Ev at h|-;split
 .rw[zE (by assumption)]at h;cases h
 rename_i j;rw[zD j]at h;have hp:Am port n.g.length=true:=by cases l:Am port n.g.length;exact zW (.inl l) j;rfl
 have r:Ac n=true:=by cases l:Ac n;exact zW (.inr l) j;rfl
 have key:∀f o v,(Ld n port f o v).2.2=0->K2 n (Ld n port f o v).1:=λf o v h=>by
  unfold Ld at h|-;split
  .rw[zE (by assumption)]at h;cases h
  rw[zD (by assumption)]at h;split
  .rw[zE (by assumption)]at h;cases h
  rename_i t;show K2 n (D2 n _ _);rw[D2,zE r];exact A8x r hp (kS t)
 split
 .rename_i g;rw[zE g]at h;exact zW h g
 rename_i g;rw[zD g]at h;split
 .rename_i p;rw[zE p]at h;split
  .rename_i i;rw[zE i]at h;exact zW h i
  .rename_i i;rw[zD i]at h;exact key _ _ _ h
 .rename_i p;rw[zD p]at h;exact key _ _ _ h
def Ano{n:Ai}{port:Int}{b:List UInt8}(h:(Ir n port b).2.2.2=0):K2 n (Ir n port b).2.1:=by
 unfold Ir at h|-;split
 .rw[zE (by assumption)]at h;cases h
 .rename_i g;rw[zD g]at h;exact Aao h
def Atz{n:Ai}(g:Ac n=true){dom:Nat}(l:dom<n.c.length){k:Int}(o:k∈n.c[dom].ae):K2 n k:=by
 simp only[Ac,zG]at g;have:=Cm.1 g.1.1.1.1.1.1.2 _ l;obtain ⟨i,hi,rfl⟩:=yY.1 o;have j:=Cm.1 this i hi;simp only[Yn,zG]at j;exact Tb j.1.1.1.1.1.1.1.1.1
def Bcp{n:Ai}(o:Ac n=true){src dst:Nat}{g:Int}(h:¬(Xn n src dst g).1<0):K2 n (Xn n src dst g).1/\K2 n (Xn n src dst g).2:=by
 unfold Xn at h|-;dsimp only at h|-;split
 .rw[zE (by assumption)]at h;exact zW qq h
 rename_i p;rw[zD p]at h;split
 .rw[zE (by assumption)]at h;exact zW qq h
 rename_i r;have t:=Kf (λd:A0=>decide (d.q=Bt (λd:Device=>decide (d.aq=(dst:Int))) n.j)&&decide (d.ao=g)) n.c;generalize Bt (λd:A0=>decide (d.q=Bt (λd:Device=>decide (d.aq=(dst:Int))) n.j)&&decide (d.ao=g)) n.c=dom at *;have j:dom.toNat<n.c.length:=by omega
 have hi:=Kf (λk:Int=>decide (Ei n k=(src:Int))) (Af n.c dom).ae;generalize Bt (λk:Int=>decide (Ei n k=(src:Int))) (Af n.c dom).ae=i at *;rw[Aj j]at hi|-;have l:i.toNat<(n.c[dom.toNat]).ae.length:=by omega
 refine⟨?_,⟨by dsimp only;omega,j⟩⟩;show K2 n (Af (n.c[dom.toNat]).ae i);rw[Aj l];exact Atz o j (zI l)
def Ae5{n:Ai}{b:List UInt8}(h:(Jh n b).2.2.2=0):K2 n (Jh n b).1/\K2 n (Jh n b).2.1:=by
 unfold Jh at h|-;split
 .rw[zE (by assumption)]at h;cases h
 rename_i i;rw[zD i]at h;split
 .rename_i g;rw[zE g]at h;exact zW h g
 rename_i g;rw[zD g]at h;split
 .rw[zE (by assumption)]at h;cases h
 rename_i j;rw[zD j]at h;split
 .rw[zE (by assumption)]at h;cases h
 exact Bcp (kS i) j
def Avp{n:Ai}{irb:Int}{f:Bg}(o:∀(d:Int),(Cu n irb d).2=true->0<=(Cu n irb d).1/\(Cu n irb d).1.toNat<n.r.length)(h:(Ww n irb f).2.2=0):K2 n (Ww n irb f).1:=by
 unfold Ww at h|-;split
 .rw[zE (by assumption)]at h;cases h
 rename_i i;rw[zD i]at h;split
 .rw[zE (by assumption)]at h;cases h
 rename_i p;rw[zD p]at h;split
 .rename_i g;rw[zE g]at h;exact zW h g
 rename_i g;rw[zD g]at h;split
 .rw[zE (by assumption)]at h;cases h
 rename_i r;rw[zD r]at h;split
 .rw[zE (by assumption)]at h;cases h
 rename_i j;rw[zD j]at h;split
 .rw[zE (by assumption)]at h;cases h
 have l:=o ((Cn f.body).1.dst:Int) (kS j);have t:Ac n=true:=by cases I:Ac n;exact zW (.inr I) i;rfl
 have:=(E1 t l.2).1;show K2 n (Af n.r _).l;rw[Aj l.2];exact this
attribute [local irreducible]G DR
set_option maxRecDepth 100000
def Aai:=iA Bh 5 F259 ntmps259
def Ari{n:Ai}(i:Ac n=true){d:Int}(g:K2 n d):0<=(n.c[d.toNat]'g.2).q/\(n.c[d.toNat]'g.2).q.toNat<n.j.length:=by
 simp only[Ac,zG]at i;have:=Awx i.1.1.1.1.1.1.1.2 g.2;have:=Dy this;omega
def Ar5{n:Ai}(i:Ac n=true){d:Int}(g:K2 n d):Ei n d=(n.j[(n.c[d.toNat]'g.2).q.toNat]'(Ari i g).2).aq:=by
 rw[Ei,Aj g.2,Aj (Ari i g).2]
def Ar4{n:Ai}(hm:n.Num)(g:Ac n=true){d:Int}(i:K2 n d):0<=Ei n d/\Ei n d<4294967296:=by
 rw[Ar5 g i];exact hm.aq _ (zI _)
def Aae(n:Ai)(o:Ac n=true)(d:Int)(g:K2 n d):Sp 324 [Aq n,Aa d] (Bo (Ei n d)):=cT F324 ntmps324 λF r=>by
 have j:=Ar5 o g;have i:=Ari o g;obtain ⟨x,l⟩:=kE (n.c[d.toNat]'g.2);rw[l]at i;simp only[l]at j;obtain ⟨y,p⟩:=kE (n.j[x.q.toNat]'i.2);rw[p]at j;rw[j]
 conv=>whnf
 refine⟨q_,g.1,g.2,?_⟩;rw[l]
 conv=>whnf
 refine⟨q_,i.1,i.2,?_⟩;rw[p]
 conv=>whnf
 refine kW ?_;exact dN
def A0e(n:Ai)(P:n.Fin)(R:n.Num)(dom g:Int)(f:Bg)(h:Cf f):Sp 245 [Aq n,Aa dom,Aa g,Ek f] (.tup [.sl 1 Ae (Mc n dom g f).1,Aa (Mc n dom g f).2]):=cT F245 ntmps245 λF hF=>by
 have i:=Mc.eq_1 n dom g f;generalize Mc n dom g f=a0 at *;have hr:=A7 n P;have p:=Xi g n.c.length;have r:=Xi dom n.c.length
 conv=>whnf
 refine Bi 4 8 (Aq n) q_ q_ q_ ?_;refine Bi 7 4 (Ek f) q_ q_ q_ (oO ?_);refine c0 p F320 ?_;cases t:Am g n.c.length
 .rw[zE (.inl t)]at i;subst i
  (refine oT ?_;refine bT ?_;refine bT ?_)
  exact Ar 8 1 Ae q_ dN
 refine oF ?_;refine c0 r F320 ?_;cases I:Am dom n.c.length
 .rw[zE (.inr (.inl I))]at i;subst i
  (refine oT ?_;refine bT ?_)
  exact Ar 8 1 Ae q_ dN
 refine oF ?_;refine c0 hr F49 ?_;cases j:Ac n
 .rw[zE (.inr (.inr j))]at i;subst i;refine oT ?_;exact Ar 8 1 Ae q_ dN
 rw[zD (by simp[j,t,I])]at i;have o:=Tb I;have hp:=Tb t;have mw:=o.1;have l:=o.2;have e2:Af n.c dom=n.c[dom.toNat]:=Aj l;have gk:=P.ae _ (zI l);have va:=Ar4 R j o;have vb:=Ar4 R j hp;have qa:=Aae n j dom o;have qb:=Aae n j g hp;generalize Ei n dom=a at *;generalize Ei n g=c at *;obtain ⟨a,rfl⟩:=xK va.1;obtain ⟨c,rfl⟩:=xK vb.1;rw[yA,yA]at i;obtain ⟨d,J⟩:=kE (n.c[dom.toNat]'l);rw[J]at e2 gk;rw[e2]at i;have qc:=Ij d.ae g gk;have qw:=Bd3 a c d.ao f j_ j_ h;refine oF ?_;refine⟨q_,mw,l,?_⟩;rw[J]
 conv=>whnf
 refine c0 qc F114 ?_;cases hi:Li d.ae g
 .rw[zE hi]at i;subst i;refine oT ?_;exact Ar 8 1 Ae q_ dN
 rw[zD (by rw[hi];decide)]at i;subst i;refine oF ?_;refine cD qa F324 (oD ?_);refine cD qb F324 (oD ?_);refine⟨q_,mw,l,?_⟩;rw[J]
 conv=>whnf
 refine cD qw F323 (gO ?_);exact dN
def endsC1(dst:Int)(d:Device):Sp 390 [Bh d,.ref 1 (Bo dst) 0] (Ab (decide (d.aq=dst))):=cT F390 ntmps390 λF g=>by
 conv=>whnf
 refine Av q_ As (zH Ab ?_) q_;rw[xY];simp
def endsC2(dev g:Int)(d:A0):Sp 391 [Ax d,.ref 1 (Aa dev) 0,.ref 1 (Aa g) 0] (Ab (decide (d.q=dev)&&decide (d.ao=g))):=cT F391 ntmps391 λF j=>by
 conv=>whnf
 constructor<;>intro h
 .have i:d.q=dev:=by simpa using h
  refine oO ?_;refine Av q_ As (zH Ab ?_) q_;rw[zL i,yB,xY];simp
 .have i:¬d.q=dev:=by simpa using h
  refine oO ?_;refine Av q_ As (zH Ab ?_) q_;rw[zJ i,yE]
def endsC3(n:Ai)(g:Ac n=true)(src:Int)(k:Int)(i:K2 n k):Sp 393 [Aa k,.ref 8 (Aq n) 0,.ref 1 (Bo src) 0] (Ab (decide (Ei n k=src))):=cT F393 ntmps393 λF j=>by
 have q:=Aae n g k i
 conv=>whnf
 refine cD q F324 (gO ?_);refine Av q_ As (zH Ab ?_) q_;rw[xY];simp
def endsS(n:Ai)(o:n.Fin)(r:Ac n=true)(src dst:Nat)(g:Int):Sp 328 [Aq n,Bo src,Bo dst,Aa g] (.tup [Aa (Xn n src dst g).1,Aa (Xn n src dst g).2]):=cT F328 ntmps328 λF hF=>by
 have j:=Xn.eq_1 n src dst g;dsimp only at j;generalize Xn n src dst g=a0 at *;have q1:=Aai n.j (λd=>decide (d.aq=(dst:Int))) 390 [] [.ref 1 (Bo dst) 0] rfl (λd _=>⟨⟨_,_,F390⟩,endsC1 dst d⟩) o.j;generalize Bt (λd:Device=>decide (d.aq=(dst:Int))) n.j=dev at *;have q2:=Jz n.c (λd=>decide (d.q=dev)&&decide (d.ao=g)) 391 [] [.ref 1 (Aa dev) 0,.ref 1 (Aa g) 0] rfl (λd _=>⟨⟨_,_,F391⟩,endsC2 dev g d⟩) o.c;have ab:=Kf (λd:A0=>decide (d.q=dev)&&decide (d.ao=g)) n.c;generalize Bt (λd:A0=>decide (d.q=dev)&&decide (d.ao=g)) n.c=dom at *;refine fW ?_;refine Bi 4 8 (Aq n) q_ q_ q_ ?_;refine Bi 5 1 (Bo src) q_ q_ q_ (Bi 6 1 (Bo dst) q_ q_ q_ ?_);refine Bi 7 1 (Aa g) q_ q_ q_ (gL q1 F259 ?_);refine fU ?_;refine Bi 10 1 (Aa dev) q_ q_ q_ (gL q2 F256 ?_);refine gH ?_ ?_<;>intro h
 .rw[zE (.inl (zO h))]at j;subst j;exact gC
 have h1:=zQ h;clear h;refine gH ?_ ?_<;>intro h
 .rw[zE (.inr (zO h))]at j;subst j;exact gC
 have h2:=zQ h;clear h;rw[zD (λh=>h.elim h1 h2)]at j;have mw:0<=dom:=by omega
 have l:dom.toNat<n.c.length:=by omega
 have t:Af n.c dom=n.c[dom.toNat]:=Aj l;have I:=o.ae _ (zI l);have J:∀k∈(n.c[dom.toNat]'l).ae,K2 n k:=λk p=>Atz r l p
 obtain ⟨d,P⟩:=kE (n.c[dom.toNat]'l);rw[P]at t I J;rw[t]at j;have q3:=Wi d.ae (λk=>decide (Ei n k=(src:Int))) 393 [] [.ref 8 (Aq n) 0,.ref 1 (Bo src) 0] rfl (λk p=>⟨⟨_,_,F393⟩,endsC3 n r src k (J k p)⟩) I;have dp:=Kf (λk:Int=>decide (Ei n k=(src:Int))) d.ae;generalize Bt (λk:Int=>decide (Ei n k=(src:Int))) d.ae=i at *;refine fU ?_;refine⟨q_,mw,l,?_⟩;rw[P];refine gQ q3 F392 ?_;refine gH ?_ ?_<;>intro h
 .rw[zE (zO h)]at j;subst j;exact gC
 have h3:=zQ h;clear h;rw[zD h3]at j;have R:i.toNat<d.ae.length:=by omega
 rw[Aj R]at j;subst j;refine fU ?_;refine⟨q_,by omega,R,?_⟩;refine fW ?_;exact dN
def A0g(n:Ai)(o:n.Fin)(b:List UInt8)(I:b.length<100000):Sp 249 [Aq n,.sl 1 Ae b] (.tup [Aa (Jh n b).1,Aa (Jh n b).2.1,Ek (Jh n b).2.2.1,Aa (Jh n b).2.2.2]):=cT F249 ntmps249 λF hF=>by
 have g:=Jh.eq_1 n b;generalize Jh n b=J at *;have P:=A7 n o;refine fW ?_;refine Bi 2 8 (Aq n) q_ q_ q_ (gL P F49 ?_);cases i:Ac n
 .rw[zE i]at g;subst g;refine fU ?_;exact An 6 zF q_ vL dN
 rw[zD (by rw[i];decide)]at g;have p:=A38 b I;have j:=Ahy b;generalize Do b=u at *;obtain ⟨src,dst,l,f,e⟩:=u;dsimp only at g p j;have ig:=j.2.2.2.src;refine gL p F327 ?_;refine gH ?_ ?_<;>intro h
 .rw[zE (kS h)]at g;subst g;refine fU ?_;exact An 6 zF q_ vL dN
 rw[zD (kS h)]at g;clear h;have r:=endsS n o i src dst l;generalize Xn n src dst l=R at *;obtain ⟨fr,dom⟩:=R;dsimp only at g r;refine gL r F328 ?_;refine gH ?_ ?_<;>intro h
 .rw[zE (zO h)]at g;subst g;refine fU ?_;exact An 6 zF q_ vL dN
 rw[zD (zQ h)]at g;clear h;have qg:=Wb f.src j_;refine gL qg F234 ?_;cases t:J5 f.src;rotate_left
 .rw[zE t]at g;subst g;refine fU ?_;exact An 6 zF q_ vL dN
 rw[zD (by rw[t];decide)]at g;subst g;refine fU ?_;refine⟨y_,?_⟩;refine fW ?_;exact dN
def Bft{n:Ai}(j:Ac n=true){d:Int}(g:K2 n d)(hi:0<=(n.c[d.toNat]'g.2).ar):∃h:(n.c[d.toNat]'g.2).ar.toNat<n.r.length,(n.r[(n.c[d.toNat]'g.2).ar.toNat]'h).l=d:=by
 simp only[Ac,zG]at j;have:=Cm.1 j.1.1.1.1.1.1.1.2 _ g.2;simp only[Wq,zG,yR,yL]at this;have i:=this.1.2;rcases i with i|⟨i,o⟩
 .omega
 .have p:=Dy i;have l:(n.c[d.toNat]'g.2).ar.toNat<n.r.length:=by omega
  rw[Aj l]at o;have:=g.1;exact⟨l,by omega⟩
def Ar6(n:Ai)(hn:n.Fin)(ax:n.Num)(dom:Int)(m:Nat):Sp 240 [Aq n,Aa dom,B1 m] (.tup [Aa (Ie n dom m).1,Ab (Ie n dom m).2]):=cT F240 ntmps240 λF hF=>by
 have g:=Ie.eq_1 n dom m;generalize Ie n dom m=a0 at *;have hr:=A7 n hn
 conv=>whnf
 constructor<;>intro h
 .have hp:Am dom n.c.length=false:=by
   cases j:Am dom n.c.length
   .rfl
   .have:=Dy j;have:=zO h;omega
  rw[zE (.inl hp)]at g;subst g
  (refine oT ?_;refine bT ?_)
  exact dN
 have h0:0<=dom:=qB h;clear h;refine gI ?_ ?_<;>intro h
 .have hp:Am dom n.c.length=false:=by
   cases j:Am dom n.c.length
   .rfl
   .have:=Dy j;have:=zO h;omega
  rw[zE (.inl hp)]at g;subst g;refine oT ?_;exact dN
 have h1:dom<n.c.length:=qB h;clear h;have p:Am dom n.c.length=true:=Xc ⟨h0,h1⟩;refine oO ?_;refine c0 hr F49 ?_;cases i:Ac n
 .rw[zE (.inr i)]at g;subst g;refine oT ?_;exact dN
 rw[zD (by simp[i,p])]at g;have l:=Tb p;have r:Af n.c dom=n.c[dom.toNat]'l.2:=Aj l.2;have t:=Bft i l;obtain ⟨d,I⟩:=kE (n.c[dom.toNat]'l.2);simp only[I]at r t;rw[r]at g;refine oF ?_;refine⟨q_,l.1,l.2,?_⟩;rw[I]
 conv=>whnf
 constructor<;>intro h
 .rw[zE (.inl (zO h))]at g;subst g;refine oT ?_;exact dN
 have J:0<=d.ar:=qB h;clear h;obtain ⟨o,jg⟩:=t J;have P:=ax.addr _ (zI o);rw[Aj o]at g;obtain ⟨x,j⟩:=kE (n.r[d.ar.toNat]'o);rw[j]at P g;obtain ⟨a,wx⟩:=xK P.1;have R:=An0 a j_;rw[<-wx]at R;refine oO ?_;refine⟨q_,J,o,?_⟩;rw[j]
 conv=>whnf
 refine gF R F205 ?_;constructor<;>intro h
 .have ag:I4 x.addr≠m:=λe=>by
   rw[e]at h;simp at h
  rw[zE (.inr ag)]at g;subst g;exact gM
 .have heq:I4 x.addr=m:=by
   have:(I4 x.addr:Int)=(m:Int):=kS h;omega
  rw[zD (λh=>h.elim j_ (λh2=>h2 heq))]at g;subst g;exact gM
def Alu{n:Ai}{i:Int}(h:Am i n.r.length=true):Kw n i:=by
 have:=Dy h;exact⟨this.1,by omega⟩
def A3h{p:Dv}(h:Mx p):Mx (Avq p):=⟨h.bj,h.id,by have:=h.bg;show p.bg-1<=255;omega,h.aw,h.src,h.dst⟩
def A0o(p:Dv):Sd (Avq p)=if 1480<p.body.length then ([],14) else (Oy (Avq p),0):=rfl
def A5h(n:Ai)(P:n.Fin)(ax:n.Num)(irb:Int)(f:Bg)(hf:Cf f):Sp 241 [Aq n,Aa irb,Ek f] (.tup [Aa (Ww n irb f).1,Ek (Ww n irb f).2.1,Aa (Ww n irb f).2.2]):=cT F241 ntmps241 λF hF=>by
 have g:=Ww.eq_1 n irb f;generalize Ww n irb f=a0 at *;have hr:=A7 n P;have hb:=hf.body
 conv=>whnf
 constructor<;>intro h
 .have hp:Am irb n.r.length=false:=by
   cases i:Am irb n.r.length
   .rfl
   .have:=Dy i;have:=zO h;omega
  rw[zE (.inl hp)]at g;subst g
  (refine oT ?_;refine bT ?_)
  exact An 7 zF q_ vL dN
 have h0:0<=irb:=qB h;clear h;refine gI ?_ ?_<;>intro h
 .have hp:Am irb n.r.length=false:=by
   cases i:Am irb n.r.length
   .rfl
   .have:=Dy i;have:=zO h;omega
  rw[zE (.inl hp)]at g;subst g;refine oT ?_;exact An 7 zF q_ vL dN
 have h1:irb<n.r.length:=qB h;clear h;have R:Am irb n.r.length=true:=Xc ⟨h0,h1⟩;refine oO ?_;refine c0 hr F49 ?_;cases j:Ac n
 .rw[zE (.inr j)]at g;subst g;refine oT ?_;exact An 7 zF q_ vL dN
 rw[zD (by simp[j,R])]at g;refine Bi 3 8 (Aq n) q_ q_ q_ ?_;refine Bi 5 4 (Ek f) q_ q_ q_ (oF ?_);constructor<;>intro h
 .rw[zE (by have:¬(f.au:Int)=2048:=(kS h);omega)]at g;subst g;refine oO ?_;exact An 7 zF q_ vL dN
 rw[zD (by have:(f.au:Int)=2048:=(kS h);omega)]at g;clear h;have q1:=A3e f.body j_;have aq:=@Aah f.body;generalize Cn f.body=tk at *;obtain ⟨p,e⟩:=tk;dsimp only at g q1 aq;refine oO ?_;refine gF q1 F316 ?_;by_cases r:e=0;rotate_left
 .rw[zE r]at g;subst g;refine⟨λh=>zW (show e=0 by simpa using h) r,λ_=>?_⟩;refine oO ?_;refine⟨λ_=>?_,λh=>zW (show e=0 by simpa using h) r⟩;refine oO ?_;exact An 7 zF q_ vL dN
 subst r;rw[zD qx]at g;obtain ⟨J,a1⟩:=aq rfl;have vm:=J.bg;have ue:=J.dst;have t:=ipHopS p j_ vm
 (refine⟨λ_=>?_,λh=>False.elim (zW h qq)⟩;refine rg ?_;conv=>whnf)
 by_cases I:p.bg<=1
 .rw[zE I]at g;subst g;rw[A67,zE I]at t;refine c0 t F317 (oT ?_);exact An 7 zF q_ vL dN
 rw[zD I]at g;rw[A67,zD I]at t;refine c0 t F317 ?_;have q3:=A3a n P j irb p.dst (Alu R);have mz:=λh=>@cZ n irb p.dst h
 generalize Cu n irb p.dst=lk at *;obtain ⟨to,ok⟩:=lk;dsimp only at g q3 mz;refine oF ?_;refine c0 q3 F318 ?_;cases ok
 .rw[zE rfl]at g;subst g;refine oT ?_;exact An 7 zF q_ vL dN
 rw[zD qq]at g;have l:=mz rfl;have m5:=A0o p;have o:=Aqu (Avq p) (A3h J) (by show p.body.length<100000;omega);rw[m5]at o;clear m5;by_cases hl:1480<p.body.length
 .rw[zE hl]at g o;subst g;refine oF ?_;refine c0 o F204 (oT ?_);exact An 7 zF q_ vL dN
 rw[zD hl]at g o;have ha:=ax.addr _ (zI l.2);rw[Aj l.2]at g;obtain ⟨x,i⟩:=kE (n.r[to.toNat]'l.2);rw[i]at ha g;obtain ⟨a,wx⟩:=xK ha.1;have qh:=An0 a j_;rw[<-wx]at qh;have qd:=An0 p.dst ue;subst g;refine oF ?_;refine c0 o F204 (oF ?_);refine⟨q_,l.1,l.2,?_⟩;rw[i]
 conv=>whnf
 refine cD qd F205 (oD ?_);refine⟨q_,l.1,l.2,?_⟩;rw[i]
 conv=>whnf
 refine cD qh F205 (gO ?_);exact dN
end
section
structure U4(t:List Bc):Prop where
 cb:At t
 an:∀e∈t,e.an<18446744073709551616
 wh:∀e∈t,S2 e.cd
structure Ku(q:B0):Prop where
 frame:Cf q.frame
 ba:-2<=q.ba/\q.ba<1099511627776
 peer:0<=q.peer/\q.peer<1099511627776
def Qa(l:List B0):Prop:=l.length<=64/\∀q∈l,Ku q
structure D8(n:Ai)(m:B4)(J D:Int):Prop where
 up:m.up.length=n.x.length
 ca:m.al.length=n.c.length
 bv:m.ai.length=n.c.length
 ck:∀t∈m.al,U4 t
 cj:∀l∈m.ai,Qa l
 ay:0<=m.ay/\m.ay<=1099511627776
 inj:0<=m.af/\m.af<=J
 bo:∀i,0<=m.ap i/\m.ap i<=D
def Qi{f:Bg}(g:Cf f){a b:Int}(c:Int)(i:-2<=a/\a<1099511627776)(j:0<=b/\b<1099511627776):Ku ⟨a,b,c,f⟩:=⟨g,i,j⟩
def Bav:Ku noQ:=⟨Jd,by decide,by decide⟩
def Aer:U4 []:=⟨by unfold At;decide,λ_ h=>(by cases h),λ_ h=>(by cases h)⟩
def Afy:Qa []:=⟨by decide,λ_ h=>(by cases h)⟩
def Acj{k:Type}{l:List k}{i:Nat}{x y:k}(h:y∈l.set i x):y=x\/y∈l:=by
 rcases tA h with h|h
 .exact .inr h
 .exact .inl h
def Y1{k:Type}{l:List k}{i:Nat}{d:k}(h:i<l.length):(l[i]?).getD d∈l:=by
 rw[zT h];exact zI h
def M1{n:Ai}{m:B4}{J D:Int}(h:D8 n m J D)(dom:Int):Qa (Ec m dom):=by
 unfold Ec;by_cases g:dom.toNat<m.ai.length
 .exact h.cj _ (Y1 g)
 .rw[wZ j_];exact Afy
def Ad8{n:Ai}{m:B4}{J D:Int}(h:D8 n m J D)(dom:Int):U4 (Uk m dom):=by
 unfold Uk;by_cases g:dom.toNat<m.al.length
 .exact h.ck _ (Y1 g)
 .rw[wZ j_];exact Aer
theorem D8.mono{n:Ai}{m:B4}{J D g j:Int}(h:D8 n m J D)(l:J<=g)(o:D<=j):D8 n m g j :=
 ⟨h.up,h.ca,h.bv,h.ck,h.cj,h.ay,⟨h.inj.1,by have:=h.inj.2;omega⟩,λi=>⟨(h.bo i).1,by have:=(h.bo i).2;omega⟩⟩
def eD{n:Ai}{m:B4}{J D:Int}(h:D8 n m J D)(_hD:0<=D)(e:Int):D8 n (Et m e) J (D+1):=by
 refine⟨h.up,h.ca,h.bv,h.ck,h.cj,h.ay,h.inj,λi=>?_⟩;have:=h.bo i;show 0<=(if i=e.toNat then m.ap i+1 else m.ap i)/\(if i=e.toNat then m.ap i+1 else m.ap i)<=D+1;split<;>omega
def A2s{n:Ai}{m:B4}{J D:Int}(h:D8 n m J D)(dom:Int){l:List B0}(i:Qa l):D8 n (setQ m dom l) J D:=by
 refine⟨h.up,h.ca,by rw[setQ];simp[h.bv],h.ck,λx g=>?_,h.ay,h.inj,h.bo⟩;rcases Acj g with rfl|g
 .exact i
 .exact h.cj x g
def A2r{n:Ai}{m:B4}{J D:Int}(h:D8 n m J D)(dom:Int){l:List Bc}(i:U4 l):D8 n (M0 m dom l) J D:=by
 refine⟨h.up,by rw[M0];simp[h.ca],h.bv,λx g=>?_,h.cj,h.ay,h.inj,h.bo⟩;rcases Acj g with rfl|g
 .exact i
 .exact h.ck x g
def Baa{l:List B0}(i:Qa l){q:B0}(j:Ku q):Qa (cN l q).1:=by
 unfold cN;split
 .exact i
 .refine⟨by simp;omega,λx g=>?_⟩;rcases yJ.1 g with g|g
  .exact i.2 x g
  .rw[zX.1 g];exact j
def A89{l:List B0}(g:Qa l)(at_:Int):Ku (Tz l at_).1/\Qa (Tz l at_).2.1:=by
 unfold Tz;split
 .exact⟨Bav,g⟩
 .rename_i h;refine⟨g.2 _ (Y1 j_),?_,λx i=>g.2 x (uQ i)⟩;have:=List.length_eraseIdx_le l at_.toNat;have:=g.1;show (l.eraseIdx at_.toNat).length<=64;omega
def Adi{n:Ai}{m:B4}{J D:Int}(h:D8 n m J D)(g:0<=D)(dom:Int){q:B0}(i:Ku q)(e:Int):D8 n (Sz m dom q e) J (D+1):=by
 unfold Sz;split
 .exact eD h g e
 split
 .exact(A2s h dom (Baa (M1 h dom) i)).mono (wB _) j_
 .exact eD h g 3
def Abg{n:Ai}{m:B4}{J D:Int}(h:D8 n m J D)(dom at_:Int):D8 n (C5 m dom at_).1 J D/\Ku (C5 m dom at_).2.1:=by
 unfold C5;split
 .exact⟨h,Bav⟩
 .have:=A89 (M1 h dom) at_;exact⟨A2s h dom this.2,this.1⟩
def A0s{n:Ai}(g:n.Fin){m:B4}{J D:Int}(h:D8 n m J D)(_hJ:0<=J)(i:0<=D)(port:Int)(b:List UInt8):D8 n (M4 n m port b) (J+1) (D+1):=by
 unfold M4;split
 .exact h.mono j_ j_
 .rename_i j;have hp:Am port n.g.length=true:=by cases l:Am port n.g.length;exact zW (.inl l) j;rfl
  have p:=Dy hp;have o:=g.g;unfold At at o;have r:=h.inj;have hm:D8 n ⟨m.up,m.al,m.ai,m.ay,m.af+1,m.ap⟩ (J+1) D:=⟨h.up,h.ca,h.bv,h.ck,h.cj,h.ay,(by show 0<=m.af+1/\m.af+1<=J+1;omega),h.bo⟩
  exact Adi hm i _ (Qi (Ae3 _ _ _) _ j_ j_) _
structure Ale(n:Ai)(o:My):Prop where
 kind:1<=o.kind/\o.kind<=5
 bytes:o.bytes.length<=1518
 frame:o.kind=4->Cf o.frame/\K2 n o.l
 err:o.kind=5->Dg o.error
def A53{n:Ai}(p:n.Fin)(port:Int):-1<=Eg n port/\Eg n port<2147483648:=by
 unfold Eg;split
 .rename_i h;obtain ⟨⟨t,I⟩,j,g⟩:=h;have l:port.toNat<n.g.length:=by omega
  rw[Aj l]at j|-;have o:=(Ue g l j).1;rw[Aj o];simp only[Ac,zG]at g;have i:=Cm.1 g.1.1.1.1.2 _ o;simp only[aU,zG]at i;have J:=Dy i.1.1.1.1;have P:=Dy i.1.1.1.2;have r:=p.g;unfold At at r;split<;>omega
 .omega
def Au2{n:Ai}(g:n.Fin)(port:Int)(b:List UInt8):0<=(Ir n port b).1/\(Ir n port b).1<1099511627776:=by
 have:=A53 g port;unfold Ir;split<;>dsimp only<;>omega
def Akq{n:Ai}(i:n.Fin)(b:List UInt8):0<=(Jh n b).1/\(Jh n b).1<1099511627776:=by
 by_cases h:(Jh n b).2.2.2=0
 .have:=(Ae5 h).1;have j:=i.c;unfold At at j;unfold K2 at this;omega
 .unfold Jh at h|-;split
  .decide
  rename_i g;rw[zD g]at h;split
  .exact⟨wB _,by dsimp only;omega⟩
  rename_i g;rw[zD g]at h;split
  .decide
  rename_i g;rw[zD g]at h;split
  .decide
  rename_i g;rw[zD g]at h;exact zW q_ h
def Bch{n:Ai}(i:n.Fin){m:B4}{J D:Int}(h:D8 n m J D)(g:0<=D){o:My}(j:Ale n o)(origin:Int):D8 n (Ii n m o origin).1 J (D+1):=by
 unfold Ii;split
 .exact h.mono (wB _) j_
 split
 .have:=Au2 i o.ac o.bytes;exact Adi h g _ (Qi (Au3 _ _ _) _ j_ j_) _
 split
 .exact Adi h g _ (Qi (Awi _ _) _ j_ (Akq i o.bytes)) _
 split
 .rename_i l;exact Adi h g o.l (Qi (a:=-2) (b:=0) (j.frame l).1 origin qq qq) 0
 .exact eD h g _
def dW{n:Ai}(g:n.Fin)(origin:Int):∀(l:List My) {m:B4} {J D:Int},D8 n m J D->0<=D->(∀o∈l,Ale n o)->D8 n (goesL n m origin l).1 J (D+l.length)
 |[],m,J,D,h,_,_=>by
  rw[goesL];exact h.mono (wB _) qx
 |o::l,m,J,D,h,j,i=>by
  rw[goesL];have:=dW g origin l (Bch g h j (i o qx) origin) j_ (λx p=>i x (by simp[p]));exact this.mono (wB _) (by simp only[yI];omega)
def Auu{n:Ai}{o:My}{r:List UInt8×Int}(g:1<=o.kind/\o.kind<=3)(i:r.1.length<=1518)(j:Dg r.2):Ale n (Xh o r):=by
 unfold Xh;split
 .exact⟨⟨by dsimp only;omega,by dsimp only;omega⟩,by simp,λh=>zW h (by dsimp only;omega),λ_=>j⟩
 .exact⟨⟨g.1,by have:=g.2;dsimp only;omega⟩,i,λh=>by have:=g.2;dsimp only at h;omega,λh=>by have:=g.2;dsimp only at h;omega⟩
def A62{t:List Bc}(h:U4 t){m:Nat}(hm:m<18446744073709551616){i:Int}(l:S2 i)(now:Int):U4 (dC t m i now):=by
 have o:=h.cb;unfold At at o;have key:∀e:Bc,e∈dC t m i now->e∈t\/e=⟨m,i,now⟩:=λe g=>by
  unfold dC at g;split at g
  .exact .inl g
  split at g
  .rcases Acj g with h|h
   .exact .inr h
   .exact .inl h
  .rcases yJ.1 g with h|h
   .split at h
    .exact .inl (uQ h)
    .exact .inl h
   .exact .inr (zX.1 h)
 refine⟨?_,λe g=>?_,λe g=>?_⟩
 .unfold dC;split
  .exact h.cb
  rename_i p;have I:t.length<=8:=by
   have:Q3 t=true:=by cases r:Q3 t;exact zW (.inl r) p;rfl
   simp only[Q3,zG,zK]at this;exact this.1
  split
  .unfold At;simp;omega
  .unfold At;split
   .have:=List.length_eraseIdx_le t (O8 t t.length);simp only[zR,yI,xG];omega
   .simp only[zR,yI,xG];omega
 .rcases key e g with j|rfl
  .exact h.an e j
  .exact hm
 .rcases key e g with j|rfl
  .exact h.wh e j
  .exact l
def fK{t:List Bc}(h:U4 t){q:B0}(g:Ku q)(now:Int):U4 (Sb t q now):=by
 unfold Sb;split
 .exact h
 .have i:=g.frame.src;refine A62 h j_ ?_ now;have j:=g.ba;have l:=g.peer;unfold S2;split<;>omega
def Bge{t:List Bc}(h:U4 t)(now:Int):U4 (Ak7 t now):=by
 unfold Ak7;split
 .exact h
 .have i:=h.cb;unfold At at i;refine⟨?_,λe g=>h.an e (List.mem_filter.1 g).1,λe g=>h.wh e (List.mem_filter.1 g).1⟩;unfold At;exact Nat.lt_of_le_of_lt (uW _ _) i
def Afz(n:Ai)(dom:Int):(Bz n dom).length<=n.g.length:=by
 rw[Bz];have:=M5 (aV n (Af n.c dom)) n.g.length;exact this
attribute [local irreducible]G DR
set_option maxRecDepth 100000
def Ak1(m:Nat)(h:m<4294967296):bits .and .u64 (m:Int) 4294967295=(m:Int):=by
 have:=bits_and_u64_nat m 4294967295 j_ qq;rw[show ((4294967295:Nat):Int)=4294967295 from rfl]at this;rw[this];have g:=uN m 32;rw[show 2^32-1=4294967295 from rfl,show 2^32=4294967296 from rfl]at g;rw[g,xN h]
def Ayx(m:Nat)(h:m<4294967296):(m:Int).fdiv (2^(min (Int.toNat 32) IntKind.u64.bits))=0:=by
 show (m:Int).fdiv 4294967296=0;rw[wM _ qq];omega
def mul64S(m:Nat)(h:m<4294967296):Sp 189 [B1 1,B1 m] (.tup [B1 0,B1 m]):=cT F189 ntmps189 λF I=>by
 have j:bits .and .u64 1 4294967295=1:=Ak1 1 qq;have l:(1:Int).fdiv (2^(min (Int.toNat 32) IntKind.u64.bits))=0:=Ayx 1 qq;have o:=Ak1 m h;have g:=Ayx m h;have i:IntKind.u64.wrap (1*(m:Int))=m:=by rw[IntKind.wrap_u64];omega
 have w0:IntKind.u64.wrap (0*(m:Int))=0:=by rw[IntKind.wrap_u64];omega
 have p:IntKind.u64.wrap (0+0)=0:=rfl;have r:bits .and .u64 0 4294967295=0:=Ak1 0 qq;have t:(0:Int).fdiv (2^(min (Int.toNat 32) IntKind.u64.bits))=0:=Ayx 0 qq
 conv=>whnf
 rw[j];refine⟨by decide,?_⟩;rw[l]
 conv=>whnf
 rw[o];refine⟨by decide,?_⟩;rw[g]
 conv=>whnf
 rw[i,w0];refine⟨by decide,?_⟩;rw[g]
 conv=>whnf
 rw[p,r];refine⟨by decide,?_⟩;rw[t]
 conv=>whnf
 refine⟨by decide,?_⟩
 conv=>whnf
 refine Av q_ (.cons .tmp As) ?_ q_;refine zH (λz:Int=>SV.tup [B1 0,B1 z]) ?_;exact i.symm
def mulS(m:Nat)(h:m<4294967296):Sp 107 [B1 1,B1 m] (.tup [B1 0,B1 m]):=cT F107 ntmps107 λF g=>by
 ((conv=>whnf);refine aF ?_;refine rg ?_;conv=>whnf)
 refine gF (mul64S m h) F189 ?_;exact dN
def V0(m k:Nat):List Bool:=List.replicate k true++List.replicate (m-k) false
def cJ(m k:Nat)(h:k<=m):(V0 m k).length=m:=by simp[V0];omega
def A91(m:Nat):V0 m m=List.replicate m true:=by simp[V0]
def A5j(m k c:Nat)(_h:k<=m)(l:c=min k (m-k)):(V0 m k).take k++(V0 m k).take c++(V0 m k).drop (k+c)=V0 m (k+c):=by
 have g:(V0 m k).take k=List.replicate k true:=by
  rw[V0,vB qx];simp
 have i:(V0 m k).take c=List.replicate c true:=by
  rw[V0,vB kO];simp;omega
 have j:(V0 m k).drop (k+c)=List.replicate (m-(k+c)) false:=by
  rw[V0,List.drop_append,vP qx,xO];simp;omega
 rw[g,i,j,V0,List.replicate_append_replicate]
def A2y(m:Nat)(h:m<2147483648):Sp 77 [.sl 1 Ab [true],Aa m] (.sl 1 Ab (List.replicate m true)):=cT F77 ntmps77 λF hF=>by
 have p:IntKind.u64.wrap (m:Int)=m:=by rw[IntKind.wrap_u64];omega
 have I:IntKind.i64.wrap (m:Int)=m:=by rw[IntKind.wrap_i64];omega
 have q:=mulS m j_;rw[<-p]at q
 ((conv=>whnf);refine aF ?_;refine rg ?_;conv=>whnf)
 refine c0 q F107 ?_;rw[p];refine oF ?_;refine⟨λj=>zW (zO j) j_,λ_=>?_⟩;refine oO ?_;rw[I];refine Al (Cw Γ.toTy (d:=30) (n:=m) Ab false q_ q_ q_ q_ q_ q_ q_ q_ j_ j_ q_ q_ q_) q_ q_ (oO ?_);refine Al (fO Γ.toTy (l:=List.replicate m false) (m:=[true]) q_ q_ q_ q_ q_ .sl) q_ q_ ?_;have J:[true].take (List.replicate m false).length++(List.replicate m false).drop [true].length=V0 m (min 1 m):=by
  cases m with
  |zero=>rfl
  |succ m=>simp[V0,Nat.min_eq_left,uH]
 have P:min [true].length (List.replicate m false).length=min 1 m:=by simp
 rw[J,P];refine oO ?_;refine Dc (λk:Nat=>min 1 m<=k/\k<=m) (λk=>[(7,.osl 30),(8,Aa k)]) (λk=>[(30,.row 1 Ab (V0 m k))]) (λk=>m-k) (min 1 m) [] j_ kU ?_;intro k r;have g:=cJ m k r.2;refine oO ?_;constructor<;>intro j
 .have ab:k<m:=by have:=zO j;rw[g]at this;omega
  clear j;have dg:1<=k:=by omega
  have R:V0 m k≠[]:=λe=>by rw[e]at g;simp at g;omega
  refine Axg 30 [7] q_ R (λi hi=>by simp at hi;subst hi;rfl) ?_;intro b cap hc;rw[g]at hc|-;have gu:¬cap=k:=by omega
  have t:=A5j m k (min k (m-k)) r.2 rfl;refine oO ?_;refine C6 (Ha (lo:=k) (hi:=m) Γ.toTy q_ q_ q_ q_ (.inr ⟨_,_,q_,q_⟩) (.inl ⟨q_,q_⟩) j_ j_) y_ q_ (oD ?_);refine C6 (Ha (lo:=0) (hi:=k) Γ.toTy q_ q_ q_ q_ (.inl ⟨q_,q_⟩) (.inr ⟨_,_,q_,q_⟩) j_ j_) y_ q_ (oD ?_);refine C6 (nL Γ.toTy 30 (lo:=k) (k:=k) q_ q_ q_ q_ (by rw[zD gu,tD]) q_ (by rw[zD j_,Nat.zero_mul]) q_ g j_ j_) y_ q_ (oD ?_);refine iW ?_;refine kW ?_;refine Ady 30 31 [7] m q_ q_ (by rw[t,cJ m _ j_];exact yG _) (λi hi=>by simp at hi;subst hi;rfl) ?_;have ed:((V0 m k).take k++(V0 m k).take (min k (m-k))++(V0 m k).drop (k+min k (m-k))).take m=V0 m (k+min k (m-k)):=by
   rw[t,xI (by rw[cJ m _ j_];exact yG _)]
  exact A8 (k+min k (m-k)) [(30,31)] j_ j_ ⟨kA,⟨.inl (zH (Ob.row 1 Ab) ed.symm),q_,z_⟩,q_,q_⟩
 .have o:k=m:=by have:=zQ j;rw[g]at this;omega
  subst o;rw[A91];refine oO ?_;exact Ao 30 q_ dN
end
end Go.Sy.Zaa
