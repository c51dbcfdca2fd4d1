/- Parts of a proof. -/
import Derived.Test.YtedbfemmehbeoaaGreatDoorXC13
set_option maxHeartbeats 4000000
set_option linter.all false
namespace Go.Sy.Zaa
open Go.Proofs Go.Proofs.Tryz
def Au:Ai:=⟨[],[],[],[],[],[],[],[]⟩
def Es(n:Ai)(l:A2)(k:Int):Bool:=l.kind==k&&(Hp l&&Ac n)
def Cg(n:Ai)(s:ByteArray):Int:=Bt (λd:Device=>d.name==s) n.j
def L4(n:Ai)(dev:Int)(s:ByteArray):Int:=Bt (λp:D4=>p.q==dev&&p.name==s) n.g
def Agz(n:Ai)(dev:Int)(s:ByteArray):Int:=Bt (λv:Vrf=>v.q==dev&&v.name==s) n.ag
def Df(n:Ai)(l:A2):Ai×Int :=
 if Es n l 1=false then (Au,2) else if n.j.any (λd=>d.name==l.q||d.an==l.an)=true then (Au,30) else if n.j.length=8 then (Au,3)
 else ({n with j:=n.j++[⟨l.row,l.num,l.q,l.an,0⟩]},0)
def D0(dev:Int)(ds:List A0)(v:Int):List A0:=if 0<v/\ds.any (λd=>d.q==dev&&d.z==v)=false then ds++[⟨dev,v,0,-1,0,[]⟩] else ds
def By(dev:Int)(ds:List A0)(l:List Int):List A0:=l.foldl (D0 dev) ds
def E4(n:Ai)(l:A2):Ai×Int :=
 if Es n l 2=false then (Au,2) else if Cg n l.q<0 then (Au,31) else if 0<=L4 n (Cg n l.q) l.ac then (Au,30) else if n.g.length=40 then (Au,3)
 else if 48<(By (Cg n l.q) n.c (l.z::l.u)).length then (Au,3)
 else ({n with g:=n.g++[⟨l.row,Cg n l.q,l.z,l.aj,-1,l.ac,l.u⟩],c:=By (Cg n l.q) n.c (l.z::l.u)},0)
def Aap(n:Ai)(dev port:ByteArray):Int:=if Cg n dev<0 then -1 else L4 n (Cg n dev) port
def Il(l:List D4)(i k:Int):List D4:=l.set i.toNat {Af l i with ah:=k}
def E5(n:Ai)(l:A2):Ai×Int :=
 if Es n l 3=false then (Au,2) else
 let a:=Aap n l.q l.ac
 let b:=Aap n l.peer l.bi
 if a<0\/b<0 then (Au,31) else if (Af n.g a).q=(Af n.g b).q\/0<=(Af n.g a).ah\/0<=(Af n.g b).ah then (Au,33) else if n.x.length=20 then (Au,3)
 else ({n with g:=Il (Il n.g a n.x.length) b n.x.length,x:=n.x++[⟨l.row,a,b⟩]},0)
def Ard(n:Ai)(d g:Int):Int:=Bt (λs:I2=>s.l==d&&s.an==g) n.ab
def De(n:Ai)(l:A2):Ai×Int :=
 if Es n l 4=false then (Au,2) else
 let dev:=Cg n l.q
 let port:=L4 n dev l.ac
 let dom:=Ep n dev l.z
 if dev<0\/port<0 then (Au,31) else if dom<0\/Hk (Af n.g port) l.z=false then (Au,32) else if 0<=Ard n dom l.an then (Au,30) else if n.ab.length=64 then (Au,3)
 else ({n with ab:=n.ab++[⟨l.row,dom,port,l.an⟩]},0)
def Ig(n:Ai)(a:Int):Int:=Bt (λd:Device=>d.aq==a) n.j
def Xv(n:Ai)(dev g:Int):Int:=Bt (λd:A0=>d.q==dev&&(d.ao==g&&g != 0)) n.c
def Oc(n:Ai)(dev g:Int):Int:=Bt (λf:Mg=>f.q==dev&&f.ao==g) n.y
def Eh(n:Ai)(l:A2)(k:Int):Int×Int:=if Es n l k=false then (0,2) else if Cg n l.q<0 then (0,31) else (Cg n l.q,0)
def S4(l:List Device)(i a:Int):List Device:=l.set i.toNat {Af l i with aq:=a}
def E3(n:Ai)(l:A2):Ai×Int :=
 if (Eh n l 5).2≠0 then (Au,(Eh n l 5).2) else
 let dev:=(Eh n l 5).1
 if (Af n.j dev).aq≠0\/0<=Ig n l.addr then (Au,30) else ({n with j:=S4 n.j dev l.addr},0)
def Iw(n:Ai)(l:A2):Ai×Int :=
 if (Eh n l 6).2≠0 then (Au,(Eh n l 6).2) else
 let dev:=(Eh n l 6).1
 let at_:=Ep n dev l.z
 if (Af n.j dev).aq=0 then (Au,35) else if at_<0 then (Au,32) else if (Af n.c at_).ao≠0\/0<=Xv n dev l.num then (Au,30)
 else ({n with c:=n.c.set at_.toNat {Af n.c at_ with ao:=l.num,row:=l.row} },0)
def D1(n:Ai)(l:A2):Ai×Int :=
 if (Eh n l 7).2≠0 then (Au,(Eh n l 7).2) else
 let dev:=(Eh n l 7).1
 if Xv n dev l.num<0 then (Au,31) else if 0<=Oc n dev l.num then (Au,30) else if Li l.aa (Af n.j dev).aq=true then (Au,36) else if n.y.length=48 then (Au,3)
 else ({n with y:=n.y++[⟨l.row,dev,l.num,l.aa⟩]},0)
def Iv(n:Ai)(l:A2):Ai×Int :=
 if (Eh n l 8).2≠0 then (Au,(Eh n l 8).2) else
 let dev:=(Eh n l 8).1
 if 0<=Agz n dev l.name then (Au,30) else if n.ag.length=16 then (Au,3)
 else ({n with ag:=n.ag++[⟨l.row,dev,l.name,l.ak,l.am⟩]},0)
def Zv(a bits x:Int):Bool:=decide (0<=bits)&&(decide (bits<=32)&&I0 a bits==I0 x bits)
def Qf(n:Ai)(dev a bits:Int)(x:Irb):Bool:=x.addr==a||((Af n.ag x.bb).q != dev&&(Zv x.addr x.bits a||Zv a bits x.addr))
def Iy(n:Ai)(l:A2):Ai×Int :=
 if (Eh n l 9).2≠0 then (Au,(Eh n l 9).2) else
 let dev:=(Eh n l 9).1
 let g:=Agz n dev l.name
 let at_:=Ep n dev l.z
 if g<0 then (Au,31) else if at_<0 then (Au,32) else if 0<=(Af n.c at_).ar\/n.r.any (Qf n dev l.addr l.bits)=true then (Au,37)
 else ({n with c:=n.c.set at_.toNat {Af n.c at_ with ar:=n.r.length},r:=n.r++[⟨l.row,at_,g,l.addr,l.bits⟩]},0)
def La(n:Ai)(l:A2):Ai×Int :=
 if l.kind=1 then Df n l else if l.kind=2 then E4 n l else if l.kind=3 then E5 n l else if l.kind=4 then De n l else if l.kind=5 then E3 n l
 else if l.kind=6 then Iw n l else if l.kind=7 then D1 n l else if l.kind=8 then Iv n l else if l.kind=9 then Iy n l else (Au,2)
def Lf(n:Ai)(f:Mg)(a:Int):Bool :=
 let dev:=Ig n a
 decide (0<=dev) && (a != 0 && (decide (0<=Xv n dev f.ao) && (decide (0<=Oc n dev f.ao) &&
  (Li (Af n.y (Oc n dev f.ao)).aa (Af n.j f.q).aq && f.aa.all λ b=>b == a || Li (Af n.y (Oc n dev f.ao)).aa b))))
def J2(n:Ai)(f:Mg):Bool:=decide (0<=Xv n f.q f.ao)&&f.aa.all (Lf n f)
def Iz(n:Ai)(d:A0):List Int:=if d.ao≠0/\0<=Oc n d.q d.ao then (Af n.y (Oc n d.q d.ao)).aa.map (λa=>Xv n (Ig n a) d.ao) else []
def Cv(n:Ai):Ai:={n with c:=n.c.map λd=>{d with ae:=Iz n d} }
def Dj(n:Ai):Ai×Int×Int :=
 if Ac n=false then (Au,0,2) else match n.y.find? (λf=>!(J2 n f)) with
 |some f=>(Au,f.row,36)
 |none=>if Ac (Cv n)=false then (Au,0,36) else (Cv n,0,0)
def Hr(f:List Int):Prop:=∀i (h:i<f.length),0<=f[i]/\f[i]<=i
def Asm:Nat->List Int->Int->List Int×Int
 |0,f,i=>(f,i)
 |k+1,f,i=>if Af f i=i then (f,i) else Asm k (f.set i.toNat (Af f (Af f i))) (Af f (Af f i))
def Uj(f:List Int)(i:Int):List Int×Int:=Asm (i.toNat+1) f i
def nH(f:List Int)(a b:Int):List Int×Bool :=
 let x:=Uj f a
 let y:=Uj x.1 b
 (y.1.set (max x.2 y.2).toNat (min x.2 y.2),x.2 != y.2)
def Ws(k:Nat):List Int:=(List.range k).map λi:Nat=>(i:Int)
def Ih(n:Ai)(f:List Int)(i:Int)(v:Int):List Int:=if (Ef n i v).2=true then (nH f (Ep n (Af n.g i).q v) (Ef n i v).1).1 else f
def Ov(n:Ai)(f:List Int)(i:Nat):List Int:=((Af n.g i).u++[(Af n.g i).native]).foldl (λf v=>Ih n f i v) f
def fJ(n:Ai)(f:List Int):List Int:=(List.range n.g.length).foldl (Ov n) f
def Al0:Int->List Int->Int
 |m,[]=>m
 |m,x::l=>Al0 (min m x) l
def Aul(l:List Int):Int:=Al0 (Af l 0) (l.drop 1)
def We(n:Ai):List Int->Nat->List A0->Int×Bool
 |_,_,[]=>(0,false)
 |f,i,d::r=>if d.ae=[] then We n f (i+1) r else
  let x:=nH f i ((n.c.length:Int)+min (i:Int) (Aul d.ae))
  if x.2=false then (d.row,true) else We n x.1 (i+1) r
def Wc(n:Ai):Int×Bool:=if Ac n=false then (0,false) else We n (fJ n (Ws (2*n.c.length))) 0 n.c
def Lc(n:Ai):Ai×Int×Int:=if (Dj n).2.2≠0 then Dj n else if (Wc (Dj n).1).2=true then (Au,(Wc (Dj n).1).1,38) else ((Dj n).1,0,0)
def Bw:Ai->List A2->Ai×Int×Int
 |n,[]=>Lc n
 |n,l::r=>if (La n l).2≠0 then (Au,l.row,(La n l).2) else Bw (La n l).1 r
def E6(l:List A2):Ai×Int×Int:=Bw Au l
def Ak(b:List UInt8):Ai×Int×Int:=if (Lk b).2.2≠0 then (Au,(Lk b).2.1,(Lk b).2.2) else E6 (Lk b).1
attribute [local irreducible]G DR
set_option maxRecDepth 100000
theorem iF{A0:Type}(v0:A0->SV)(g:Nat){f0 o:Nat}{i:Func}(F0:fT f0 i)(j:i.ntmps=o)(h:let A0:Type:=A0;let v0:A0->SV:=v0;let g:=g;fT f0 i->i.ntmps=o->∀ (l:List A0) (p:l.length<2147483648),Sq f0 [.sl g v0 l] [] (.osl 0) [(0,.row g v0 l)]:=by
 intro A0 v0 g F0 j l p
 refine cT F0 j λF I=>?_
 refine fW ?_;refine K5 q_ (.inl q_) q_ q_ q_ .sl q_ q_ ?_;intro b r;cases b
 .refine fU ?_;refine Al (Ah Γ.toTy 7 q_ q_ q_ q_ q_ (.lit (e:=v0) (l:=[]) q_ q_) .sl qx kO kO) q_ q_ (fU ?_);exact done q_ As [(0,7)] [(0,.row g v0 l)] (λ_ h=>h) q_ q_ kU
 .have t:l=[]:=yF (r rfl);subst t;refine fU ?_;refine Ct 2 1000 g v0 q_ q_ ?_;exact done q_ As [(0,1000)] [(0,.row g v0 [])] (λ _ h=>h) q_ q_ kU):∀ (l:List A0) (p:l.length<2147483648),Sq f0 [.sl g v0 l] [] (.osl 0) [(0,.row g v0 l)]:=h F0 j
def Aml:=iF Bh 5 F155 ntmps155
def Awl:=iF Dq 3 F157 ntmps157
def Amk:=iF Bp 4 F159 ntmps159
def A1s:=iF Dx 5 F162 ntmps162
def Yb(n:Ai)(l:n.Fin):Sq 79 [Aq n] [] (.agg [.osl 0,.osl 1,.osl 2,.osl 3,.osl 4,.osl 5,.osl 6,.osl 7]) [(0,.row 5 Bh n.j),(1,.row 7 Bm n.g),(2,.row 3 Dq n.x),(3,.row 6 Ax n.c),(4,.row 4 Bp n.ab),(5,.row 4 B6 n.y),(6,.row 5 D5 n.ag),(7,.row 5 Dx n.r)]:=cT F79 ntmps79 λF hF=>by
 have r:n.j.length<2147483648/\n.g.length<2147483648/\n.x.length<2147483648/\n.c.length<2147483648/\n.ab.length<2147483648/\n.y.length<2147483648/\n.ag.length<2147483648/\n.r.length<2147483648:=⟨l.j,l.g,l.x,l.c,l.ab,l.y,l.ag,l.r⟩
 have I:(∀p∈n.g,p.u.length<2147483648)/\(∀p∈n.c,p.ae.length<2147483648)/\(∀p∈n.y,p.aa.length<2147483648)/\(∀p∈n.ag,p.ak.length<2147483648/\p.am.length<2147483648):=⟨l.u,l.ae,l.aa,λv P=>⟨l.ak v P,l.am v P⟩⟩
 refine fW ?_;refine C6 (Ad [(0,11)] q_ F155 (Aml n.j r.1) q_ z_ q_ ⟨.inr q_,z_⟩) y_ q_ (fU ?_);refine C6 (Ad [(0,14)] q_ F156 (A1r n.g r.2.1) q_ z_ q_ ⟨.inr q_,z_⟩) y_ q_ (fU ?_);refine C6 (Ad [(0,17)] q_ F157 (Awl n.x r.2.2.1) q_ z_ q_ ⟨.inr q_,z_⟩) y_ q_ (fU ?_);refine C6 (Ad [(0,20)] q_ F158 (Ars n.c r.2.2.2.1) q_ z_ q_ ⟨.inr q_,z_⟩) y_ q_ (fU ?_);refine C6 (Ad [(0,23)] q_ F159 (Amk n.ab r.2.2.2.2.1) q_ z_ q_ ⟨.inr q_,z_⟩) y_ q_ (fU ?_);refine C6 (Ad [(0,26)] q_ F160 (Awm n.y r.2.2.2.2.2.1) q_ z_ q_ ⟨.inr q_,z_⟩) y_ q_ (fU ?_);refine C6 (Ad [(0,29)] q_ F161 (A7z n.ag r.2.2.2.2.2.2.1) q_ z_ q_ ⟨.inr q_,z_⟩) y_ q_ (fU ?_);refine C6 (Ad [(0,32)] q_ F162 (A1s n.r r.2.2.2.2.2.2.2) q_ z_ q_ ⟨.inr q_,z_⟩) y_ q_ (fU ?_);refine⟨y_,?_⟩;refine fW ?_;refine Bl n.g.length (λj=>[(2,.ptr 2 0),(3,.ptr 3 0),(36,Aa n.g.length),(37,Aa j)]) (λ_=>[(2,.box [Jl,Jl,Jl,Jl,Jl,Jl,Jl,Jl]),(3,.box [.osl 11,.osl 14,.osl 17,.osl 20,.osl 23,.osl 26,.osl 29,.osl 32]),(11,.row 5 Bh n.j),(14,.row 7 Bm n.g),(17,.row 3 Dq n.x),(20,.row 6 Ax n.c),(23,.row 4 Bp n.ab),(26,.row 4 B6 n.y),(29,.row 5 D5 n.ag),(32,.row 5 Dx n.r)]) []
  kU ?_
 intro j J;refine gH ?_ ?_<;>intro h
 .have i:j<n.g.length:=by simpa using h
  obtain ⟨p,hp⟩:=kE (n.g[(j:Int).toNat]'j_);have g:n.g≠[]:=λe=>by rw[e]at i;cases i
  have o:n.g.set (j:Int).toNat p=n.g:=by rw[<-hp];exact uY _
  have t:=I.1 p (by rw[<-hp];exact zI _);refine fU ?_;refine⟨by omega,by show _<n.g.length;omega,?_⟩;refine fW ?_;refine⟨g,?_⟩;refine fW ?_;refine⟨q_,by omega,?_⟩;rw[hp];refine fW ?_;refine cD (Qv p.u t) F163 (fU ?_);refine⟨by omega,by show _<n.g.length;omega,?_⟩;refine fW ?_;refine⟨g,?_⟩;refine fW ?_;refine⟨q_,by omega,p,(by rw[hp];rfl),(by rw[hp];rfl),?_⟩;refine fW ?_;refine⟨y_,?_⟩;refine gJ ?_;exact A9 [] i ⟨kA,⟨.inl q_,q_,.inl q_,q_,.inl q_,q_,.inl (zH (Ob.row 7 Bm) o.symm),q_,.inl q_,q_,.inl q_,q_,.inl q_,q_,.inl q_,q_,.inl q_,q_,.inl q_,q_,z_⟩,q_,q_⟩
 .refine fU ?_;refine Bl n.c.length (λj=>[(2,.ptr 2 0),(3,.ptr 3 0),(55,Aa n.c.length),(56,Aa j)]) (λ_=>[(2,.box [Jl,Jl,Jl,Jl,Jl,Jl,Jl,Jl]),(3,.box [.osl 11,.osl 14,.osl 17,.osl 20,.osl 23,.osl 26,.osl 29,.osl 32]),(11,.row 5 Bh n.j),(14,.row 7 Bm n.g),(17,.row 3 Dq n.x),(20,.row 6 Ax n.c),(23,.row 4 Bp n.ab),(26,.row 4 B6 n.y),(29,.row 5 D5 n.ag),(32,.row 5 Dx n.r)]) []
   kU ?_
  intro j J;refine gH ?_ ?_<;>intro h
  .have i:j<n.c.length:=by simpa using h
   obtain ⟨p,hp⟩:=kE (n.c[(j:Int).toNat]'j_);have g:n.c≠[]:=λe=>by rw[e]at i;cases i
   have o:n.c.set (j:Int).toNat p=n.c:=by rw[<-hp];exact uY _
   have t:=I.2.1 p (by rw[<-hp];exact zI _);refine fU ?_;refine⟨by omega,by show _<n.c.length;omega,?_⟩;refine fW ?_;refine⟨g,?_⟩;refine fW ?_;refine⟨q_,by omega,?_⟩;rw[hp];refine fW ?_;refine cD (Qv p.ae t) F163 (fU ?_);refine⟨by omega,by show _<n.c.length;omega,?_⟩;refine fW ?_;refine⟨g,?_⟩;refine fW ?_;refine⟨q_,by omega,p,(by rw[hp];rfl),(by rw[hp];rfl),?_⟩;refine fW ?_;refine⟨y_,?_⟩;refine gJ ?_;exact A9 [] i ⟨kA,⟨.inl q_,q_,.inl q_,q_,.inl q_,q_,.inl q_,q_,.inl q_,q_,.inl (zH (Ob.row 6 Ax) o.symm),q_,.inl q_,q_,.inl q_,q_,.inl q_,q_,.inl q_,q_,z_⟩,q_,q_⟩
  .refine fU ?_;refine Bl n.y.length (λj=>[(2,.ptr 2 0),(3,.ptr 3 0),(74,Aa n.y.length),(75,Aa j)]) (λ_=>[(2,.box [Jl,Jl,Jl,Jl,Jl,Jl,Jl,Jl]),(3,.box [.osl 11,.osl 14,.osl 17,.osl 20,.osl 23,.osl 26,.osl 29,.osl 32]),(11,.row 5 Bh n.j),(14,.row 7 Bm n.g),(17,.row 3 Dq n.x),(20,.row 6 Ax n.c),(23,.row 4 Bp n.ab),(26,.row 4 B6 n.y),(29,.row 5 D5 n.ag),(32,.row 5 Dx n.r)]) []
    kU ?_
   intro j J;refine gH ?_ ?_<;>intro h
   .have i:j<n.y.length:=by simpa using h
    obtain ⟨p,hp⟩:=kE (n.y[(j:Int).toNat]'j_);have g:n.y≠[]:=λe=>by rw[e]at i;cases i
    have o:n.y.set (j:Int).toNat p=n.y:=by rw[<-hp];exact uY _
    have t:=I.2.2.1 p (by rw[<-hp];exact zI _);refine fU ?_;refine⟨by omega,by show _<n.y.length;omega,?_⟩;refine fW ?_;refine⟨g,?_⟩;refine fW ?_;refine⟨q_,by omega,?_⟩;rw[hp];refine fW ?_;refine cD (Aos p.aa t) F164 (fU ?_);refine⟨by omega,by show _<n.y.length;omega,?_⟩;refine fW ?_;refine⟨g,?_⟩;refine fW ?_;refine⟨q_,by omega,p,(by rw[hp];rfl),(by rw[hp];rfl),?_⟩;refine fW ?_;refine⟨y_,?_⟩;refine gJ ?_;exact A9 [] i ⟨kA,⟨.inl q_,q_,.inl q_,q_,.inl q_,q_,.inl q_,q_,.inl q_,q_,.inl q_,q_,.inl q_,q_,.inl (zH (Ob.row 4 B6) o.symm),q_,.inl q_,q_,.inl q_,q_,z_⟩,q_,q_⟩
   .refine fU ?_;refine Bl n.ag.length (λj=>[(2,.ptr 2 0),(3,.ptr 3 0),(93,Aa n.ag.length),(94,Aa j)]) (λ_=>[(2,.box [Jl,Jl,Jl,Jl,Jl,Jl,Jl,Jl]),(3,.box [.osl 11,.osl 14,.osl 17,.osl 20,.osl 23,.osl 26,.osl 29,.osl 32]),(11,.row 5 Bh n.j),(14,.row 7 Bm n.g),(17,.row 3 Dq n.x),(20,.row 6 Ax n.c),(23,.row 4 Bp n.ab),(26,.row 4 B6 n.y),(29,.row 5 D5 n.ag),(32,.row 5 Dx n.r)]) []
     kU ?_
    intro j J;refine gH ?_ ?_<;>intro h
    .have i:j<n.ag.length:=by simpa using h
     obtain ⟨p,hp⟩:=kE (n.ag[(j:Int).toNat]'j_);have g:n.ag≠[]:=λe=>by rw[e]at i;cases i
     have o:n.ag.set (j:Int).toNat p=n.ag:=by rw[<-hp];exact uY _
     have t:=I.2.2.2 p (by rw[<-hp];exact zI _);refine fU ?_;have R:n.ag.set (j:Int).toNat p≠[]:=by rw[o];exact g
     have fy:(n.ag.set (j:Int).toNat p)[(j:Int).toNat]'(by rw[o];omega)=p:=by simp
     have zl:(n.ag.set (j:Int).toNat p).set (j:Int).toNat p=n.ag:=by rw[o,o]
     refine⟨by omega,by show _<n.ag.length;omega,?_⟩;refine fW ?_;refine C6 (J6 q_ (.inr (.inr (.inr ⟨29,5,_,0,q_,λk w h=>fC g h,q_⟩)))) y_ q_ (fU ?_);refine⟨g,?_⟩;refine fW ?_;refine⟨q_,by omega,?_⟩;rw[hp];refine fW ?_;refine cD (Qv p.ak t.1) F163 (fU ?_);refine C6 (J6 q_ (.inr (.inr (.inr ⟨29,5,_,0,q_,λk w h=>fC g h,q_⟩)))) y_ q_ (fU ?_);refine⟨g,?_⟩;refine fW ?_;refine⟨q_,by omega,?_⟩;rw[hp];refine fW ?_;refine cD (Qv p.am t.2) F163 (fU ?_);refine C6 (J6 q_ (.inr (.inr (.inr ⟨29,5,_,0,q_,λk w h=>fC g h,q_⟩)))) y_ q_ (fU ?_);refine⟨g,?_⟩;refine fW ?_;refine⟨q_,by omega,p,(by rw[hp];rfl),(by rw[hp];rfl),?_⟩;refine fW ?_;refine C6 (J6 q_ (.inr (.inr (.inr ⟨29,5,_,0,q_,λk w h=>fC R h,q_⟩)))) y_ q_ (fU ?_);refine⟨R,?_⟩;refine fW ?_;refine⟨q_,by rw[o];omega,p,(by rw[fy];rfl),(by rw[fy];rfl),?_⟩;refine fW ?_;refine⟨y_,?_⟩;refine gJ ?_;exact A9 [] i ⟨kA,⟨.inl q_,q_,.inl q_,q_,.inl q_,q_,.inl q_,q_,.inl q_,q_,.inl q_,q_,.inl q_,q_,.inl q_,q_,.inl (zH (Ob.row 5 D5) zl.symm),q_,.inl q_,q_,z_⟩,q_,q_⟩
    .refine fU ?_;exact done q_ (.cons (.cell q_ q_ q_ q_) .nil) [(0,11),(1,14),(2,17),(3,20),(4,23),(5,26),(6,29),(7,32)] [(0,.row 5 Bh n.j),(1,.row 7 Bm n.g),(2,.row 3 Dq n.x),(3,.row 6 Ax n.c),(4,.row 4 Bp n.ab),(5,.row 4 B6 n.y),(6,.row 5 D5 n.ag),(7,.row 5 Dx n.r)] (λ_ h=>h) q_ q_ kU
set_option maxRecDepth 20000
def Se:=iA Bh 5 F259 ntmps259
def Aey:=iA B6 4 F357 ntmps357
def Ajt:=iA D5 5 F433 ntmps433
def eE(l:List Device)(p:Device->Bool)(f:FuncId)(first cap:List SV)(g:(SV.clo (.func f) first cap).inn []=true)(i:∀x∈l,J3 prog f (first++[Bh x]++cap) (Ab (p x)))(j:At l):Sp 345 [.sl 5 Bh l,.clo (.func f) first cap] (Ab (decide (0<=Bt p l))):=cT F345 ntmps345 λF r=>by
 have o:C7 [] [.sl 5 Bh l,.clo (.func f) first cap]=true:=by simp only[C7,g];rfl
 refine fW ?_;exact U3 (Se l p f first cap g i j) F259 q_ q_ (by simp only[o];rfl) q_ q_ gC
def Ug(l:List A0)(p:A0->Bool)(f:FuncId)(first cap:List SV)(g:(SV.clo (.func f) first cap).inn []=true)(i:∀x∈l,J3 prog f (first++[Ax x]++cap) (Ab (p x)))(j:At l):Sp 405 [.sl 6 Ax l,.clo (.func f) first cap] (Ab (decide (0<=Bt p l))):=cT F405 ntmps405 λF r=>by
 have o:C7 [] [.sl 6 Ax l,.clo (.func f) first cap]=true:=by simp only[C7,g];rfl
 refine fW ?_;exact U3 (Jz l p f first cap g i j) F256 q_ q_ (by simp only[o];rfl) q_ q_ gC
def Ara(n:Ai)(i:n.Fin)(l:List Device)(p:Device->Bool)(f:FuncId)(first cap:List SV)(g:(SV.clo (.func f) first cap).inn []=true)(j:∀x∈l,J3 prog f (first++[Bh x]++cap) (Ab (p x)))(o:At l):Sp 193 [Aq n,.sl 5 Bh l,.clo (.func f) first cap] (Aa (if Ac n=true then Bt p l else -1)):=cT F193 ntmps193 λF t=>by
 have r:=A7 n i;have q:=Se l p f first cap g j o
 refine gQ r F49 ?_;cases I:Ac n
 .rw[zD qx];exact gC
 rw[zE rfl];refine fU ?_;exact U3 q F259 q_ q_ (by simp only[C7,g,uP];rfl) q_ q_ gC
def A1a(n:Ai)(i:n.Fin)(l:List D4)(p:D4->Bool)(f:FuncId)(first cap:List SV)(g:(SV.clo (.func f) first cap).inn []=true)(j:∀x∈l,J3 prog f (first++[Bm x]++cap) (Ab (p x)))(o:At l):Sp 191 [Aq n,.sl 7 Bm l,.clo (.func f) first cap] (Aa (if Ac n=true then Bt p l else -1)):=cT F191 ntmps191 λF t=>by
 have r:=A7 n i;have q:=Ut l p f first cap g j o
 refine gQ r F49 ?_;cases I:Ac n
 .rw[zD qx];exact gC
 rw[zE rfl];refine fU ?_;exact U3 q F125 q_ q_ (by simp only[C7,g,uP];rfl) q_ q_ gC
def A7j(n:Ai)(i:n.Fin)(l:List Vrf)(p:Vrf->Bool)(f:FuncId)(first cap:List SV)(g:(SV.clo (.func f) first cap).inn []=true)(j:∀x∈l,J3 prog f (first++[D5 x]++cap) (Ab (p x)))(o:At l):Sp 412 [Aq n,.sl 5 D5 l,.clo (.func f) first cap] (Aa (if Ac n=true then Bt p l else -1)):=cT F412 ntmps412 λF t=>by
 have r:=A7 n i;have q:=Ajt l p f first cap g j o
 refine gQ r F49 ?_;cases I:Ac n
 .rw[zD qx];exact gC
 rw[zE rfl];refine fU ?_;exact U3 q F433 q_ q_ (by simp only[C7,g,uP];rfl) q_ q_ gC
def Aqm(s:ByteArray)(d:Device):Sp 194 [Bh d,.ref 1 (Ap s) 0] (Ab (d.name==s)):=cT F194 ntmps194 λF g=>by
 exact gA
def Az3(dev:Int)(s:ByteArray)(p:D4):Sp 192 [Bm p,.ref 1 (Aa dev) 0,.ref 1 (Ap s) 0] (Ab (p.q==dev&&p.name==s)):=cT F192 ntmps192 λF g=>by
 cases h:(p.q==dev)
 .exact gA
 .exact gA
def A6c(dev:Int)(s:ByteArray)(p:Vrf):Sp 413 [D5 p,.ref 1 (Aa dev) 0,.ref 1 (Ap s) 0] (Ab (p.q==dev&&p.name==s)):=cT F413 ntmps413 λF g=>by
 cases h:(p.q==dev)
 .exact gA
 .exact gA
def M2(n:Ai)(g:n.Fin)(i:Ac n=true)(s:ByteArray):Sp 112 [Aq n,Ap s] (Aa (Cg n s)):=cT F112 ntmps112 λF j=>by
 have q:=Ara n g n.j (λd=>d.name==s) 194 [] [.ref 1 (Ap s) 0] rfl (λd _=>⟨⟨_,_,F194⟩,Aqm s d⟩) g.j;rw[zE i]at q;refine fW ?_;exact Bi 3 1 (Ap s) q_ q_ q_ (c0 q F193 gC)
def Zz(n:Ai)(g:n.Fin)(i:Ac n=true)(dev:Int)(s:ByteArray):Sp 111 [Aq n,Aa dev,Ap s] (Aa (L4 n dev s)):=cT F111 ntmps111 λF j=>by
 have q:=A1a n g n.g (λp=>p.q==dev&&p.name==s) 192 [] [.ref 1 (Aa dev) 0,.ref 1 (Ap s) 0] rfl (λd _=>⟨⟨_,_,F192⟩,Az3 dev s d⟩) g.g;rw[zE i]at q;refine fW ?_;exact Bi 4 1 (Aa dev) q_ q_ q_ (Bi 5 1 (Ap s) q_ q_ q_ (c0 q F191 gC))
def Ani(n:Ai)(g:n.Fin)(i:Ac n=true)(dev:Int)(s:ByteArray):Sp 354 [Aq n,Aa dev,Ap s] (Aa (Agz n dev s)):=cT F354 ntmps354 λF j=>by
 have q:=A7j n g n.ag (λp=>p.q==dev&&p.name==s) 413 [] [.ref 1 (Aa dev) 0,.ref 1 (Ap s) 0] rfl (λd _=>⟨⟨_,_,F413⟩,A6c dev s d⟩) g.ag;rw[zE i]at q;refine fW ?_;exact Bi 4 1 (Aa dev) q_ q_ q_ (Bi 5 1 (Ap s) q_ q_ q_ (c0 q F412 gC))
def Tt(n:Ai)(i:n.Fin)(j:Ac n=true)(dev g:Int):Sp 195 [Aq n,Aa dev,Aa g] (Aa (Ep n dev g)):=by
 have q:=Q8 n i dev g;rwa [D2,zE j]at q
set_option maxRecDepth 100000
def Qp{k:Type}{p:k->Bool}{l:List k}(h:¬Bt p l<0):∃i:Nat,Bt p l=i/\i<l.length:=by
 have:=Kf p l;exact⟨(Bt p l).toNat,by omega,by omega⟩
theorem iH{f0 m0:Nat}{p:Func}(F0:fT f0 p)(J:p.ntmps=m0)(h:fT f0 p->p.ntmps=m0->∀ (n:Ai) (r:n.Fin) (l:A2) (P:E7 l) (k:Int),Sp f0 [Aq n,Be l,Aa k] (.tup [Aa (Eh n l k).1,Aa (Eh n l k).2]):=by
 intro F0 J n r l P k
 refine cT F0 J λF hF=>?_
 have j:=S3 l P;have o:=A7 n r;have g:=Eh.eq_1 n l k;have i:=Es.eq_1 n l k;generalize Eh n l k=a0 at *;generalize Es n l k=f at *;cases t:(l.kind==k) with
 |false=>
  have g1:(l.kind != k)=true:=by rw[bne,t];rfl
  rw[t,yE]at i;rw[i,zE rfl]at g;subst g;exact gA
 |true=>
  have g1:(l.kind != k)=false:=by rw[bne,t];rfl
  rw[t,yB]at i;cases h2:Hp l with
  |false=>
   rw[h2]at j i;rw[i,yE,zE rfl]at g;subst g;refine gD j F348 ?_;exact D
  |true=>
   rw[h2]at j i;cases R:Ac n with
   |false=>
    rw[R]at o i;rw[i,wR,zE rfl]at g;subst g;refine gB j F348 o F49 ?_;exact D
   |true=>
    have q3:=M2 n r R l.q;rw[R]at o i;rw[i,zD qx]at g;generalize Cg n l.q=d at *;by_cases I:d<0
    .have g4:decide (d<0)=true:=zL I;rw[zE I]at g;subst g;refine gB j F348 o F49 ?_;refine C q3 F112 ?_;exact D
    .have g4:decide (d<0)=false:=zJ I;rw[zD I]at g;subst g;refine gB j F348 o F49 ?_;refine C q3 F112 ?_;exact D):∀ (n:Ai) (r:n.Fin) (l:A2) (P:E7 l) (k:Int),Sp f0 [Aq n,Be l,Aa k] (.tup [Aa (Eh n l k).1,Aa (Eh n l k).2]):=h F0 J
def X3:=iH F351 ntmps351
def Ahv:=iH F353 ntmps353
def beg_ok{n:Ai}{l:A2}{k:Int}(h:(Eh n l k).2=0):Es n l k=true/\Ac n=true/\∃i:Nat,(Eh n l k).1=i/\i<n.j.length:=by
 unfold Eh at h|-;cases g:Es n l k with
 |false=>rw[g,zE rfl]at h;exact zW h qq
 |true=>
  rw[g,zD qx]at h;rw[zD qx];by_cases j:Cg n l.q<0
  .rw[zE j]at h;exact zW h qq
  .rw[zD j];refine⟨q_,?_,Qp j⟩;unfold Es at g;simp only[zG]at g;exact g.2.2
def ownerC(a:Int)(d:Device):Sp 360 [Bh d,.ref 1 (Bo a) 0] (Ab (d.aq==a)):=cT F360 ntmps360 λF g=>by
 exact gA
def Azt(n:Ai)(g:n.Fin)(a:Int):Sp 293 [Aq n,Bo a] (Aa (Ig n a)):=cT F293 ntmps293 λF i=>by
 have q:=Se n.j (λd=>d.aq==a) 360 [] [.ref 1 (Bo a) 0] rfl (λd _=>⟨⟨_,_,F360⟩,ownerC a d⟩) g.j;refine fW ?_;exact Bi 3 1 (Bo a) q_ q_ q_ (c0 q F259 gC)
def Bew(dev g:Int)(d:A0):Sp 359 [Ax d,.ref 1 (Aa dev) 0,.ref 1 (Aa g) 0] (Ab (d.q==dev&&(d.ao==g&&g != 0))):=cT F359 ntmps359 λF i=>by
 cases h:(d.q==dev)
 .exact gA
 .cases j:(d.ao==g)
  .exact gA
  .exact gA
def Ab6(n:Ai)(i:n.Fin)(dev g:Int):Sp 292 [Aq n,Aa dev,Aa g] (Aa (Xv n dev g)):=cT F292 ntmps292 λF j=>by
 have q:=Jz n.c (λd=>d.q==dev&&(d.ao==g&&g != 0)) 359 [] [.ref 1 (Aa dev) 0,.ref 1 (Aa g) 0] rfl (λd _=>⟨⟨_,_,F359⟩,Bew dev g d⟩) i.c;refine fW ?_;exact Bi 4 1 (Aa dev) q_ q_ q_ (Bi 5 1 (Aa g) q_ q_ q_ (c0 q F256 gC))
def Bev(dev g:Int)(f:Mg):Sp 358 [B6 f,.ref 1 (Aa dev) 0,.ref 1 (Aa g) 0] (Ab (f.q==dev&&f.ao==g)):=cT F358 ntmps358 λF i=>by
 cases h:(f.q==dev)
 .exact gA
 .exact gA
def Aqf(n:Ai)(i:n.Fin)(dev g:Int):Sp 291 [Aq n,Aa dev,Aa g] (Aa (Oc n dev g)):=cT F291 ntmps291 λF j=>by
 have q:=Aey n.y (λf=>f.q==dev&&f.ao==g) 358 [] [.ref 1 (Aa dev) 0,.ref 1 (Aa g) 0] rfl (λf _=>⟨⟨_,_,F358⟩,Bev dev g f⟩) i.y;refine fW ?_;exact Bi 4 1 (Aa dev) q_ q_ q_ (Bi 5 1 (Aa g) q_ q_ q_ (c0 q F357 gC))
def Beu(n:Ai)(r:n.Fin)(l:A2)(hl:E7 l):Sp 285 [Aq n,Be l] (.tup [Aq (E3 n l).1,Aa (E3 n l).2]):=cT F285 ntmps285 λF hF=>by
 have o:=X3 n r l hl 5;have t:=@beg_ok n l 5;have g:=E3.eq_1 n l;have R:=Azt n r l.addr;have q3:=Yb n r;generalize E3 n l=a0 at *;generalize Eh n l 5=b at *;obtain ⟨d,e⟩:=b;dsimp only at g t o;by_cases I:e≠0
 .have g1:(e != 0)=true:=by rw[xF];exact I
  rw[zE I]at g;subst g;refine gD o F351 ?_;exact An 4 (Eo Au) q_ vL gA
 have g1:(e != 0)=false:=by rw[bne_eq_false_iff_eq];omega
 rw[zD I]at g;obtain ⟨_,_,i,hi,J⟩:=t j_;subst hi;clear t;have j:(i:Int).toNat<n.j.length:=J;have fp:Af n.j (i:Int)=n.j[(i:Int).toNat]'j:=Aj j;rw[fp]at g;by_cases P:(n.j[(i:Int).toNat]'j).aq≠0
 .have g2:((n.j[(i:Int).toNat]'j).aq != 0)=true:=by rw[xF];exact P
  rw[zE (.inl P)]at g;subst g;refine gD o F351 ?_;exact An 4 (Eo Au) q_ vL gA
 have g2:((n.j[(i:Int).toNat]'j).aq != 0)=false:=by rw[bne_eq_false_iff_eq];omega
 by_cases p:0<=Ig n l.addr
 .have g3:decide (Ig n l.addr>=0)=true:=zL p;rw[zE (.inr p)]at g;subst g;refine gB o F351 R F293 ?_;exact An 4 (Eo Au) q_ vL gA
 have g3:decide (Ig n l.addr>=0)=false:=zJ p;rw[zD (λh=>h.elim P p)]at g;have bc:S4 n.j (i:Int) l.addr=n.j.set (i:Int).toNat { (n.j[(i:Int).toNat]'j) with aq:=l.addr}:=by rw[S4,fp]
 rw[bc]at g;subst g;have ag:n.j≠[]:=λe=>by rw[e]at J;cases J
 refine gB o F351 R F293 ?_;refine X (Ad [(0,901),(1,902),(2,903),(3,904),(4,905),(5,906),(6,907),(7,908)] q_ F79 q3 q_ W q_ V) ?_;refine⟨ag,?_⟩;refine T ?_;refine⟨{ (n.j[(i:Int).toNat]'j) with aq:=l.addr},rfl,rfl,?_⟩;refine T ?_;exact Ao 901 q_ (Ao 902 q_ (Ao 903 q_ (Ao 904 q_ (Ao 905 q_ (Ao 906 q_ (Ao 907 q_ (Ao 908 q_ D)))))))
def Bd4(n:Ai)(o:n.Fin)(l:A2)(r:E7 l):Sp 288 [Aq n,Be l] (.tup [Aq (Iv n l).1,Aa (Iv n l).2]):=cT F288 ntmps288 λF hF=>by
 have t:=@beg_ok n l 8;have g:=Iv.eq_1 n l;have j:=Ahv n o l r 8;have dr:=Yb n o;generalize Iv n l=a0 at *;generalize Eh n l 8=b at *;obtain ⟨d,e⟩:=b;dsimp only at g t j;by_cases I:e≠0
 .have g1:(e != 0)=true:=by rw[xF];exact I
  rw[zE I]at g;subst g;refine gD j F353 ?_;exact An 4 (Eo Au) q_ vL gA
 have g1:(e != 0)=false:=by rw[bne_eq_false_iff_eq];omega
 rw[zD I]at g;obtain ⟨_,hr,i,hi,ab⟩:=t j_;subst hi;clear t;have R:(i:Int).toNat<n.j.length:=ab;have fp:Af n.j (i:Int)=n.j[(i:Int).toNat]'R:=Aj R;clear fp;have pw:=r.fin.i;have a1:=r.fin.e;have J:=Ani n o hr (i:Int) l.name;have q5:=Qv l.ak j_;have q6:=Qv l.am j_;have je:n.ag.length<2147483648:=o.ag;generalize Agz n (i:Int) l.name=P at *;by_cases p:0<=P
 .have g2:decide (P>=0)=true:=zL p;rw[zE p]at g;subst g;refine gB j F353 J F354 ?_;exact An 4 (Eo Au) q_ vL gA
 have g2:decide (P>=0)=false:=zJ p;rw[zD p]at g;by_cases h5:n.ag.length=16
 .have g5:((n.ag.length:Int)==16)=true:=by rw[yL];omega
  rw[zE h5]at g;subst g;refine gB j F353 J F354 ?_;exact An 4 (Eo Au) q_ vL gA
 have g5:((n.ag.length:Int)==16)=false:=by rw[zU];omega
 rw[zD h5]at g;subst g;refine gB j F353 J F354 ?_;refine X (Ad [(0,901),(1,902),(2,903),(3,904),(4,905),(5,906),(6,907),(7,908)] q_ F79 dr q_ W q_ V) ?_;refine gN q5 F163 q6 F163 ?_;refine Xd (Ah Γ.toTy 51 q_ q_ q_ q_ q_ (.row q_) (.lit (e:=D5) (l:=[(⟨l.row,(i:Int),l.name,l.ak,l.am⟩:Vrf)]) q_ q_) qq (by simp only[yD];omega) (by simp only[yD];omega)) ?_;refine T ?_;exact Ao 901 q_ (Ao 902 q_ (Ao 903 q_ (Ao 904 q_ (Ao 905 q_ (Ao 906 q_ (Ao 51 q_ (Ao 908 q_ D)))))))
end Go.Sy.Zaa
namespace Go.Sy
def Amg{P:Program}(Γ:Ty P){o:Oper}{s:SS}(d q:Nat){m:Type}{e:m->SV}{l:List m}(z:m){g:SV}{t:TypeId}{J:TI}{et:TypeId}{sz R:Nat}{ez:List Value}{x y:Operand}{k:Option Nat}(h:o.op=.call ⟨.builtin .append,#[x,y],#[t,t]⟩)(hd:s.h d=.fresh)(ht:Γ.get t=some J)(hk:J.k=.slice et sz R ez)(nq:ez.length=sz)(p:Agy s sz e (ev s x) k l)(hy:ev s y=.osl q)(hq:s.h q=.lit sz [g])(hv:∀(M:Nat->Prop) (w:World) (v:Value),D3 M w g v->D3 M w (e z) v)(pp:∀j,k=some j->j≠d)(bz:(l.length+1)*R<=140737488355328)(pn:l.length+1<=9223372036854775807):Good P o s ⟨.osl d,[q],O9 k d (.row sz e (l++[z]))⟩:=by
 obtain ⟨f,p,hf⟩:=p.base;have hs:Tl s sz (ev s y) [q] 1 (Al6 [g]):=by
  rw[hy];exact Tl.lit (sz:=sz) hq
 refine Agd Γ h hd ht hk nq p hs pp bz pn λa w hr=>?_
 rcases hr with ⟨_,h2⟩|⟨b,cap,cs,T,fr,e1,e2,e3,e4,e5,e6⟩
 .omega
 .refine .inr ⟨b,cap,cs,T,fr,kS e1,e2,e3,e4,kS e5,λi x r=>?_⟩;obtain ⟨hi,rfl⟩:=r;have jg:i<l.length+1:=kS hi;by_cases I:i<l.length
  .have r:U9 e l i ((l++[z])[i] |> e):=⟨I,by rw[yZ I]⟩
   obtain ⟨a1,a2⟩:=e6 i _ (.inl ⟨I,hf i _ r⟩);exact⟨kS a1,a2⟩
  .have ui:i=l.length:=by omega
   subst ui;obtain ⟨a1,u,hu,dt⟩:=e6 l.length g (.inr ⟨yG _,by rw[uU];rfl⟩);refine⟨by simp,u,?_,dt⟩;have:=hv _ _ u hu;simpa using this
end Go.Sy
