/- Parts of a proof. -/
import Derived.Test.YtodbnbfjhjcanaaGreatDoorXB15
set_option maxHeartbeats 4000000
set_option linter.all false
namespace Go.Sy.Zaa
open Go.Proofs Go.Proofs.Tryz
section
def emptyN:Net:=⟨[],[],[],[],[],[],[],[]⟩
def fitsB(n:Net)(l:LineM)(k:Int):Bool:=l.kind==k&&(D6 l&&Ac n)
def Ci(n:Net)(s:ByteArray):Int:=Bs (λd:Device=>d.name==s) n.devices
def Sg(n:Net)(dev:Int)(s:ByteArray):Int:=Bs (λp:Port=>p.dev==dev&&p.name==s) n.ports
def oM(n:Net)(dev:Int)(s:ByteArray):Int:=Bs (λv:Vrf=>v.dev==dev&&v.name==s) n.vrfs
def putDevice(n:Net)(l:LineM):Net×Int :=
 if fitsB n l 1=false then (emptyN,2) else if n.devices.any (λd=>d.name==l.dev||d.mac==l.mac)=true then (emptyN,30) else if n.devices.length=8 then (emptyN,3)
 else ({n with devices:=n.devices++[⟨l.row,l.num,l.dev,l.mac,0⟩]},0)
def C2(dev:Int)(ds:List Domain)(v:Int):List Domain:=if 0<v/\ds.any (λd=>d.dev==dev&&d.vlan==v)=false then ds++[⟨dev,v,0,-1,0,[]⟩] else ds
def Bm(dev:Int)(ds:List Domain)(l:List Int):List Domain:=l.foldl (C2 dev) ds
def putPort(n:Net)(l:LineM):Net×Int :=
 if fitsB n l 2=false then (emptyN,2) else if Ci n l.dev<0 then (emptyN,31) else if 0<=Sg n (Ci n l.dev) l.port then (emptyN,30) else if n.ports.length=40 then (emptyN,3)
 else if 48<(Bm (Ci n l.dev) n.domains (l.vlan::l.tagged)).length then (emptyN,3)
 else ({n with ports:=n.ports++[⟨l.row,Ci n l.dev,l.vlan,l.cost,-1,l.port,l.tagged⟩],domains:=Bm (Ci n l.dev) n.domains (l.vlan::l.tagged)},0)
def endI(n:Net)(dev port:ByteArray):Int:=if Ci n dev<0 then -1 else Sg n (Ci n dev) port
def H2(l:List Port)(i k:Int):List Port:=l.set i.toNat {nth l i with link:=k}
def putLink(n:Net)(l:LineM):Net×Int :=
 if fitsB n l 3=false then (emptyN,2) else
 let a:=endI n l.dev l.port
 let b:=endI n l.peer l.far
 if a<0\/b<0 then (emptyN,31) else if (nth n.ports a).dev=(nth n.ports b).dev\/0<=(nth n.ports a).link\/0<=(nth n.ports b).link then (emptyN,33) else if n.links.length=20 then (emptyN,3)
 else ({n with ports:=H2 (H2 n.ports a n.links.length) b n.links.length,links:=n.links++[⟨l.row,a,b⟩]},0)
def Ajb(n:Net)(d mac:Int):Int:=Bs (λs:Static=>s.domain==d&&s.mac==mac) n.statics
def putStatic(n:Net)(l:LineM):Net×Int :=
 if fitsB n l 4=false then (emptyN,2) else
 let dev:=Ci n l.dev
 let port:=Sg n dev l.port
 let dom:=C8 n dev l.vlan
 if dev<0\/port<0 then (emptyN,31) else if dom<0\/Cy (nth n.ports port) l.vlan=false then (emptyN,32) else if 0<=Ajb n dom l.mac then (emptyN,30) else if n.statics.length=64 then (emptyN,3)
 else ({n with statics:=n.statics++[⟨l.row,dom,port,l.mac⟩]},0)
def C6(n:Net)(a:Int):Int:=Bs (λd:Device=>d.vtep==a) n.devices
def Jr(n:Net)(dev vni:Int):Int:=Bs (λd:Domain=>d.dev==dev&&(d.vni==vni&&vni != 0)) n.domains
def Ej(n:Net)(dev vni:Int):Int:=Bs (λf:Flood=>f.dev==dev&&f.vni==vni) n.floods
def begT(n:Net)(l:LineM)(k:Int):Int×Int:=if fitsB n l k=false then (0,2) else if Ci n l.dev<0 then (0,31) else (Ci n l.dev,0)
def Zu(l:List Device)(i a:Int):List Device:=l.set i.toNat {nth l i with vtep:=a}
def putVtep(n:Net)(l:LineM):Net×Int :=
 if (begT n l 5).2≠0 then (emptyN,(begT n l 5).2) else
 let dev:=(begT n l 5).1
 if (nth n.devices dev).vtep≠0\/0<=C6 n l.addr then (emptyN,30) else ({n with devices:=Zu n.devices dev l.addr},0)
def putVni(n:Net)(l:LineM):Net×Int :=
 if (begT n l 6).2≠0 then (emptyN,(begT n l 6).2) else
 let dev:=(begT n l 6).1
 let at_:=C8 n dev l.vlan
 if (nth n.devices dev).vtep=0 then (emptyN,35) else if at_<0 then (emptyN,32) else if (nth n.domains at_).vni≠0\/0<=Jr n dev l.num then (emptyN,30)
 else ({n with domains:=n.domains.set at_.toNat {nth n.domains at_ with vni:=l.num,row:=l.row} },0)
def putFlood(n:Net)(l:LineM):Net×Int :=
 if (begT n l 7).2≠0 then (emptyN,(begT n l 7).2) else
 let dev:=(begT n l 7).1
 if Jr n dev l.num<0 then (emptyN,31) else if 0<=Ej n dev l.num then (emptyN,30) else if inB l.addrs (nth n.devices dev).vtep=true then (emptyN,36) else if n.floods.length=48 then (emptyN,3)
 else ({n with floods:=n.floods++[⟨l.row,dev,l.num,l.addrs⟩]},0)
def putVrf(n:Net)(l:LineM):Net×Int :=
 if (begT n l 8).2≠0 then (emptyN,(begT n l 8).2) else
 let dev:=(begT n l 8).1
 if 0<=oM n dev l.name then (emptyN,30) else if n.vrfs.length=16 then (emptyN,3)
 else ({n with vrfs:=n.vrfs++[⟨l.row,dev,l.name,l.imports,l.exports⟩]},0)
def Uc(a bits x:Int):Bool:=decide (0<=bits)&&(decide (bits<=32)&&Eg a bits==Eg x bits)
def clashB(n:Net)(dev a bits:Int)(x:Irb):Bool:=x.addr==a||((nth n.vrfs x.vrf).dev != dev&&(Uc x.addr x.bits a||Uc a bits x.addr))
def putIrb(n:Net)(l:LineM):Net×Int :=
 if (begT n l 9).2≠0 then (emptyN,(begT n l 9).2) else
 let dev:=(begT n l 9).1
 let vrf:=oM n dev l.name
 let at_:=C8 n dev l.vlan
 if vrf<0 then (emptyN,31) else if at_<0 then (emptyN,32) else if 0<=(nth n.domains at_).irb\/n.irbs.any (clashB n dev l.addr l.bits)=true then (emptyN,37)
 else ({n with domains:=n.domains.set at_.toNat {nth n.domains at_ with irb:=n.irbs.length},irbs:=n.irbs++[⟨l.row,at_,vrf,l.addr,l.bits⟩]},0)
def putT(n:Net)(l:LineM):Net×Int :=
 if l.kind=1 then putDevice n l else if l.kind=2 then putPort n l else if l.kind=3 then putLink n l else if l.kind=4 then putStatic n l else if l.kind=5 then putVtep n l
 else if l.kind=6 then putVni n l else if l.kind=7 then putFlood n l else if l.kind=8 then putVrf n l else if l.kind=9 then putIrb n l else (emptyN,2)
def agreeA(n:Net)(f:Flood)(a:Int):Bool :=
 let dev:=C6 n a
 decide (0<=dev) && (a != 0 && (decide (0<=Jr n dev f.vni) && (decide (0<=Ej n dev f.vni) &&
  (inB (nth n.floods (Ej n dev f.vni)).addrs (nth n.devices f.dev).vtep && f.addrs.all λ b=>b == a || inB (nth n.floods (Ej n dev f.vni)).addrs b))))
def agreesB(n:Net)(f:Flood):Bool:=decide (0<=Jr n f.dev f.vni)&&f.addrs.all (agreeA n f)
def peersT(n:Net)(d:Domain):List Int:=if d.vni≠0/\0<=Ej n d.dev d.vni then (nth n.floods (Ej n d.dev d.vni)).addrs.map (λa=>Jr n (C6 n a) d.vni) else []
def Bz(n:Net):Net:={n with domains:=n.domains.map λd=>{d with peers:=peersT n d} }
def meshNT(n:Net):Net×Int×Int :=
 if Ac n=false then (emptyN,0,2) else match n.floods.find? (λf=>!(agreesB n f)) with
 |some f=>(emptyN,f.row,36)
 |none=>if Ac (Bz n)=false then (emptyN,0,36) else (Bz n,0,0)
def Dz(f:List Int):Prop:=∀i (h:i<f.length),0<=f[i]/\f[i]<=i
def Akd:Nat->List Int->Int->List Int×Int
 |0,f,i=>(f,i)
 |k+1,f,i=>if nth f i=i then (f,i) else Akd k (f.set i.toNat (nth f (nth f i))) (nth f (nth f i))
def Mr(f:List Int)(i:Int):List Int×Int:=Akd (i.toNat+1) f i
def Y6(f:List Int)(a b:Int):List Int×Bool :=
 let x:=Mr f a
 let y:=Mr x.1 b
 (y.1.set (max x.2 y.2).toNat (min x.2 y.2),x.2 != y.2)
def Qq(k:Nat):List Int:=(List.range k).map λi:Nat=>(i:Int)
def Ec(n:Net)(f:List Int)(i:Int)(v:Int):List Int:=if (linkDomT n i v).2=true then (Y6 f (C8 n (nth n.ports i).dev v) (linkDomT n i v).1).1 else f
def Jy(n:Net)(f:List Int)(i:Nat):List Int:=((nth n.ports i).tagged++[(nth n.ports i).native]).foldl (λf v=>Ec n f i v) f
def Xx(n:Net)(f:List Int):List Int:=(List.range n.ports.length).foldl (Jy n) f
def Aev:Int->List Int->Int
 |m,[]=>m
 |m,x::l=>Aev (min m x) l
def Alu(l:List Int):Int:=Aev (nth l 0) (l.drop 1)
def Uj(n:Net):List Int->Nat->List Domain->Int×Bool
 |_,_,[]=>(0,false)
 |f,i,d::r=>if d.peers=[] then Uj n f (i+1) r else
  let x:=Y6 f i ((n.domains.length:Int)+min (i:Int) (Alu d.peers))
  if x.2=false then (d.row,true) else Uj n x.1 (i+1) r
def loopT(n:Net):Int×Bool:=if Ac n=false then (0,false) else Uj n (Xx n (Qq (2*n.domains.length))) 0 n.domains
def finishT(n:Net):Net×Int×Int:=if (meshNT n).2.2≠0 then meshNT n else if (loopT (meshNT n).1).2=true then (emptyN,(loopT (meshNT n).1).1,38) else ((meshNT n).1,0,0)
def Bv:Net->List LineM->Net×Int×Int
 |n,[]=>finishT n
 |n,l::r=>if (putT n l).2≠0 then (emptyN,l.row,(putT n l).2) else Bv (putT n l).1 r
def Do(l:List LineM):Net×Int×Int:=Bv emptyN l
def netTextT(b:List UInt8):Net×Int×Int:=if (textT b).2.2≠0 then (emptyN,(textT b).2.1,(textT b).2.2) else Do (textT b).1
attribute [local irreducible]G DR
set_option maxRecDepth 100000
theorem iF{A0:Type}(v0:A0->SV)(z0:Nat){f0 m0:Nat}{g0:Func}(F0:fT f0 g0)(n0:g0.ntmps=m0)(h:let A0:Type:=A0;let v0:A0->SV:=v0;let z0:=z0;fT f0 g0->g0.ntmps=m0->∀ (l:List A0) (hl:l.length<2147483648),Sq f0 [.sl z0 v0 l] [] (.osl 0) [(0,.row z0 v0 l)]:=by
 intro A0 v0 z0 F0 n0 l hl
 refine cT F0 n0 λF hF=>?_
 refine fW ?_;refine Hk E (.inl E) E E E .sl E E ?_;intro b hb;cases b
 .refine fU ?_;refine Aj (Ah Γ.toTy 7 E E E E E (.lit (e:=v0) (l:=[]) E E) .sl y_ kO kO) E E (fU ?_);exact done E Aq [(0,7)] [(0,.row z0 v0 l)] (λ_ h=>h) E E kU
 .have h0:l=[]:=yC (hb rfl);subst h0;refine fU ?_;refine Ca 2 1000 z0 v0 E E ?_;exact done E Aq [(0,1000)] [(0,.row z0 v0 [])] (λ _ h=>h) E E kU):∀ (l:List A0) (hl:l.length<2147483648),Sq f0 [.sl z0 v0 l] [] (.osl 0) [(0,.row z0 v0 l)]:=h F0 n0
def Afd:=iF A1 5 F162 ntmps162
def Anv:=iF Ck 3 F164 ntmps164
def Afc:=iF Bc 4 F166 ntmps166
def Asj:=iF Cq 5 F169 ntmps169
def Ss(n:Net)(hn:n.Fin):Sq 102 [Am n] [] (.agg [.osl 0,.osl 1,.osl 2,.osl 3,.osl 4,.osl 5,.osl 6,.osl 7]) [(0,.row 5 A1 n.devices),(1,.row 7 Bb n.ports),(2,.row 3 Ck n.links),(3,.row 6 At n.domains),(4,.row 4 Bc n.statics),(5,.row 4 Bn n.floods),(6,.row 5 Ct n.vrfs),(7,.row 5 Cq n.irbs)]:=cT F102 ntmps102 λF hF=>by
 have h1:n.devices.length<2147483648/\n.ports.length<2147483648/\n.links.length<2147483648/\n.domains.length<2147483648/\n.statics.length<2147483648/\n.floods.length<2147483648/\n.vrfs.length<2147483648/\n.irbs.length<2147483648:=⟨hn.devices,hn.ports,hn.links,hn.domains,hn.statics,hn.floods,hn.vrfs,hn.irbs⟩
 have h2:(∀p∈n.ports,p.tagged.length<2147483648)/\(∀p∈n.domains,p.peers.length<2147483648)/\(∀p∈n.floods,p.addrs.length<2147483648)/\(∀p∈n.vrfs,p.imports.length<2147483648/\p.exports.length<2147483648):=⟨hn.tagged,hn.peers,hn.addrs,λv hv=>⟨hn.imports v hv,hn.exports v hv⟩⟩
 refine fW ?_;refine Ce (Ad [(0,11)] E F162 (Afd n.devices h1.1) E Y E ⟨.inr E,Y⟩) z_ E (fU ?_);refine Ce (Ad [(0,14)] E F163 (Asi n.ports h1.2.1) E Y E ⟨.inr E,Y⟩) z_ E (fU ?_);refine Ce (Ad [(0,17)] E F164 (Anv n.links h1.2.2.1) E Y E ⟨.inr E,Y⟩) z_ E (fU ?_);refine Ce (Ad [(0,20)] E F165 (Ajo n.domains h1.2.2.2.1) E Y E ⟨.inr E,Y⟩) z_ E (fU ?_);refine Ce (Ad [(0,23)] E F166 (Afc n.statics h1.2.2.2.2.1) E Y E ⟨.inr E,Y⟩) z_ E (fU ?_);refine Ce (Ad [(0,26)] E F167 (Anw n.floods h1.2.2.2.2.2.1) E Y E ⟨.inr E,Y⟩) z_ E (fU ?_);refine Ce (Ad [(0,29)] E F168 (Ax1 n.vrfs h1.2.2.2.2.2.2.1) E Y E ⟨.inr E,Y⟩) z_ E (fU ?_);refine Ce (Ad [(0,32)] E F169 (Asj n.irbs h1.2.2.2.2.2.2.2) E Y E ⟨.inr E,Y⟩) z_ E (fU ?_);refine⟨z_,?_⟩;refine fW ?_;refine Bg n.ports.length (λj=>[(2,.ptr 2 0),(3,.ptr 3 0),(36,Aa n.ports.length),(37,Aa j)]) (λ_=>[(2,.box [svN,svN,svN,svN,svN,svN,svN,svN]),(3,.box [.osl 11,.osl 14,.osl 17,.osl 20,.osl 23,.osl 26,.osl 29,.osl 32]),(11,.row 5 A1 n.devices),(14,.row 7 Bb n.ports),(17,.row 3 Ck n.links),(20,.row 6 At n.domains),(23,.row 4 Bc n.statics),(26,.row 4 Bn n.floods),(29,.row 5 Ct n.vrfs),(32,.row 5 Cq n.irbs)]) []
  kU ?_
 intro j hj;refine gJ ?_ ?_<;>intro h
 .have ab:j<n.ports.length:=by simpa using h
  obtain ⟨p,hp⟩:=kE (n.ports[(j:Int).toNat]'q_);have af:n.ports≠[]:=λe=>by rw[e]at ab;cases ab
  have bh:n.ports.set (j:Int).toNat p=n.ports:=by rw[<-hp];exact uO _
  have ay:=h2.1 p (by rw[<-hp];exact zI _);refine fU ?_;refine⟨by omega,by show _<n.ports.length;omega,?_⟩;refine fW ?_;refine⟨af,?_⟩;refine fW ?_;refine⟨E,by omega,?_⟩;rw[hp];refine fW ?_;refine cD (Ku p.tagged ay) F170 (fU ?_);refine⟨by omega,by show _<n.ports.length;omega,?_⟩;refine fW ?_;refine⟨af,?_⟩;refine fW ?_;refine⟨E,by omega,p,(by rw[hp];rfl),(by rw[hp];rfl),?_⟩;refine fW ?_;refine⟨z_,?_⟩;refine gO ?_;exact Az [] ab ⟨kA,⟨.inl E,E,.inl E,E,.inl E,E,.inl (zH (Ob.row 7 Bb) bh.symm),E,.inl E,E,.inl E,E,.inl E,E,.inl E,E,.inl E,E,.inl E,E,Y⟩,E,E⟩
 .refine fU ?_;refine Bg n.domains.length (λj=>[(2,.ptr 2 0),(3,.ptr 3 0),(55,Aa n.domains.length),(56,Aa j)]) (λ_=>[(2,.box [svN,svN,svN,svN,svN,svN,svN,svN]),(3,.box [.osl 11,.osl 14,.osl 17,.osl 20,.osl 23,.osl 26,.osl 29,.osl 32]),(11,.row 5 A1 n.devices),(14,.row 7 Bb n.ports),(17,.row 3 Ck n.links),(20,.row 6 At n.domains),(23,.row 4 Bc n.statics),(26,.row 4 Bn n.floods),(29,.row 5 Ct n.vrfs),(32,.row 5 Cq n.irbs)]) []
   kU ?_
  intro j hj;refine gJ ?_ ?_<;>intro h
  .have ab:j<n.domains.length:=by simpa using h
   obtain ⟨p,hp⟩:=kE (n.domains[(j:Int).toNat]'q_);have af:n.domains≠[]:=λe=>by rw[e]at ab;cases ab
   have bh:n.domains.set (j:Int).toNat p=n.domains:=by rw[<-hp];exact uO _
   have ay:=h2.2.1 p (by rw[<-hp];exact zI _);refine fU ?_;refine⟨by omega,by show _<n.domains.length;omega,?_⟩;refine fW ?_;refine⟨af,?_⟩;refine fW ?_;refine⟨E,by omega,?_⟩;rw[hp];refine fW ?_;refine cD (Ku p.peers ay) F170 (fU ?_);refine⟨by omega,by show _<n.domains.length;omega,?_⟩;refine fW ?_;refine⟨af,?_⟩;refine fW ?_;refine⟨E,by omega,p,(by rw[hp];rfl),(by rw[hp];rfl),?_⟩;refine fW ?_;refine⟨z_,?_⟩;refine gO ?_;exact Az [] ab ⟨kA,⟨.inl E,E,.inl E,E,.inl E,E,.inl E,E,.inl E,E,.inl (zH (Ob.row 6 At) bh.symm),E,.inl E,E,.inl E,E,.inl E,E,.inl E,E,Y⟩,E,E⟩
  .refine fU ?_;refine Bg n.floods.length (λj=>[(2,.ptr 2 0),(3,.ptr 3 0),(74,Aa n.floods.length),(75,Aa j)]) (λ_=>[(2,.box [svN,svN,svN,svN,svN,svN,svN,svN]),(3,.box [.osl 11,.osl 14,.osl 17,.osl 20,.osl 23,.osl 26,.osl 29,.osl 32]),(11,.row 5 A1 n.devices),(14,.row 7 Bb n.ports),(17,.row 3 Ck n.links),(20,.row 6 At n.domains),(23,.row 4 Bc n.statics),(26,.row 4 Bn n.floods),(29,.row 5 Ct n.vrfs),(32,.row 5 Cq n.irbs)]) []
    kU ?_
   intro j hj;refine gJ ?_ ?_<;>intro h
   .have ab:j<n.floods.length:=by simpa using h
    obtain ⟨p,hp⟩:=kE (n.floods[(j:Int).toNat]'q_);have af:n.floods≠[]:=λe=>by rw[e]at ab;cases ab
    have bh:n.floods.set (j:Int).toNat p=n.floods:=by rw[<-hp];exact uO _
    have ay:=h2.2.2.1 p (by rw[<-hp];exact zI _);refine fU ?_;refine⟨by omega,by show _<n.floods.length;omega,?_⟩;refine fW ?_;refine⟨af,?_⟩;refine fW ?_;refine⟨E,by omega,?_⟩;rw[hp];refine fW ?_;refine cD (Ag8 p.addrs ay) F171 (fU ?_);refine⟨by omega,by show _<n.floods.length;omega,?_⟩;refine fW ?_;refine⟨af,?_⟩;refine fW ?_;refine⟨E,by omega,p,(by rw[hp];rfl),(by rw[hp];rfl),?_⟩;refine fW ?_;refine⟨z_,?_⟩;refine gO ?_;exact Az [] ab ⟨kA,⟨.inl E,E,.inl E,E,.inl E,E,.inl E,E,.inl E,E,.inl E,E,.inl E,E,.inl (zH (Ob.row 4 Bn) bh.symm),E,.inl E,E,.inl E,E,Y⟩,E,E⟩
   .refine fU ?_;refine Bg n.vrfs.length (λj=>[(2,.ptr 2 0),(3,.ptr 3 0),(93,Aa n.vrfs.length),(94,Aa j)]) (λ_=>[(2,.box [svN,svN,svN,svN,svN,svN,svN,svN]),(3,.box [.osl 11,.osl 14,.osl 17,.osl 20,.osl 23,.osl 26,.osl 29,.osl 32]),(11,.row 5 A1 n.devices),(14,.row 7 Bb n.ports),(17,.row 3 Ck n.links),(20,.row 6 At n.domains),(23,.row 4 Bc n.statics),(26,.row 4 Bn n.floods),(29,.row 5 Ct n.vrfs),(32,.row 5 Cq n.irbs)]) []
     kU ?_
    intro j hj;refine gJ ?_ ?_<;>intro h
    .have ab:j<n.vrfs.length:=by simpa using h
     obtain ⟨p,hp⟩:=kE (n.vrfs[(j:Int).toNat]'q_);have af:n.vrfs≠[]:=λe=>by rw[e]at ab;cases ab
     have bh:n.vrfs.set (j:Int).toNat p=n.vrfs:=by rw[<-hp];exact uO _
     have ay:=h2.2.2.2 p (by rw[<-hp];exact zI _);refine fU ?_;have t6:n.vrfs.set (j:Int).toNat p≠[]:=by rw[bh];exact af
     have em:(n.vrfs.set (j:Int).toNat p)[(j:Int).toNat]'(by rw[bh];omega)=p:=by simp
     have y8:(n.vrfs.set (j:Int).toNat p).set (j:Int).toNat p=n.vrfs:=by rw[bh,bh]
     refine⟨by omega,by show _<n.vrfs.length;omega,?_⟩;refine fW ?_;refine Ce (Hd E (.inr (.inr (.inr ⟨29,5,_,0,E,λk w h=>Xp af h,E⟩)))) z_ E (fU ?_);refine⟨af,?_⟩;refine fW ?_;refine⟨E,by omega,?_⟩;rw[hp];refine fW ?_;refine cD (Ku p.imports ay.1) F170 (fU ?_);refine Ce (Hd E (.inr (.inr (.inr ⟨29,5,_,0,E,λk w h=>Xp af h,E⟩)))) z_ E (fU ?_);refine⟨af,?_⟩;refine fW ?_;refine⟨E,by omega,?_⟩;rw[hp];refine fW ?_;refine cD (Ku p.exports ay.2) F170 (fU ?_);refine Ce (Hd E (.inr (.inr (.inr ⟨29,5,_,0,E,λk w h=>Xp af h,E⟩)))) z_ E (fU ?_);refine⟨af,?_⟩;refine fW ?_;refine⟨E,by omega,p,(by rw[hp];rfl),(by rw[hp];rfl),?_⟩;refine fW ?_;refine Ce (Hd E (.inr (.inr (.inr ⟨29,5,_,0,E,λk w h=>Xp t6 h,E⟩)))) z_ E (fU ?_);refine⟨t6,?_⟩;refine fW ?_;refine⟨E,by rw[bh];omega,p,(by rw[em];rfl),(by rw[em];rfl),?_⟩;refine fW ?_;refine⟨z_,?_⟩;refine gO ?_;exact Az [] ab ⟨kA,⟨.inl E,E,.inl E,E,.inl E,E,.inl E,E,.inl E,E,.inl E,E,.inl E,E,.inl E,E,.inl (zH (Ob.row 5 Ct) y8.symm),E,.inl E,E,Y⟩,E,E⟩
    .refine fU ?_;exact done E (.cons (.cell E E E E) .nil) [(0,11),(1,14),(2,17),(3,20),(4,23),(5,26),(6,29),(7,32)] [(0,.row 5 A1 n.devices),(1,.row 7 Bb n.ports),(2,.row 3 Ck n.links),(3,.row 6 At n.domains),(4,.row 4 Bc n.statics),(5,.row 4 Bn n.floods),(6,.row 5 Ct n.vrfs),(7,.row 5 Cq n.irbs)] (λ_ h=>h) E E kU
set_option maxRecDepth 20000
def Lc:=iA A1 5 F226 ntmps226
def fQ:=iA Bn 4 F358 ntmps358
def Acr:=iA Ct 5 F414 ntmps414
def W8(l:List Device)(p:Device->Bool)(f:FuncId)(first cap:List SV)(hc:(SV.clo (.func f) first cap).inn []=true)(hf:∀x∈l,Hg prog f (first++[A1 x]++cap) (Ab (p x)))(hl:An l):Sp 346 [.sl 5 A1 l,.clo (.func f) first cap] (Ab (decide (0<=Bs p l))):=cT F346 ntmps346 λF hF=>by
 have h0:B7 [] [.sl 5 A1 l,.clo (.func f) first cap]=true:=by simp only[B7,hc];rfl
 refine fW ?_;exact M4 (Lc l p f first cap hc hf hl) F226 E E (by simp only[h0];rfl) E E gD
def Mp(l:List Domain)(p:Domain->Bool)(f:FuncId)(first cap:List SV)(hc:(SV.clo (.func f) first cap).inn []=true)(hf:∀x∈l,Hg prog f (first++[At x]++cap) (Ab (p x)))(hl:An l):Sp 388 [.sl 6 At l,.clo (.func f) first cap] (Ab (decide (0<=Bs p l))):=cT F388 ntmps388 λF hF=>by
 have h0:B7 [] [.sl 6 At l,.clo (.func f) first cap]=true:=by simp only[B7,hc];rfl
 refine fW ?_;exact M4 (E9 l p f first cap hc hf hl) F222 E E (by simp only[h0];rfl) E E gD
def Ai8(n:Net)(hn:n.Fin)(l:List Device)(p:Device->Bool)(f:FuncId)(first cap:List SV)(hc:(SV.clo (.func f) first cap).inn []=true)(hf:∀x∈l,Hg prog f (first++[A1 x]++cap) (Ab (p x)))(hl:An l):Sp 158 [Am n,.sl 5 A1 l,.clo (.func f) first cap] (Aa (if Ac n=true then Bs p l else -1)):=cT F158 ntmps158 λF hF=>by
 have hr:=A2 n hn;have q:=Lc l p f first cap hc hf hl
 refine gP hr F39 ?_;cases hb:Ac n
 .rw[zD y_];exact gD
 rw[zE rfl];refine fU ?_;exact M4 q F226 E E (by simp only[B7,hc,uH];rfl) E E gD
def Arx(n:Net)(hn:n.Fin)(l:List Port)(p:Port->Bool)(f:FuncId)(first cap:List SV)(hc:(SV.clo (.func f) first cap).inn []=true)(hf:∀x∈l,Hg prog f (first++[Bb x]++cap) (Ab (p x)))(hl:An l):Sp 156 [Am n,.sl 7 Bb l,.clo (.func f) first cap] (Aa (if Ac n=true then Bs p l else -1)):=cT F156 ntmps156 λF hF=>by
 have hr:=A2 n hn;have q:=U8 l p f first cap hc hf hl
 refine gP hr F39 ?_;cases hb:Ac n
 .rw[zD y_];exact gD
 rw[zE rfl];refine fU ?_;exact M4 q F225 E E (by simp only[B7,hc,uH];rfl) E E gD
def Axo(n:Net)(hn:n.Fin)(l:List Vrf)(p:Vrf->Bool)(f:FuncId)(first cap:List SV)(hc:(SV.clo (.func f) first cap).inn []=true)(hf:∀x∈l,Hg prog f (first++[Ct x]++cap) (Ab (p x)))(hl:An l):Sp 395 [Am n,.sl 5 Ct l,.clo (.func f) first cap] (Aa (if Ac n=true then Bs p l else -1)):=cT F395 ntmps395 λF hF=>by
 have hr:=A2 n hn;have q:=Acr l p f first cap hc hf hl
 refine gP hr F39 ?_;cases hb:Ac n
 .rw[zD y_];exact gD
 rw[zE rfl];refine fU ?_;exact M4 q F414 E E (by simp only[B7,hc,uH];rfl) E E gD
def Aiq(s:ByteArray)(d:Device):Sp 159 [A1 d,.ref 1 (As s) 0] (Ab (d.name==s)):=cT F159 ntmps159 λF hF=>by
 exact gA
def Aqt(dev:Int)(s:ByteArray)(p:Port):Sp 157 [Bb p,.ref 1 (Aa dev) 0,.ref 1 (As s) 0] (Ab (p.dev==dev&&p.name==s)):=cT F157 ntmps157 λF hF=>by
 cases h:(p.dev==dev)
 .exact gA
 .exact gA
def Awi(dev:Int)(s:ByteArray)(p:Vrf):Sp 396 [Ct p,.ref 1 (Aa dev) 0,.ref 1 (As s) 0] (Ab (p.dev==dev&&p.name==s)):=cT F396 ntmps396 λF hF=>by
 cases h:(p.dev==dev)
 .exact gA
 .exact gA
def Je(n:Net)(hn:n.Fin)(hr:Ac n=true)(s:ByteArray):Sp 96 [Am n,As s] (Aa (Ci n s)):=cT F96 ntmps96 λF hF=>by
 have q:=Ai8 n hn n.devices (λd=>d.name==s) 159 [] [.ref 1 (As s) 0] rfl (λd _=>⟨⟨_,_,F159⟩,Aiq s d⟩) hn.devices;rw[zE hr]at q;refine fW ?_;exact Bf 3 1 (As s) E E E (c0 q F158 gD)
def Uh(n:Net)(hn:n.Fin)(hr:Ac n=true)(dev:Int)(s:ByteArray):Sp 95 [Am n,Aa dev,As s] (Aa (Sg n dev s)):=cT F95 ntmps95 λF hF=>by
 have q:=Arx n hn n.ports (λp=>p.dev==dev&&p.name==s) 157 [] [.ref 1 (Aa dev) 0,.ref 1 (As s) 0] rfl (λd _=>⟨⟨_,_,F157⟩,Aqt dev s d⟩) hn.ports;rw[zE hr]at q;refine fW ?_;exact Bf 4 1 (Aa dev) E E E (Bf 5 1 (As s) E E E (c0 q F156 gD))
def Af2(n:Net)(hn:n.Fin)(hr:Ac n=true)(dev:Int)(s:ByteArray):Sp 355 [Am n,Aa dev,As s] (Aa (oM n dev s)):=cT F355 ntmps355 λF hF=>by
 have q:=Axo n hn n.vrfs (λp=>p.dev==dev&&p.name==s) 396 [] [.ref 1 (Aa dev) 0,.ref 1 (As s) 0] rfl (λd _=>⟨⟨_,_,F396⟩,Awi dev s d⟩) hn.vrfs;rw[zE hr]at q;refine fW ?_;exact Bf 4 1 (Aa dev) E E E (Bf 5 1 (As s) E E E (c0 q F395 gD))
def L6(n:Net)(hn:n.Fin)(hr:Ac n=true)(dev vlan:Int):Sp 181 [Am n,Aa dev,Aa vlan] (Aa (C8 n dev vlan)):=by
 have q:=K5 n hn dev vlan;rwa [B5,zE hr]at q
set_option maxRecDepth 100000
def Kq{k:Type}{p:k->Bool}{l:List k}(h:¬Bs p l<0):∃i:Nat,Bs p l=i/\i<l.length:=by
 have:=Iw p l;exact⟨(Bs p l).toNat,by omega,by omega⟩
theorem iH{f0 m0:Nat}{g0:Func}(F0:fT f0 g0)(n0:g0.ntmps=m0)(h:fT f0 g0->g0.ntmps=m0->∀ (n:Net) (hn:n.Fin) (l:LineM) (hl:LineW l) (k:Int),Sp f0 [Am n,A5 l,Aa k] (.tup [Aa (begT n l k).1,Aa (begT n l k).2]):=by
 intro F0 n0 n hn l hl k
 refine cT F0 n0 λF hF=>?_
 have q1:=Lt l hl;have q2:=A2 n hn;have aa:=begT.eq_1 n l k;have hf:=fitsB.eq_1 n l k;generalize begT n l k=res at *;generalize fitsB n l k=f at *;cases h1:(l.kind==k) with
 |false=>
  have g1:(l.kind != k)=true:=by rw[bne,h1];rfl
  rw[h1,yF]at hf;rw[hf,zE rfl]at aa;subst aa;exact gA
 |true=>
  have g1:(l.kind != k)=false:=by rw[bne,h1];rfl
  rw[h1,yG]at hf;cases h2:D6 l with
  |false=>
   rw[h2]at q1 hf;rw[hf,yF,zE rfl]at aa;subst aa;refine gC q1 F349 ?_;exact D
  |true=>
   rw[h2]at q1 hf;cases h3:Ac n with
   |false=>
    rw[h3]at q2 hf;rw[hf,wR,zE rfl]at aa;subst aa;refine gB q1 F349 q2 F39 ?_;exact D
   |true=>
    have q3:=Je n hn h3 l.dev;rw[h3]at q2 hf;rw[hf,zD y_]at aa;generalize Ci n l.dev=d at *;by_cases h4:d<0
    .have g4:decide (d<0)=true:=zL h4;rw[zE h4]at aa;subst aa;refine gB q1 F349 q2 F39 ?_;refine C q3 F96 ?_;exact D
    .have g4:decide (d<0)=false:=zK h4;rw[zD h4]at aa;subst aa;refine gB q1 F349 q2 F39 ?_;refine C q3 F96 ?_;exact D):∀ (n:Net) (hn:n.Fin) (l:LineM) (hl:LineW l) (k:Int),Sp f0 [Am n,A5 l,Aa k] (.tup [Aa (begT n l k).1,Aa (begT n l k).2]):=h F0 n0
def Sh:=iH F352 ntmps352
def Aas:=iH F354 ntmps354
def beg_ok{n:Net}{l:LineM}{k:Int}(h:(begT n l k).2=0):fitsB n l k=true/\Ac n=true/\∃i:Nat,(begT n l k).1=i/\i<n.devices.length:=by
 unfold begT at h|-;cases hf:fitsB n l k with
 |false=>rw[hf,zE rfl]at h;exact yA h j_
 |true=>
  rw[hf,zD y_]at h;rw[zD y_];by_cases hd:Ci n l.dev<0
  .rw[zE hd]at h;exact yA h j_
  .rw[zD hd];refine⟨E,?_,Kq hd⟩;unfold fitsB at hf;simp only[zG]at hf;exact hf.2.2
def ownerC(a:Int)(d:Device):Sp 361 [A1 d,.ref 1 (Be a) 0] (Ab (d.vtep==a)):=cT F361 ntmps361 λF hF=>by
 exact gA
def Aqj(n:Net)(hn:n.Fin)(a:Int):Sp 286 [Am n,Be a] (Aa (C6 n a)):=cT F286 ntmps286 λF hF=>by
 have q:=Lc n.devices (λd=>d.vtep==a) 361 [] [.ref 1 (Be a) 0] rfl (λd _=>⟨⟨_,_,F361⟩,ownerC a d⟩) hn.devices;refine fW ?_;exact Bf 3 1 (Be a) E E E (c0 q F226 gD)
def A4h(dev vni:Int)(d:Domain):Sp 360 [At d,.ref 1 (Aa dev) 0,.ref 1 (Aa vni) 0] (Ab (d.dev==dev&&(d.vni==vni&&vni != 0))):=cT F360 ntmps360 λF hF=>by
 cases h:(d.dev==dev)
 .exact gA
 .cases h2:(d.vni==vni)
  .exact gA
  .exact gA
def bW(n:Net)(hn:n.Fin)(dev vni:Int):Sp 285 [Am n,Aa dev,Aa vni] (Aa (Jr n dev vni)):=cT F285 ntmps285 λF hF=>by
 have q:=E9 n.domains (λd=>d.dev==dev&&(d.vni==vni&&vni != 0)) 360 [] [.ref 1 (Aa dev) 0,.ref 1 (Aa vni) 0] rfl (λd _=>⟨⟨_,_,F360⟩,A4h dev vni d⟩) hn.domains;refine fW ?_;exact Bf 4 1 (Aa dev) E E E (Bf 5 1 (Aa vni) E E E (c0 q F222 gD))
def A4g(dev vni:Int)(f:Flood):Sp 359 [Bn f,.ref 1 (Aa dev) 0,.ref 1 (Aa vni) 0] (Ab (f.dev==dev&&f.vni==vni)):=cT F359 ntmps359 λF hF=>by
 cases h:(f.dev==dev)
 .exact gA
 .exact gA
def Aij(n:Net)(hn:n.Fin)(dev vni:Int):Sp 284 [Am n,Aa dev,Aa vni] (Aa (Ej n dev vni)):=cT F284 ntmps284 λF hF=>by
 have q:=fQ n.floods (λf=>f.dev==dev&&f.vni==vni) 359 [] [.ref 1 (Aa dev) 0,.ref 1 (Aa vni) 0] rfl (λf _=>⟨⟨_,_,F359⟩,A4g dev vni f⟩) hn.floods;refine fW ?_;exact Bf 4 1 (Aa dev) E E E (Bf 5 1 (Aa vni) E E E (c0 q F358 gD))
def A4f(n:Net)(hn:n.Fin)(l:LineM)(hl:LineW l):Sp 278 [Am n,A5 l] (.tup [Am (putVtep n l).1,Aa (putVtep n l).2]):=cT F278 ntmps278 λF hF=>by
 have q1:=Sh n hn l hl 5;have aq:=@beg_ok n l 5;have aa:=putVtep.eq_1 n l;have q2:=Aqj n hn l.addr;have q3:=Ss n hn;generalize putVtep n l=res at *;generalize begT n l 5=b at *;obtain ⟨d,e⟩:=b;dsimp only at aa aq q1;by_cases h1:e≠0
 .have g1:(e != 0)=true:=by rw[xC];exact h1
  rw[zE h1]at aa;subst aa;refine gC q1 F352 ?_;exact Ak 4 (Dc emptyN) E vL gA
 have g1:(e != 0)=false:=by rw[bne_eq_false_iff_eq];omega
 rw[zD h1]at aa;obtain ⟨_,_,i,hi,ab⟩:=aq q_;subst hi;clear aq;have an:(i:Int).toNat<n.devices.length:=ab;have fu:nth n.devices (i:Int)=n.devices[(i:Int).toNat]'an:=Ae an;rw[fu]at aa;by_cases h2:(n.devices[(i:Int).toNat]'an).vtep≠0
 .have g2:((n.devices[(i:Int).toNat]'an).vtep != 0)=true:=by rw[xC];exact h2
  rw[zE (.inl h2)]at aa;subst aa;refine gC q1 F352 ?_;exact Ak 4 (Dc emptyN) E vL gA
 have g2:((n.devices[(i:Int).toNat]'an).vtep != 0)=false:=by rw[bne_eq_false_iff_eq];omega
 by_cases h3:0<=C6 n l.addr
 .have g3:decide (C6 n l.addr>=0)=true:=zL h3;rw[zE (.inr h3)]at aa;subst aa;refine gB q1 F352 q2 F286 ?_;exact Ak 4 (Dc emptyN) E vL gA
 have g3:decide (C6 n l.addr>=0)=false:=zK h3;rw[zD (λh=>h.elim h2 h3)]at aa;have bh:Zu n.devices (i:Int) l.addr=n.devices.set (i:Int).toNat { (n.devices[(i:Int).toNat]'an) with vtep:=l.addr}:=by rw[Zu,fu]
 rw[bh]at aa;subst aa;have af:n.devices≠[]:=λe=>by rw[e]at ab;cases ab
 refine gB q1 F352 q2 F286 ?_;refine X (Ad [(0,901),(1,902),(2,903),(3,904),(4,905),(5,906),(6,907),(7,908)] E F102 q3 E W E V) ?_;refine⟨af,?_⟩;refine T ?_;refine⟨{ (n.devices[(i:Int).toNat]'an) with vtep:=l.addr},rfl,rfl,?_⟩;refine T ?_;exact Ai 901 E (Ai 902 E (Ai 903 E (Ai 904 E (Ai 905 E (Ai 906 E (Ai 907 E (Ai 908 E D)))))))
end
def J8{k:Type}[Inhabited k](l:List k)(x:k){i:Int}(h:i.toNat<l.length):nth (l++[x]) i=nth l i:=by
 rw[nth,nth,xW h]
def Ir{k:Type}[Inhabited k](l:List k)(x:k):nth (l++[x]) (l.length:Int)=x:=by
 rw[nth,zZ,wH (yE _),tX];rfl
def place_iff{i:Int}{k:Nat}:Ag i k=true↔0<=i/\i<k:=by simp[Ag]
def I3{k:Type}[Inhabited k](l:List k)(x:k){i:Int}{j:Nat}(h:i.toNat≠j):nth (l.set j x) i=nth l i:=by
 rw[nth,nth,List.getElem?_set_ne (λe=>h e.symm)]
def Ab4{k:Type}[Inhabited k](l:List k)(x:k){j:Nat}(h:j<l.length):nth (l.set j x) (j:Int)=x:=by
 rw[nth,zZ,vT h];rfl
def O5{k:Type}[Inhabited k](l:List k){i:Int}{j:Nat}(h:i.toNat=j):nth l i=nth l (j:Int):=by
 rw[nth,nth,h,zZ]
def Q7{k:Type}[Inhabited k](l:List k)(i:Nat)(h:i<l.length):l[i]=nth l (i:Int):=(Ae (i:=(i:Int)) h).symm
structure NetR(n:Net):Prop where
 few:Ae9 n=true
 bare:∀i:Nat,i<n.domains.length->Qo n i (nth n.domains i)=true
 peers:∀i:Nat,i<n.domains.length->O3 n i (nth n.domains i)=true
 port:∀i:Nat,i<n.ports.length->Kj n i (nth n.ports i)=true
 link:∀i:Nat,i<n.links.length->M2 n i (nth n.links i)=true
 static:∀i:Nat,i<n.statics.length->L3 n (nth n.statics i)=true
 flood:∀i:Nat,i<n.floods.length->Qh n (nth n.floods i)=true
 vrf:∀i:Nat,i<n.vrfs.length->Aj2 n (nth n.vrfs i)=true
 irb:∀i:Nat,i<n.irbs.length->Aco n i (nth n.irbs i)=true
def Ad7{k:Type}[Inhabited k]{p:Nat->k->Bool}{l:List k}:Ik p l=true↔∀i:Nat,i<l.length->p i (nth l i)=true:=by
 rw[allB_iff];constructor
 .intro h i hi;rw[<-Q7 l i hi];exact h i hi
 .intro h i hi;rw[Q7 l i hi];exact h i hi
def netR_iff{n:Net}:Ac n=true↔NetR n:=by
 simp only[Ac,zG,Ad7];constructor
 .rintro ⟨⟨⟨⟨⟨⟨⟨⟨a,b⟩,c⟩,d⟩,e⟩,f⟩,g⟩,h⟩,i⟩;exact⟨a,b,c,d,e,f,g,h,i⟩
 .rintro ⟨a,b,c,d,e,f,g,h,i⟩;exact⟨⟨⟨⟨⟨⟨⟨⟨a,b⟩,c⟩,d⟩,e⟩,f⟩,g⟩,h⟩,i⟩
def peerB_iff{n:Net}{i:Nat}{d:Domain}{k:Int}:S4 n i d k=true↔Ag k n.domains.length=true/\k≠i/\Ag (nth n.domains k).dev n.devices.length=true/\(nth n.domains k).dev≠d.dev/\(nth n.domains k).vni=d.vni/\d.vni≠0/\M0 n (nth n.domains k)=true/\M0 n d=true/\inB (nth n.domains k).peers i=true:=by
 simp only[S4,zG,xC,yJ,ne_eq];constructor
 .rintro ⟨⟨⟨⟨⟨⟨⟨⟨a,b⟩,c⟩,d⟩,e⟩,f⟩,g⟩,h⟩,i⟩;exact⟨a,b,c,d,e,f,g,h,i⟩
 .rintro ⟨a,b,c,d,e,f,g,h,i⟩;exact⟨⟨⟨⟨⟨⟨⟨⟨a,b⟩,c⟩,d⟩,e⟩,f⟩,g⟩,h⟩,i⟩
def Md{n m:Net}{i:Nat}{d e:Domain}(hd:e.peers=d.peers)(h:O3 n i d=true)(hp:∀k,S4 n i d k=true->S4 m i e k=true):O3 m i e=true:=by
 rw[O3,hd];rw[O3]at h;rw[Ad7]at h|-;intro j hj;have:=h j hj;rw[zG]at this|-;exact⟨hp _ this.1,this.2⟩
def bareB_iff{n:Net}{i:Nat}{d:Domain}:Qo n i d=true↔Ag d.dev n.devices.length=true/\(1<=d.vlan/\d.vlan<=4094)/\(0<=d.vni/\d.vni<=16777215)/\(d.irb=-1\/Ag d.irb n.irbs.length=true/\(nth n.irbs d.irb).domain=i)/\C8 n d.dev d.vlan=i:=by
 simp only[Qo,zG,yO,zJ,yJ];constructor
 .rintro ⟨⟨⟨⟨⟨⟨a,b⟩,c⟩,d⟩,e⟩,f⟩,g⟩;exact⟨a,⟨b,c⟩,⟨d,e⟩,f,g⟩
 .rintro ⟨a,⟨b,c⟩,⟨d,e⟩,f,g⟩;exact⟨⟨⟨⟨⟨⟨a,b⟩,c⟩,d⟩,e⟩,f⟩,g⟩
def portB_iff{n:Net}{i:Nat}{p:Port}:Kj n i p=true↔Ag p.dev n.devices.length=true/\(0<=p.native/\p.native<=4094)/\Vy p.tagged 4094=true/\inB p.tagged p.native=false/\¬(p.native=0/\p.tagged=[])/\(∀v∈p.tagged,0<=C8 n p.dev v) /\
  (0<p.native->0<=C8 n p.dev p.native)/\(p.link=-1\/Ag p.link n.links.length=true/\((nth n.links p.link).a=i\/(nth n.links p.link).b=i)):=by
 have e:Ik (λ_ v=>decide (0<=C8 n p.dev v)) p.tagged=true↔∀v∈p.tagged,0<=C8 n p.dev v:=by
  rw[allB_iff];simp only[zJ];constructor
  .intro h v hv;obtain ⟨j,hj,rfl⟩:=yY.1 hv;exact h j hj
  .intro h j hj;exact h _ (zI hj)
 simp only[Kj,Es];simp only[zG,yO,e,xM,Bool.not_true,Bool.and_eq_false_imp,zJ,yB,yJ,Vy,vA];constructor
 .rintro ⟨⟨⟨⟨⟨⟨⟨⟨a,b⟩,c⟩,d⟩,e⟩,f⟩,g⟩,h⟩,i⟩;refine⟨a,⟨b,c⟩,d,e,λx=>f x.1 x.2,g,λx=>?_,i⟩;simpa using h x
 .rintro ⟨a,⟨b,c⟩,d,e,f,g,h,i⟩;refine⟨⟨⟨⟨⟨⟨⟨⟨a,b⟩,c⟩,d⟩,e⟩,λx y=>f ⟨x,y⟩⟩,g⟩,λx=>?_⟩,i⟩;simpa using h x
def linkB_iff{n:Net}{i:Nat}{l:Link}:M2 n i l=true↔Ag l.a n.ports.length=true/\Ag l.b n.ports.length=true/\(nth n.ports l.a).dev≠(nth n.ports l.b).dev/\(nth n.ports l.a).link=i/\(nth n.ports l.b).link=i:=by
 simp only[M2,zG,xC,yJ,ne_eq,and_assoc]
def staticB_iff{n:Net}{s:Static}:L3 n s=true↔Ag s.domain n.domains.length=true/\Ag s.port n.ports.length=true/\(nth n.ports s.port).dev=(nth n.domains s.domain).dev/\Cy (nth n.ports s.port) (nth n.domains s.domain).vlan=true:=by
 simp only[L3,zG,yJ,and_assoc]
def irbB_iff{n:Net}{i:Nat}{x:Irb}:Aco n i x=true↔Ag x.domain n.domains.length=true/\Ag x.vrf n.vrfs.length=true/\(nth n.domains x.domain).dev=(nth n.vrfs x.vrf).dev/\(nth n.domains x.domain).irb=i/\1<=x.bits/\x.bits<=30:=by
 simp only[Aco,zG,yJ,zJ,and_assoc]
def floodB_iff{n:Net}{f:Flood}:Qh n f=true↔Ag f.dev n.devices.length=true/\f.addrs.length<=16:=by simp[Qh]
def vrfB_iff{n:Net}{v:Vrf}:Aj2 n v=true↔Ag v.dev n.devices.length=true/\Vy v.imports 65535=true/\Vy v.exports 65535=true:=by simp[Aj2,and_assoc]
def few_iff{n:Net}:Ae9 n=true↔n.devices.length<=8/\n.ports.length<=40/\n.links.length<=20/\n.domains.length<=48/\n.statics.length<=64/\n.floods.length<=48/\n.vrfs.length<=16/\n.irbs.length<=48:=by
 simp[Ae9,and_assoc]
def Iq{i:Int}{k m:Nat}(h:Ag i k=true)(hkm:k<=m):Ag i m=true:=by
 rw[place_iff]at h|-;omega
def Ajh{n:Net}(h:NetR n)(x:Device)(hx:n.devices.length<8):NetR {n with devices:=n.devices++[x]}:=by
 have hp:∀{i:Int},Ag i n.devices.length=true->Ag i (n.devices++[x]).length=true:=λh=>Iq h y_
 have hv:∀d:Domain,Ag d.dev n.devices.length=true->M0 {n with devices:=n.devices++[x]} d=M0 n d:=λd hd=>by
  have:=place_iff.1 hd;simp only[M0];rw[J8 _ _ q_]
 refine⟨?_,λi hi=>?_,λi hi=>?_,λi hi=>?_,h.link,h.static,λi hi=>?_,λi hi=>?_,h.irb⟩
 .have:=few_iff.1 h.few;exact few_iff.2 (by simp only[zQ,zW];omega)
 .have:=bareB_iff.1 (h.bare i hi);exact bareB_iff.2 ⟨hp this.1,this.2⟩
 .have hb:=(bareB_iff.1 (h.bare i hi)).1;refine Md E (h.peers i hi) λk hk=>?_
  obtain ⟨a,b,c,d,e,f,g,q,r⟩:=peerB_iff.1 hk;exact peerB_iff.2 ⟨a,b,hp c,d,e,f,(hv _ c).trans g,(hv _ hb).trans q,r⟩
 .have:=portB_iff.1 (h.port i hi);exact portB_iff.2 ⟨hp this.1,this.2⟩
 .have:=floodB_iff.1 (h.flood i hi);exact floodB_iff.2 ⟨hp this.1,this.2⟩
 .have:=vrfB_iff.1 (h.vrf i hi);exact vrfB_iff.2 ⟨hp this.1,this.2⟩
def Ahv{n:Net}(h:NetR n)(x:Static)(hx:L3 n x=true)(hl:n.statics.length<64):NetR {n with statics:=n.statics++[x]}:=by
 refine⟨?_,h.bare,h.peers,h.port,h.link,λi hi=>?_,h.flood,h.vrf,h.irb⟩
 .have:=few_iff.1 h.few;exact few_iff.2 (by simp only[zQ,zW];omega)
 .simp only[zQ,zW]at hi;by_cases e:i<n.statics.length
  .rw[show nth (n.statics++[x]) (i:Int)=nth n.statics (i:Int) from J8 _ _ e];exact h.static i e
  .rw[show i=n.statics.length by omega,Ir];exact hx
def Am7{n:Net}(h:NetR n)(x:Flood)(hx:Qh n x=true)(hl:n.floods.length<48):NetR {n with floods:=n.floods++[x]}:=by
 refine⟨?_,h.bare,h.peers,h.port,h.link,h.static,λi hi=>?_,h.vrf,h.irb⟩
 .have:=few_iff.1 h.few;exact few_iff.2 (by simp only[zQ,zW];omega)
 .simp only[zQ,zW]at hi;by_cases e:i<n.floods.length
  .rw[show nth (n.floods++[x]) (i:Int)=nth n.floods (i:Int) from J8 _ _ e];exact h.flood i e
  .rw[show i=n.floods.length by omega,Ir];exact hx
def Aun{n:Net}(h:NetR n)(x:Vrf)(hx:Aj2 n x=true)(hl:n.vrfs.length<16):NetR {n with vrfs:=n.vrfs++[x]}:=by
 refine⟨?_,h.bare,h.peers,h.port,h.link,h.static,h.flood,λi hi=>?_,λi hi=>?_⟩
 .have:=few_iff.1 h.few;exact few_iff.2 (by simp only[zQ,zW];omega)
 .simp only[zQ,zW]at hi;by_cases e:i<n.vrfs.length
  .rw[show nth (n.vrfs++[x]) (i:Int)=nth n.vrfs (i:Int) from J8 _ _ e];exact h.vrf i e
  .rw[show i=n.vrfs.length by omega,Ir];exact hx
 .obtain ⟨a,b,c,d,e⟩:=irbB_iff.1 (h.irb i hi);have hb:=place_iff.1 b;exact irbB_iff.2 ⟨a,Iq b y_,by rw[show nth (n.vrfs++[x]) (nth n.irbs (i:Int)).vrf=nth n.vrfs (nth n.irbs (i:Int)).vrf from J8 _ _ q_];exact c,d,e⟩
def Aop{n:Net}(h:NetR n)(j:Nat)(a:Int)(ha:a≠0):NetR {n with devices:=n.devices.set j {nth n.devices j with vtep:=a} }:=by
 have hp:(n.devices.set j {nth n.devices j with vtep:=a}).length=n.devices.length:=yQ;have hv:∀d:Domain,M0 n d=true->M0 {n with devices:=n.devices.set j {nth n.devices j with vtep:=a} } d=true:=λd hd=>by
  simp only[M0,xC,ne_eq]at hd|-;by_cases e:d.dev.toNat=j
  .by_cases hl:j<n.devices.length
   .have:nth (n.devices.set j {nth n.devices j with vtep:=a}) d.dev={nth n.devices j with vtep:=a}:=by
     rw[nth,e,vT hl];rfl
    rw[this];exact ha
   .rw[tJ q_];exact hd
  .rw[I3 _ _ e];exact hd
 refine⟨?_,λi hi=>?_,λi hi=>?_,λi hi=>?_,h.link,h.static,λi hi=>?_,λi hi=>?_,h.irb⟩
 .have:=few_iff.1 h.few;exact few_iff.2 (by rw[hp];exact this)
 .have:=bareB_iff.1 (h.bare i hi);exact bareB_iff.2 ⟨by rw[hp];exact this.1,this.2⟩
 .refine Md E (h.peers i hi) λk hk=>?_
  obtain ⟨a,b,c,d,e,f,g,q,r⟩:=peerB_iff.1 hk;exact peerB_iff.2 ⟨a,b,by rw[hp];exact c,d,e,f,hv _ g,hv _ q,r⟩
 .have:=portB_iff.1 (h.port i hi);exact portB_iff.2 ⟨by rw[hp];exact this.1,this.2⟩
 .have:=floodB_iff.1 (h.flood i hi);exact floodB_iff.2 ⟨by rw[hp];exact this.1,this.2⟩
 .have:=vrfB_iff.1 (h.vrf i hi);exact vrfB_iff.2 ⟨by rw[hp];exact this.1,this.2⟩
def A1z{k:Type}(p:k->Bool)(l:List k)(j:Nat)(x:k)(h:∀y,l[j]? = some y->p x=p y):Bs p (l.set j x)=Bs p l:=by
 have e:(l.set j x).findIdx? p=l.findIdx? p:=by
  induction l generalizing j with
  |nil=>rfl
  |cons z l ih=>
   cases j with
   |zero=>
    rw[uY,List.findIdx?_cons,List.findIdx?_cons,h z rfl]
   |succ j=>
    rw[List.set_cons_succ,List.findIdx?_cons,List.findIdx?_cons,ih j (λy hy=>h y (kS hy))]
 rw[Bs,Bs,e]
def Ank{n:Net}{j:Nat}(hj:j<n.domains.length)(x:Domain)(h1:x.dev=(nth n.domains j).dev)(h2:x.vlan=(nth n.domains j).vlan)(m:Net)(hm:m.domains=n.domains.set j x)(dev vlan:Int):C8 m dev vlan=C8 n dev vlan:=by
 rw[C8,hm,A1z _ _ _ _ (λy hy=>?_)]
 .rfl
 .rw[zR hj]at hy;simp only[Option.some.injEq]at hy;rw[Q7 _ _ hj]at hy;rw[<-hy,h1,h2]
def Kk{k:Type}[Inhabited k](l:List k)(x:k)(j:Nat)(i:Int)(f:k->Int)(hf:f x=f (nth l j))(hj:j<l.length):f (nth (l.set j x) i)=f (nth l i):=by
 by_cases e:i.toNat=j
 .have:nth (l.set j x) i=x:=by rw[nth,e,vT hj];rfl
  have h2:nth l i=nth l (j:Int):=O5 _ e;rw[this,h2,hf]
 .rw[I3 _ _ e]
def Auo{n:Net}(h:NetR n)(j:Nat)(hj:j<n.domains.length)(h0:(nth n.domains j).vni=0)(v r:Int)(hv:0<=v/\v<=16777215):NetR {n with domains:=n.domains.set j {nth n.domains j with vni:=v,row:=r} }:=by
 have hl:(n.domains.set j {nth n.domains j with vni:=v,row:=r}).length=n.domains.length:=yQ;have gi:=Ank (n:=n) hj {nth n.domains j with vni:=v,row:=r} rfl rfl {n with domains:=n.domains.set j {nth n.domains j with vni:=v,row:=r} } rfl;have ia:=λi=>Kk n.domains {nth n.domains j with vni:=v,row:=r} j i Domain.dev rfl hj
 have fc:=λi=>Kk n.domains {nth n.domains j with vni:=v,row:=r} j i Domain.vlan rfl hj
 have nu:=λi=>Kk n.domains {nth n.domains j with vni:=v,row:=r} j i Domain.irb rfl hj
 have af:∀i:Nat,i≠j->nth (n.domains.set j {nth n.domains j with vni:=v,row:=r}) (i:Int)=nth n.domains (i:Int):=λi hi=>I3 _ _ (by rw[zZ];exact hi)
 refine⟨?_,λi hi=>?_,λi hi=>?_,λi hi=>?_,h.link,λi hi=>?_,h.flood,h.vrf,λi hi=>?_⟩
 .have:=few_iff.1 h.few;exact few_iff.2 (by rw[hl];exact this)
 .rw[hl]at hi;obtain ⟨a,b,c,d,e⟩:=bareB_iff.1 (h.bare i hi);refine bareB_iff.2 ⟨by rw[ia];exact a,by rw[fc];exact b,?_,by rw[nu];exact d,by rw[gi,ia,fc];exact e⟩;by_cases ij:i=j
  .subst ij;show 0<=(nth (n.domains.set i {nth n.domains i with vni:=v,row:=r}) (i:Int)).vni/\(nth (n.domains.set i {nth n.domains i with vni:=v,row:=r}) (i:Int)).vni<=_;rw[Ab4 _ _ hj];exact hv
  .rw[af i ij];exact c
 .rw[hl]at hi;have km:=h.peers i hi;by_cases ij:i=j
  .subst ij;rw[Ab4 _ _ hj];have:(nth n.domains (i:Int)).peers=[]:=by
    cases hp:(nth n.domains (i:Int)).peers with
    |nil=>rfl
    |cons k r=>
     rw[O3,hp,Ad7]at km;have:=km 0 y_;rw[zG]at this;exact yA h0 (peerB_iff.1 this.1).2.2.2.2.2.1
   rw[O3];dsimp only;rw[this];rfl
  .rw[af i ij];refine Md E km λk hk=>?_
   obtain ⟨a,b,c,d,e,f,g,q,rr⟩:=peerB_iff.1 hk;have hk:=place_iff.1 a;have kj:k.toNat≠j:=λkj=>by
    have:nth n.domains k=nth n.domains (j:Int):=O5 _ kj;rw[this,h0]at e;exact f e.symm
   have kc:nth (n.domains.set j {nth n.domains j with vni:=v,row:=r}) k=nth n.domains k:=I3 _ _ kj;exact peerB_iff.2 ⟨by rw[hl];exact a,b,by rw[kc];exact c,by rw[kc];exact d,by rw[kc];exact e,f,by rw[kc];exact g,q,by rw[kc];exact rr⟩
 .obtain ⟨a,b,c,d,e,f,g,q⟩:=portB_iff.1 (h.port i hi);exact portB_iff.2 ⟨a,b,c,d,e,λv hv=>by rw[gi];exact f v hv,λhv=>by rw[gi];exact g hv,q⟩
 .obtain ⟨a,b,c,d⟩:=staticB_iff.1 (h.static i hi);exact staticB_iff.2 ⟨by rw[hl];exact a,b,by rw[ia];exact c,by rw[fc];exact d⟩
 .obtain ⟨a,b,c,d,e⟩:=irbB_iff.1 (h.irb i hi);exact irbB_iff.2 ⟨by rw[hl];exact a,b,by rw[ia];exact c,by rw[nu];exact d,e⟩
def Axa{n:Net}(h:NetR n)(j:Nat)(hj:j<n.domains.length)(h0:(nth n.domains j).irb<0)(x:Irb)(hx:x.domain=j)(hv:Ag x.vrf n.vrfs.length=true)(hd:(nth n.domains j).dev=(nth n.vrfs x.vrf).dev)(hb:1<=x.bits/\x.bits<=30):NetR {n with domains:=n.domains.set j {nth n.domains j with irb:=n.irbs.length},irbs:=n.irbs++[x]}:=by
 have hl:(n.domains.set j {nth n.domains j with irb:=n.irbs.length}).length=n.domains.length:=yQ;have gi:=Ank (n:=n) hj {nth n.domains j with irb:=n.irbs.length} rfl rfl {n with domains:=n.domains.set j {nth n.domains j with irb:=n.irbs.length},irbs:=n.irbs++[x]} rfl;have ia:=λi=>Kk n.domains {nth n.domains j with irb:=n.irbs.length} j i Domain.dev rfl hj
 have fc:=λi=>Kk n.domains {nth n.domains j with irb:=n.irbs.length} j i Domain.vlan rfl hj
 have hvn:=λi=>Kk n.domains {nth n.domains j with irb:=n.irbs.length} j i Domain.vni rfl hj
 have fy:∀i,(nth (n.domains.set j {nth n.domains j with irb:=n.irbs.length}) i).peers=(nth n.domains i).peers:=λi=>by
  by_cases e:i.toNat=j
  .have:nth (n.domains.set j {nth n.domains j with irb:=n.irbs.length}) i={nth n.domains j with irb:=n.irbs.length}:=by rw[nth,e,vT hj];rfl
   have h2:nth n.domains i=nth n.domains (j:Int):=O5 _ e;rw[this,h2]
  .rw[I3 _ _ e]
 have af:∀i:Nat,i≠j->nth (n.domains.set j {nth n.domains j with irb:=n.irbs.length}) (i:Int)=nth n.domains (i:Int):=λi hi=>I3 _ _ (by rw[zZ];exact hi)
 have rl:nth (n.domains.set j {nth n.domains j with irb:=n.irbs.length}) (j:Int)={nth n.domains j with irb:=n.irbs.length}:=Ab4 _ _ hj;have mu:n.irbs.length<48:=by
  have hf:=few_iff.1 h.few;refine xA ?_ hf.2.2.2.1;have inj:∀a b:Nat,a<n.irbs.length->b<n.irbs.length->(nth n.irbs (a:Int)).domain=(nth n.irbs (b:Int)).domain->a=b:=λa b ha hb e=>by
   have h1:=(irbB_iff.1 (h.irb a ha)).2.2.2.1;have h2:=(irbB_iff.1 (h.irb b hb)).2.2.2.1;rw[e,h2]at h1;omega
  have ar:((List.range n.irbs.length).map λa:Nat=>(nth n.irbs (a:Int)).domain.toNat).length<=((List.range n.domains.length).erase j).length:=by
   refine List.Nodup.length_le_of_subset ?_ ?_
   .rw[vO,List.pairwise_map];refine List.Pairwise.imp_of_mem ?_ List.pairwise_lt_range;intro a b ha hb hab e;have ha:=yV.1 ha;have hb:=yV.1 hb;have p1:=place_iff.1 (irbB_iff.1 (h.irb a ha)).1;have p2:=place_iff.1 (irbB_iff.1 (h.irb b hb)).1;have:=inj a b ha hb q_;omega
   .intro y hy;obtain ⟨a,ha,rfl⟩:=yS.1 hy;have ha:=yV.1 ha;have p1:=place_iff.1 (irbB_iff.1 (h.irb a ha)).1;have p2:=(irbB_iff.1 (h.irb a ha)).2.2.2.1;rw[List.mem_erase_of_ne]
    .exact yV.2 q_
    .intro e;have:nth n.domains (nth n.irbs (a:Int)).domain=nth n.domains (j:Int):=O5 _ e;rw[this]at p2;omega
  rw[yW,List.length_range,List.length_erase_of_mem (yV.2 hj),List.length_range]at ar;omega
 refine⟨?_,λi hi=>?_,λi hi=>?_,λi hi=>?_,h.link,λi hi=>?_,h.flood,h.vrf,λi hi=>?_⟩
 .have:=few_iff.1 h.few;exact few_iff.2 (by rw[hl];simp only[zQ,zW];omega)
 .rw[hl]at hi;obtain ⟨a,b,c,d,e⟩:=bareB_iff.1 (h.bare i hi);refine bareB_iff.2 ⟨by rw[ia];exact a,by rw[fc];exact b,by rw[hvn];exact c,?_,by rw[gi,ia,fc];exact e⟩;by_cases ij:i=j
  .subst ij;rw[rl];refine .inr ⟨place_iff.2 kO,?_⟩;show (nth (n.irbs++[x]) (n.irbs.length:Int)).domain=_;rw[Ir,hx]
  .rw[af i ij];rcases d with d|⟨d1,d2⟩
   .exact .inl d
   .have:=place_iff.1 d1;exact .inr ⟨Iq d1 y_,by rw[show nth (n.irbs++[x]) (nth n.domains (i:Int)).irb=nth n.irbs (nth n.domains (i:Int)).irb from J8 _ _ q_];exact d2⟩
 .rw[hl]at hi;refine Md (fy _) (h.peers i hi) λk hk=>?_
  obtain ⟨a,b,c,d,e,f,g,q,r⟩:=peerB_iff.1 hk;have hvt:∀k,M0 {n with domains:=n.domains.set j {nth n.domains j with irb:=n.irbs.length},irbs:=n.irbs++[x]} (nth (n.domains.set j {nth n.domains j with irb:=n.irbs.length}) k)=M0 n (nth n.domains k):=λk=>by
   simp only[M0];rw[ia]
  exact peerB_iff.2 ⟨by rw[hl];exact a,b,by rw[ia];exact c,by rw[ia,ia];exact d,by rw[hvn,hvn];exact e,by rw[hvn];exact f,(hvt k).trans g,(hvt i).trans q,by rw[fy];exact r⟩
 .obtain ⟨a,b,c,d,e,f,g,q⟩:=portB_iff.1 (h.port i hi);exact portB_iff.2 ⟨a,b,c,d,e,λv hv=>by rw[gi];exact f v hv,λhv=>by rw[gi];exact g hv,q⟩
 .obtain ⟨a,b,c,d⟩:=staticB_iff.1 (h.static i hi);exact staticB_iff.2 ⟨by rw[hl];exact a,b,by rw[ia];exact c,by rw[fc];exact d⟩
 .simp only[zQ,zW]at hi;by_cases e:i<n.irbs.length
  .rw[show nth (n.irbs++[x]) (i:Int)=nth n.irbs (i:Int) from J8 _ _ e];obtain ⟨a,b,c,d,e⟩:=irbB_iff.1 (h.irb i e);have pa:=place_iff.1 a;have hdj:(nth n.irbs (i:Int)).domain.toNat≠j:=λe=>by
    have:nth n.domains (nth n.irbs (i:Int)).domain=nth n.domains (j:Int):=O5 _ e;rw[this]at d;omega
   have hk:nth (n.domains.set j {nth n.domains j with irb:=n.irbs.length}) (nth n.irbs (i:Int)).domain=nth n.domains (nth n.irbs (i:Int)).domain:=I3 _ _ hdj;exact irbB_iff.2 ⟨by rw[hl];exact a,b,by rw[hk];exact c,by rw[hk];exact d,e⟩
  .rw[show i=n.irbs.length by omega,Ir];refine irbB_iff.2 ⟨by rw[hl];exact place_iff.2 q_,hv,?_,?_,hb⟩
   .rw[hx,rl];exact hd
   .rw[hx,rl]
def idxI_nonneg{k:Type}{p:k->Bool}{l:List k}:0<=Bs p l↔l.any p=true:=by
 rw[xY];constructor
 .intro h;cases hf:l.findIdx? p with
  |none=>simp only[Bs,hf]at h;omega
  |some i=>
   rw[wG]at hf;obtain ⟨h1,h2,_⟩:=hf;exact⟨l[i],zI h1,h2⟩
 .rintro ⟨x,hx,hp⟩;cases hf:l.findIdx? p with
  |none=>
   rw[List.findIdx?_eq_none_iff]at hf;rw[hf x hx]at hp;cases hp
  |some i=>simp only[Bs,hf];omega
def Ev{k:Type}[Inhabited k]{p:k->Bool}{l:List k}(h:0<=Bs p l):(Bs p l).toNat<l.length/\p (nth l (Bs p l))=true:=by
 cases hf:l.findIdx? p with
 |none=>simp only[Bs,hf]at h;omega
 |some i=>
  have e:Bs p l=i:=by simp only[Bs,hf]
  rw[wG]at hf;obtain ⟨h1,h2,_⟩:=hf;rw[e,zZ];refine⟨h1,?_⟩;rw[<-Q7 l i h1];exact h2
def Amv{k:Type}(p:k->Bool)(l e:List k)(h:0<=Bs p l):Bs p (l++e)=Bs p l:=by
 cases hf:l.findIdx? p with
 |none=>simp only[Bs,hf]at h;omega
 |some i=>
  have:(l++e).findIdx? p=some i:=by rw[List.findIdx?_append,hf];rfl
  simp only[Bs,hf,this]
def Agj{k:Type}(p:k->Bool)(l:List k)(x:k)(h:l.any p=false)(hx:p x=true):Bs p (l++[x])=l.length:=by
 refine Co (j:=l.length) y_ (λi hi bu=>?_) ?_
 .rw[yZ bu];rw[wE]at h;have:=h l[i] (zI bu);simpa using this
 .rw[xQ (yE _)];simpa using hx
def Ajd{n:Net}(h:NetR n)(dev v:Int)(hd:Ag dev n.devices.length=true)(hv:1<=v/\v<=4094)(ha:n.domains.any (λd=>d.dev==dev&&d.vlan==v)=false)(m:Net)(hm:m={n with domains:=n.domains++[⟨dev,v,0,-1,0,[]⟩]})(hl:n.domains.length<48):NetR m:=by
 subst hm;have hn:∀{i:Int},i.toNat<n.domains.length->nth (n.domains++[(⟨dev,v,0,-1,0,[]⟩:Domain)]) i=nth n.domains i:=λh=>J8 _ _ h
 have hnn:∀{i:Nat},i<n.domains.length->nth (n.domains++[(⟨dev,v,0,-1,0,[]⟩:Domain)]) (i:Int)=nth n.domains (i:Int):=λh=>J8 _ _ h
 have ny:∀a b,0<=C8 n a b->C8 {n with domains:=n.domains++[⟨dev,v,0,-1,0,[]⟩]} a b=C8 n a b:=λa b h=>Amv _ _ _ h
 refine⟨?_,λi hi=>?_,λi hi=>?_,λi hi=>?_,h.link,λi hi=>?_,h.flood,h.vrf,λi hi=>?_⟩
 .have:=few_iff.1 h.few;exact few_iff.2 (by simp only[zQ,zW];omega)
 .simp only[zQ,zW]at hi;by_cases e:i<n.domains.length
  .rw[hnn e];obtain ⟨a,b,c,d,f⟩:=bareB_iff.1 (h.bare i e);exact bareB_iff.2 ⟨a,b,c,d,by rw[ny _ _ q_];exact f⟩
  .rw[show i=n.domains.length by omega,Ir];refine bareB_iff.2 ⟨hd,hv,⟨xZ _,by show (0:Int)<=_;decide⟩,.inl E,?_⟩;exact Agj _ _ _ ha y_
 .simp only[zQ,zW]at hi;by_cases e:i<n.domains.length
  .rw[hnn e];refine Md E (h.peers i e) λk hk=>?_
   obtain ⟨a,b,c,d,f,g,o,q,r⟩:=peerB_iff.1 hk;have ha:=place_iff.1 a;exact peerB_iff.2 ⟨Iq a y_,b,by rw[hn q_];exact c,by rw[hn q_];exact d,by rw[hn q_];exact f,g,by rw[hn q_];exact o,q,by rw[hn q_];exact r⟩
  .rw[show i=n.domains.length by omega,Ir];rfl
 .obtain ⟨a,b,c,d,e,f,g,q⟩:=portB_iff.1 (h.port i hi);exact portB_iff.2 ⟨a,b,c,d,e,λv hv=>by rw[ny _ _ (f v hv)];exact f v hv,λhv=>by rw[ny _ _ (g hv)];exact g hv,q⟩
 .obtain ⟨a,b,c,d⟩:=staticB_iff.1 (h.static i hi);have pa:=place_iff.1 a;have e1:=hn (i:=(nth n.statics (i:Int)).domain) q_;exact staticB_iff.2 ⟨Iq a y_,b,c.trans (zH Domain.dev e1).symm,by have:=d;rw[<-zH Domain.vlan e1]at this;exact this⟩
 .obtain ⟨a,b,c,d,e⟩:=irbB_iff.1 (h.irb i hi);have pa:=place_iff.1 a;have e1:=hn (i:=(nth n.irbs (i:Int)).domain) q_;exact irbB_iff.2 ⟨Iq a y_,b,(zH Domain.dev e1).trans c,(zH Domain.irb e1).trans d,e⟩
def oK(dev:Int):∀(l:List Int) (ds:List Domain),ds.length<=(Bm dev ds l).length
 |[],ds=>yE _
 |v::l,ds=>by
  refine wT ?_ (oK dev l (C2 dev ds v));rw[C2];split<;>simp
def Zi{dev:Int}:∀(l:List Int) (n:Net),NetR n->Ag dev n.devices.length=true->(∀v∈l,v<=4094)->(Bm dev n.domains l).length<=48->NetR {n with domains:=Bm dev n.domains l}/\∀v∈l,0<v->0<=C8 {n with domains:=Bm dev n.domains l} dev v
 |[],n,h,_,_,_=>⟨h,λv hv=>by cases hv⟩
 |v::l,n,h,hd,hv,hl=>by
  have hlen:=oK dev l (C2 dev n.domains v);have e:Bm dev n.domains (v::l)=Bm dev (C2 dev n.domains v) l:=rfl;rw[e]at hl|-;have h1:NetR {n with domains:=C2 dev n.domains v}/\(0<v->0<=C8 {n with domains:=C2 dev n.domains v} dev v):=by
   rw[C2]at hlen|-;split
   .rename_i hc;rw[zE hc]at hlen;refine⟨Ajd h dev v hd ⟨by omega,hv v y_⟩ hc.2 _ E ?_,λ_=>?_⟩
    .have uk:=hl;rw[C2,zE hc]at uk;simp only[zQ,zW]at hlen;omega
    .rw[C8,Agj _ _ _ hc.2 y_];omega
   .rename_i hc;refine⟨h,λh0=>?_⟩;have:n.domains.any (λd=>d.dev==dev&&d.vlan==v)=true:=by
     cases ha:n.domains.any (λd=>d.dev==dev&&d.vlan==v)
     .exact yA ⟨h0,ha⟩ hc
     .rfl
    exact idxI_nonneg.2 this
  obtain ⟨r1,r2⟩:=Zi l {n with domains:=C2 dev n.domains v} h1.1 hd (λx hx=>hv x (by simp[hx])) hl;refine⟨r1,λx hx h0=>?_⟩;rcases yI.1 hx with rfl|hx
  .have h2:=h1.2 h0;have:∀(l:List Int) (ds:List Domain),0<=Bs (λd:Domain=>d.dev==dev&&d.vlan==x) ds->0<=Bs (λd:Domain=>d.dev==dev&&d.vlan==x) (Bm dev ds l):=by
    intro l
    induction l with
    |nil=>exact λds h=>h
    |cons y l ih=>
     intro ds h;refine ih (C2 dev ds y) ?_;rw[C2];split
     .rw[Amv _ _ _ h];exact h
     .exact h
   exact this l _ h2
  .exact r2 x hx h0
def Aqd{n:Net}(h:NetR n)(p:Port)(hp:Kj n n.ports.length p=true)(hl:n.ports.length<40):NetR {n with ports:=n.ports++[p]}:=by
 have hn:∀{i:Int},i.toNat<n.ports.length->nth (n.ports++[p]) i=nth n.ports i:=λh=>J8 _ _ h
 refine⟨?_,h.bare,h.peers,λi hi=>?_,λi hi=>?_,λi hi=>?_,h.flood,h.vrf,h.irb⟩
 .have:=few_iff.1 h.few;exact few_iff.2 (by simp only[zQ,zW];omega)
 .simp only[zQ,zW]at hi;by_cases e:i<n.ports.length
  .have e1:nth (n.ports++[p]) (i:Int)=nth n.ports (i:Int):=hn (i:=(i:Int)) e;rw[e1];exact h.port i e
  .rw[show i=n.ports.length by omega,Ir];exact hp
 .obtain ⟨a,b,c,d,e⟩:=linkB_iff.1 (h.link i hi);have pa:=place_iff.1 a;have pb:=place_iff.1 b;have e1:=hn (i:=(nth n.links (i:Int)).a) q_;have e2:=hn (i:=(nth n.links (i:Int)).b) q_;exact linkB_iff.2 ⟨Iq a y_,Iq b y_,λx=>c ((zH Port.dev e1).symm.trans (x.trans (zH Port.dev e2))),(zH Port.link e1).trans d,(zH Port.link e2).trans e⟩
 .obtain ⟨a,b,c,d⟩:=staticB_iff.1 (h.static i hi);have pb:=place_iff.1 b;have e1:=hn (i:=(nth n.statics (i:Int)).port) q_;exact staticB_iff.2 ⟨a,Iq b y_,(zH Port.dev e1).trans c,by have:=d;rw[<-e1]at this;exact this⟩
def Aq3{n:Net}(h:NetR n)(a b:Nat)(ha:a<n.ports.length)(hb:b<n.ports.length)(hd:(nth n.ports a).dev≠(nth n.ports b).dev)(h1:(nth n.ports a).link<0)(h2:(nth n.ports b).link<0)(row:Int)(hl:n.links.length<20):NetR {n with ports:=H2 (H2 n.ports a n.links.length) b n.links.length,links:=n.links++[⟨row,a,b⟩]}:=by
 have hab:a≠b:=λe=>hd (by rw[e])
 have hlen:(H2 (H2 n.ports a n.links.length) b n.links.length).length=n.ports.length:=by simp[H2]
 have tj:∀i:Int,i.toNat≠a->i.toNat≠b->nth (H2 (H2 n.ports a n.links.length) b n.links.length) i=nth n.ports i:=λi x y=>by
  rw[H2,zZ,I3 _ _ y,H2,zZ,I3 _ _ x]
 have ug:∀i:Int,i.toNat=a->nth (H2 (H2 n.ports a n.links.length) b n.links.length) i={nth n.ports a with link:=n.links.length}:=λi x=>by
  rw[H2,zZ,I3 _ _ q_,H2,zZ,nth,x,vT ha];rfl
 have x8:∀i:Int,i.toNat=b->nth (H2 (H2 n.ports a n.links.length) b n.links.length) i={nth n.ports b with link:=n.links.length}:=λi x=>by
  have e:nth (H2 n.ports a n.links.length) (b:Int)=nth n.ports b:=by rw[H2,zZ,I3 _ _ (by rw[zZ];omega)]
  rw[H2,zZ,e,nth,x,vT (by rw[H2,yQ];exact hb)];rfl
 have same:∀{r:Type} (f:Port->r),(∀p k,f {p with link:=k}=f p)->∀i:Int,f (nth (H2 (H2 n.ports a n.links.length) b n.links.length) i)=f (nth n.ports i):=λf hf i=>by
  by_cases x:i.toNat=a
  .rw[ug i x,hf,nth,nth,x,zZ]
  .by_cases y:i.toNat=b
   .rw[x8 i y,hf,nth,nth,y,zZ]
   .rw[tj i x y]
 have sd:=same Port.dev (λ_ _=>rfl);have sn:=same Port.native (λ_ _=>rfl);have st:=same Port.tagged (λ_ _=>rfl);have sm:=same (λp v=>Cy p v) (λ_ _=>rfl);refine⟨?_,h.bare,h.peers,λi hi=>?_,λi hi=>?_,λi hi=>?_,h.flood,h.vrf,h.irb⟩
 .have:=few_iff.1 h.few;exact few_iff.2 (by rw[hlen];simp only[zQ,zW];omega)
 .rw[hlen]at hi;obtain ⟨c1,c2,c3,c4,c5,c6,c7,c8⟩:=portB_iff.1 (h.port i hi);refine portB_iff.2 ⟨by rw[sd];exact c1,by rw[sn];exact c2,by rw[st];exact c3,by rw[st,sn];exact c4,by rw[sn,st];exact c5,by rw[st,sd];exact c6,by rw[sn,sd];exact c7,?_⟩;have nl:nth (n.links++[(⟨row,a,b⟩:Link)]) (n.links.length:Int)=⟨row,a,b⟩:=Ir _ _;by_cases x:i=a
  .rw[ug i (by rw[zZ];exact x)];refine .inr ⟨place_iff.2 kO,.inl ?_⟩;show (nth (n.links++[(⟨row,a,b⟩:Link)]) (n.links.length:Int)).a=_;rw[nl,x]
  .by_cases y:i=b
   .rw[x8 i (by rw[zZ];exact y)];refine .inr ⟨place_iff.2 kO,.inr ?_⟩;show (nth (n.links++[(⟨row,a,b⟩:Link)]) (n.links.length:Int)).b=_;rw[nl,y]
   .rw[tj i (by rw[zZ];exact x) (by rw[zZ];exact y)];rcases c8 with c8|⟨d1,d2⟩
    .exact .inl c8
    .have pd:=place_iff.1 d1;exact .inr ⟨Iq d1 y_,by rw[show nth (n.links++[(⟨row,a,b⟩:Link)]) (nth n.ports (i:Int)).link=nth n.links (nth n.ports (i:Int)).link from J8 _ _ q_];exact d2⟩
 .simp only[zQ,zW]at hi;by_cases e:i<n.links.length
  .rw[show nth (n.links++[(⟨row,a,b⟩:Link)]) (i:Int)=nth n.links (i:Int) from J8 _ _ e];obtain ⟨c1,c2,c3,c4,c5⟩:=linkB_iff.1 (h.link i e);have off:∀k:Int,(nth n.ports k).link=(i:Int)->nth (H2 (H2 n.ports a n.links.length) b n.links.length) k=nth n.ports k:=λk hk=>by
    refine tj k (λx=>?_) (λx=>?_)
    .have:nth n.ports k=nth n.ports (a:Int):=O5 _ x;rw[this]at hk;omega
    .have:nth n.ports k=nth n.ports (b:Int):=O5 _ x;rw[this]at hk;omega
   exact linkB_iff.2 ⟨by rw[hlen];exact c1,by rw[hlen];exact c2,by rw[sd,sd];exact c3,by rw[off _ c4];exact c4,by rw[off _ c5];exact c5⟩
  .rw[show i=n.links.length by omega,Ir];refine linkB_iff.2 ⟨by rw[hlen];exact place_iff.2 ⟨by show (0:Int)<=(a:Int);omega,by show (a:Int)<_;omega⟩,by rw[hlen];exact place_iff.2 ⟨by show (0:Int)<=(b:Int);omega,by show (b:Int)<_;omega⟩,by rw[sd,sd];exact hd,?_,?_⟩
   .rw[ug (a:Int) (zZ a)]
   .rw[x8 (b:Int) (zZ b)]
 .obtain ⟨c1,c2,c3,c4⟩:=staticB_iff.1 (h.static i hi);refine staticB_iff.2 ⟨c1,by rw[hlen];exact c2,by rw[sd];exact c3,?_⟩;have:=sm (nth n.statics (i:Int)).port;exact(congrFun this _).trans c4
def Ww{n:Net}{l:LineM}{k:Int}(h:¬fitsB n l k=false):l.kind=k/\(By l).2=true/\NetR n:=by
 have h:fitsB n l k=true:=kS h;simp only[fitsB,D6,zG,yJ]at h;exact⟨h.1,h.2.1.1,netR_iff.1 h.2.2⟩
def To{n:Net}{l:LineM}{k:Int}(h:¬(begT n l k).2≠0):l.kind=k/\(By l).2=true/\NetR n/\0<=Ci n l.dev/\(Ci n l.dev).toNat<n.devices.length/\(begT n l k).1=Ci n l.dev:=by
 rw[begT]at h|-;split at h
 .simp at h
 .rename_i h1;rw[zD h1];split at h
  .simp at h
  .rename_i h2;rw[zD h2];obtain ⟨a,b,c⟩:=Ww h1;exact⟨a,b,c,by omega,(Ev (p:=λd:Device=>d.name==l.dev) (by show 0<=Ci n l.dev;omega)).1,E⟩
def Awq{l:List Int}{v:Int}:inB l v=l.contains v:=by
 induction l with
 |nil=>rfl
 |cons x l ih=>
  rw[inB,List.any_cons,List.contains_cons];rw[inB]at ih;rw[ih];congr 1;exact Bool.beq_comm
def Avz{n:Net}{l:LineM}(h:(putT n l).2=0):NetR (putT n l).1:=by
 rw[putT]at h|-;by_cases k1:l.kind=1
 .rw[zE k1]at h|-;rw[putDevice]at h|-
  repeat' split at h
  all_goals (try (simp at h;done))
  rename_i h1 h2 h3;rw[zD h1,zD h2,zD h3];obtain ⟨_,_,hr⟩:=Ww h1;have:=few_iff.1 hr.few;exact Ajh hr _ q_
 rw[zD k1]at h|-;by_cases k2:l.kind=2
 .rw[zE k2]at h|-;rw[putPort]at h|-
  repeat' split at h
  all_goals (try (simp at h;done))
  rename_i h1 h2 h3 h4 h5;rw[zD h1,zD h2,zD h3,zD h4,zD h5];obtain ⟨_,hu,hr⟩:=Ww h1;have hf:=few_iff.1 hr.few;simp only[By,zD k1,zE k2,zG]at hu;obtain ⟨u1,u2,u3,u4,u5⟩:=hu;have hv:=within_iff.1 u3;have hp:=(Ev (p:=λd:Device=>d.name==l.dev) (l:=n.devices) (by show 0<=Ci n l.dev;omega)).1;have ay:Ag (Ci n l.dev) n.devices.length=true:=place_iff.2 ⟨by omega,by have:(Ci n l.dev).toNat<n.devices.length:=hp;omega⟩;have rn:∀v∈l.tagged,1<=v/\v<=4094:=λv hv=>by
   rcases listOK_iff.1 u4 with e|e
   .rw[e]at hv;cases hv
   .exact(rising_iff.1 e).2.1 v hv
  obtain ⟨r1,r2⟩:=Zi (l.vlan::l.tagged) n hr ay (λ v hv=>by
   rcases yI.1 hv with rfl|hv
   .omega
   .exact(rn v hv).2) q_
  refine Aqd r1 _ (portB_iff.2 ⟨ay,hv,u4,?_,?_,λv hv=>r2 v (by simp[hv]) (by have:=rn v hv;omega),λh0=>r2 _ y_ h0,.inl E⟩) (by show n.ports.length<40;omega)
  .simp only[membersB,zG,xM,Bool.not_true]at u5;rw[Awq];exact u5.2
  .rintro ⟨e1,e2⟩;dsimp only at e1 e2;simp[membersB,e1,e2]at u5
 rw[zD k2]at h|-;by_cases k3:l.kind=3
 .rw[zE k3]at h|-;rw[putLink]at h|-;dsimp only at h|-
  repeat' split at h
  all_goals (try (simp at h;done))
  rename_i h1 h2 h3 h4;rw[zD h1,zD h2,zD h3,zD h4];obtain ⟨_,hu,hr⟩:=Ww h1;have hf:=few_iff.1 hr.few;have kf:∀d p,0<=endI n d p->(endI n d p).toNat<n.ports.length:=λd p h=>by
   rw[endI]at h|-;split at h
   .omega
   .rename_i hx;rw[zD hx];exact(Ev h).1
  have ha:=kf l.dev l.port q_;have hb:=kf l.peer l.far q_;generalize endI n l.dev l.port=a at *;generalize endI n l.peer l.far=b at *;obtain ⟨a,rfl⟩:∃k:Nat,a=k:=⟨a.toNat,by omega⟩
  obtain ⟨b,rfl⟩:∃k:Nat,b=k:=⟨b.toNat,by omega⟩
  rw[zZ]at ha hb;simp only[uF]at h3;exact Aq3 hr a b ha hb h3.1 q_ q_ l.row q_
 rw[zD k3]at h|-;by_cases k4:l.kind=4
 .rw[zE k4]at h|-;rw[putStatic]at h|-;dsimp only at h|-
  repeat' split at h
  all_goals (try (simp at h;done))
  rename_i h1 h2 h3 h4 h5;rw[zD h1,zD h2,zD h3,zD h4,zD h5];obtain ⟨_,hu,hr⟩:=Ww h1;have hf:=few_iff.1 hr.few;simp only[uF]at h2 h3;have p1:=Ev (p:=λp:Port=>p.dev==Ci n l.dev&&p.name==l.port) (l:=n.ports) (by show 0<=Sg n (Ci n l.dev) l.port;omega);have p2:=Ev (p:=λd:Domain=>d.dev==Ci n l.dev&&d.vlan==l.vlan) (l:=n.domains) (by show 0<=C8 n (Ci n l.dev) l.vlan;omega);obtain ⟨a1,a2⟩:=p1;obtain ⟨b1,b2⟩:=p2;have a1:(Sg n (Ci n l.dev) l.port).toNat<n.ports.length:=a1;have b1:(C8 n (Ci n l.dev) l.vlan).toNat<n.domains.length:=b1;simp only[zG,yJ]at a2 b2;have a2:(nth n.ports (Sg n (Ci n l.dev) l.port)).dev=Ci n l.dev:=a2.1;have b2:(nth n.domains (C8 n (Ci n l.dev) l.vlan)).dev=Ci n l.dev/\(nth n.domains (C8 n (Ci n l.dev) l.vlan)).vlan=l.vlan:=b2;refine Ahv hr _ (staticB_iff.2 ⟨place_iff.2 ⟨?_,?_⟩,place_iff.2 ⟨?_,?_⟩,?_,?_⟩) q_
  .show 0<=C8 n (Ci n l.dev) l.vlan;omega
  .show C8 n (Ci n l.dev) l.vlan<_;omega
  .show 0<=Sg n (Ci n l.dev) l.port;omega
  .show Sg n (Ci n l.dev) l.port<_;omega
  .exact a2.trans b2.1.symm
  .show Cy _ (nth n.domains (C8 n (Ci n l.dev) l.vlan)).vlan=true;rw[b2.2];simpa using h3.2
 rw[zD k4]at h|-;by_cases k5:l.kind=5
 .rw[zE k5]at h|-;rw[putVtep]at h|-;dsimp only at h|-;by_cases h1:(begT n l 5).2≠0
  .rw[zE h1]at h;exact yA h h1
  rw[zD h1]at h|-;split at h
  .simp at h
  rename_i h2;rw[zD h2];obtain ⟨_,hu,hr,d0,d1,d2⟩:=To h1;simp only[By,zD k1,zD k2,zD k3,zD k4,zE k5,zJ]at hu;rw[d2];have:=Aop hr (Ci n l.dev).toNat l.addr hu;rw[yR d0]at this;exact this
 rw[zD k5]at h|-;by_cases k6:l.kind=6
 .rw[zE k6]at h|-;rw[putVni]at h|-;dsimp only at h|-;by_cases h1:(begT n l 6).2≠0
  .rw[zE h1]at h;exact yA h h1
  rw[zD h1]at h|-;obtain ⟨_,hu,hr,d0,d1,d2⟩:=To h1;rw[d2]at h|-
  repeat' split at h
  all_goals (try (simp at h;done))
  rename_i h2 h3 h4;rw[zD h2,zD h3,zD h4];simp only[By,zD k1,zD k2,zD k3,zD k4,zD k5,zE k6,zG]at hu;have hv:=within_iff.1 hu.2;have b1:(C8 n (Ci n l.dev) l.vlan).toNat<n.domains.length:=(Ev (p:=λd:Domain=>d.dev==Ci n l.dev&&d.vlan==l.vlan) (l:=n.domains) (by show 0<=C8 n (Ci n l.dev) l.vlan;omega)).1;simp only[uF,Decidable.not_not]at h4;generalize C8 n (Ci n l.dev) l.vlan=j at *;obtain ⟨j,rfl⟩:∃k:Nat,j=k:=⟨j.toNat,by omega⟩
  rw[zZ]at b1|-;exact Auo hr j b1 h4.1 l.num l.row ⟨by omega,hv.2⟩
 rw[zD k6]at h|-;by_cases k7:l.kind=7
 .rw[zE k7]at h|-;rw[putFlood]at h|-;dsimp only at h|-;by_cases h1:(begT n l 7).2≠0
  .rw[zE h1]at h;exact yA h h1
  rw[zD h1]at h|-;obtain ⟨_,hu,hr,d0,d1,d2⟩:=To h1;rw[d2]at h|-
  repeat' split at h
  all_goals (try (simp at h;done))
  rename_i h2 h3 h4 h5;rw[zD h2,zD h3,zD h4,zD h5];have hf:=few_iff.1 hr.few;simp only[By,zD k1,zD k2,zD k3,zD k4,zD k5,zD k6,zE k7,zG,Lo,zJ]at hu;exact Am7 hr _ (floodB_iff.2 ⟨place_iff.2 ⟨d0,by show Ci n l.dev<_;omega⟩,hu.2.2.2⟩) q_
 rw[zD k7]at h|-;by_cases k8:l.kind=8
 .rw[zE k8]at h|-;rw[putVrf]at h|-;dsimp only at h|-;by_cases h1:(begT n l 8).2≠0
  .rw[zE h1]at h;exact yA h h1
  rw[zD h1]at h|-;obtain ⟨_,hu,hr,d0,d1,d2⟩:=To h1;rw[d2]at h|-
  repeat' split at h
  all_goals (try (simp at h;done))
  rename_i h2 h3;rw[zD h2,zD h3];have hf:=few_iff.1 hr.few;simp only[By,zD k1,zD k2,zD k3,zD k4,zD k5,zD k6,zD k7,zE k8,zG]at hu;exact Aun hr _ (vrfB_iff.2 ⟨place_iff.2 ⟨d0,by show Ci n l.dev<_;omega⟩,hu.2.1,hu.2.2⟩) q_
 rw[zD k8]at h|-;by_cases k9:l.kind=9
 .rw[zE k9]at h|-;rw[putIrb]at h|-;dsimp only at h|-;by_cases h1:(begT n l 9).2≠0
  .rw[zE h1]at h;exact yA h h1
  rw[zD h1]at h|-;obtain ⟨_,hu,hr,d0,d1,d2⟩:=To h1;rw[d2]at h|-
  repeat' split at h
  all_goals (try (simp at h;done))
  rename_i h2 h3 h4;rw[zD h2,zD h3,zD h4];simp only[By,zD k1,zD k2,zD k3,zD k4,zD k5,zD k6,zD k7,zD k8,zE k9,zG]at hu;have hb:=Vo hu.2.2;have p1:=Ev (p:=λv:Vrf=>v.dev==Ci n l.dev&&v.name==l.name) (l:=n.vrfs) (by show 0<=oM n (Ci n l.dev) l.name;omega);have p2:=Ev (p:=λd:Domain=>d.dev==Ci n l.dev&&d.vlan==l.vlan) (l:=n.domains) (by show 0<=C8 n (Ci n l.dev) l.vlan;omega);have a1:(oM n (Ci n l.dev) l.name).toNat<n.vrfs.length:=p1.1;have a2:(nth n.vrfs (oM n (Ci n l.dev) l.name)).dev=Ci n l.dev:=by
   have:=p1.2;simp only[zG,yJ]at this;exact this.1
  have b1:(C8 n (Ci n l.dev) l.vlan).toNat<n.domains.length:=p2.1;have b2:(nth n.domains (C8 n (Ci n l.dev) l.vlan)).dev=Ci n l.dev:=by
   have:=p2.2;simp only[zG,yJ]at this;exact this.1
  simp only[uF]at h4;generalize C8 n (Ci n l.dev) l.vlan=j at *;obtain ⟨j,rfl⟩:∃k:Nat,j=k:=⟨j.toNat,by omega⟩
  rw[zZ]at b1|-;exact Axa hr j b1 q_ ⟨l.row,j,oM n (Ci n l.dev) l.name,l.addr,l.bits⟩ E (place_iff.2 ⟨by dsimp only;omega,by dsimp only;omega⟩) (b2.trans a2.symm) hb
 .rw[zD k9]at h;simp at h
def Ang:NetR emptyN:=netR_iff.1 (by decide +kernel)
def Ant(l:List LineM)(k:Int):Nat:=(l.filter λx=>x.kind==k).length
structure Many(n:Net)(c:Int->Nat):Prop where
 c1:n.devices.length=c 1
 c2:n.ports.length=c 2
 c3:n.links.length=c 3
 c4:n.statics.length=c 4
 c7:n.floods.length=c 7
 c8:n.vrfs.length=c 8
 c9:n.irbs.length=c 9
def Awt{n:Net}{c:Int->Nat}(h:Many n c):Many (Bz n) c:=⟨h.c1,h.c2,h.c3,h.c4,h.c7,h.c8,h.c9⟩
def Kw(l:List Port)(i k:Int):(H2 l i k).length=l.length:=yQ
def H5(l:List Device)(i k:Int):(Zu l i k).length=l.length:=yQ
def Alz{n:Net}{x:LineM}(h:(putDevice n x).2=0):(putDevice n x).1.devices.length=n.devices.length+1/\(putDevice n x).1.ports.length=n.ports.length/\(putDevice n x).1.links.length=n.links.length/\(putDevice n x).1.statics.length=n.statics.length/\(putDevice n x).1.floods.length=n.floods.length/\(putDevice n x).1.vrfs.length=n.vrfs.length/\(putDevice n x).1.irbs.length=n.irbs.length:=by
 unfold putDevice at h|-;by_cases h0:fitsB n x 1=false
 .rw[zE h0]at h;cases h
 rw[zD h0]at h|-;try dsimp only at h|-
 split at h
 .cases h
 rename_i h1;rw[zD h1];split at h
 .cases h
 rename_i h2;rw[zD h2];simp[Kw,H5]
def Aws{n:Net}{x:LineM}(h:(putPort n x).2=0):(putPort n x).1.devices.length=n.devices.length/\(putPort n x).1.ports.length=n.ports.length+1/\(putPort n x).1.links.length=n.links.length/\(putPort n x).1.statics.length=n.statics.length/\(putPort n x).1.floods.length=n.floods.length/\(putPort n x).1.vrfs.length=n.vrfs.length/\(putPort n x).1.irbs.length=n.irbs.length:=by
 unfold putPort at h|-;by_cases h0:fitsB n x 2=false
 .rw[zE h0]at h;cases h
 rw[zD h0]at h|-;try dsimp only at h|-
 split at h
 .cases h
 rename_i h1;rw[zD h1];split at h
 .cases h
 rename_i h2;rw[zD h2];split at h
 .cases h
 rename_i h3;rw[zD h3];split at h
 .cases h
 rename_i h4;rw[zD h4];simp[Kw,H5]
def Awu{n:Net}{x:LineM}(h:(putLink n x).2=0):(putLink n x).1.devices.length=n.devices.length/\(putLink n x).1.ports.length=n.ports.length/\(putLink n x).1.links.length=n.links.length+1/\(putLink n x).1.statics.length=n.statics.length/\(putLink n x).1.floods.length=n.floods.length/\(putLink n x).1.vrfs.length=n.vrfs.length/\(putLink n x).1.irbs.length=n.irbs.length:=by
 unfold putLink at h|-;by_cases h0:fitsB n x 3=false
 .rw[zE h0]at h;cases h
 rw[zD h0]at h|-;try dsimp only at h|-
 split at h
 .cases h
 rename_i h1;rw[zD h1];split at h
 .cases h
 rename_i h2;rw[zD h2];split at h
 .cases h
 rename_i h3;rw[zD h3];simp[Kw,H5]
def Aly{n:Net}{x:LineM}(h:(putStatic n x).2=0):(putStatic n x).1.devices.length=n.devices.length/\(putStatic n x).1.ports.length=n.ports.length/\(putStatic n x).1.links.length=n.links.length/\(putStatic n x).1.statics.length=n.statics.length+1/\(putStatic n x).1.floods.length=n.floods.length/\(putStatic n x).1.vrfs.length=n.vrfs.length/\(putStatic n x).1.irbs.length=n.irbs.length:=by
 unfold putStatic at h|-;by_cases h0:fitsB n x 4=false
 .rw[zE h0]at h;cases h
 rw[zD h0]at h|-;try dsimp only at h|-
 split at h
 .cases h
 rename_i h1;rw[zD h1];split at h
 .cases h
 rename_i h2;rw[zD h2];split at h
 .cases h
 rename_i h3;rw[zD h3];split at h
 .cases h
 rename_i h4;rw[zD h4];simp[Kw,H5]
def Awr{n:Net}{x:LineM}(h:(putVtep n x).2=0):(putVtep n x).1.devices.length=n.devices.length/\(putVtep n x).1.ports.length=n.ports.length/\(putVtep n x).1.links.length=n.links.length/\(putVtep n x).1.statics.length=n.statics.length/\(putVtep n x).1.floods.length=n.floods.length/\(putVtep n x).1.vrfs.length=n.vrfs.length/\(putVtep n x).1.irbs.length=n.irbs.length:=by
 unfold putVtep at h|-;by_cases h0:(begT n x 5).2≠0
 .rw[zE h0]at h;exact yA h h0
 rw[zD h0]at h|-;try dsimp only at h|-
 split at h
 .cases h
 rename_i h1;rw[zD h1];simp[Kw,H5]
def A1d{n:Net}{x:LineM}(h:(putVni n x).2=0):(putVni n x).1.devices.length=n.devices.length/\(putVni n x).1.ports.length=n.ports.length/\(putVni n x).1.links.length=n.links.length/\(putVni n x).1.statics.length=n.statics.length/\(putVni n x).1.floods.length=n.floods.length/\(putVni n x).1.vrfs.length=n.vrfs.length/\(putVni n x).1.irbs.length=n.irbs.length:=by
 unfold putVni at h|-;by_cases h0:(begT n x 6).2≠0
 .rw[zE h0]at h;exact yA h h0
 rw[zD h0]at h|-;try dsimp only at h|-
 split at h
 .cases h
 rename_i h1;rw[zD h1];split at h
 .cases h
 rename_i h2;rw[zD h2];split at h
 .cases h
 rename_i h3;rw[zD h3];simp[Kw,H5]
def Aqx{n:Net}{x:LineM}(h:(putFlood n x).2=0):(putFlood n x).1.devices.length=n.devices.length/\(putFlood n x).1.ports.length=n.ports.length/\(putFlood n x).1.links.length=n.links.length/\(putFlood n x).1.statics.length=n.statics.length/\(putFlood n x).1.floods.length=n.floods.length+1/\(putFlood n x).1.vrfs.length=n.vrfs.length/\(putFlood n x).1.irbs.length=n.irbs.length:=by
 unfold putFlood at h|-;by_cases h0:(begT n x 7).2≠0
 .rw[zE h0]at h;exact yA h h0
 rw[zD h0]at h|-;try dsimp only at h|-
 split at h
 .cases h
 rename_i h1;rw[zD h1];split at h
 .cases h
 rename_i h2;rw[zD h2];split at h
 .cases h
 rename_i h3;rw[zD h3];split at h
 .cases h
 rename_i h4;rw[zD h4];simp[Kw,H5]
def A1c{n:Net}{x:LineM}(h:(putVrf n x).2=0):(putVrf n x).1.devices.length=n.devices.length/\(putVrf n x).1.ports.length=n.ports.length/\(putVrf n x).1.links.length=n.links.length/\(putVrf n x).1.statics.length=n.statics.length/\(putVrf n x).1.floods.length=n.floods.length/\(putVrf n x).1.vrfs.length=n.vrfs.length+1/\(putVrf n x).1.irbs.length=n.irbs.length:=by
 unfold putVrf at h|-;by_cases h0:(begT n x 8).2≠0
 .rw[zE h0]at h;exact yA h h0
 rw[zD h0]at h|-;try dsimp only at h|-
 split at h
 .cases h
 rename_i h1;rw[zD h1];split at h
 .cases h
 rename_i h2;rw[zD h2];simp[Kw,H5]
def A1e{n:Net}{x:LineM}(h:(putIrb n x).2=0):(putIrb n x).1.devices.length=n.devices.length/\(putIrb n x).1.ports.length=n.ports.length/\(putIrb n x).1.links.length=n.links.length/\(putIrb n x).1.statics.length=n.statics.length/\(putIrb n x).1.floods.length=n.floods.length/\(putIrb n x).1.vrfs.length=n.vrfs.length/\(putIrb n x).1.irbs.length=n.irbs.length+1:=by
 unfold putIrb at h|-;by_cases h0:(begT n x 9).2≠0
 .rw[zE h0]at h;exact yA h h0
 rw[zD h0]at h|-;try dsimp only at h|-
 split at h
 .cases h
 rename_i h1;rw[zD h1];split at h
 .cases h
 rename_i h2;rw[zD h2];split at h
 .cases h
 rename_i h3;rw[zD h3];simp[Kw,H5]
def Az1{n:Net}{c:Int->Nat}{x:LineM}(hm:Many n c)(h:(putT n x).2=0):Many (putT n x).1 (λk=>c k+if x.kind=k then 1 else 0):=by
 obtain ⟨c1,c2,c3,c4,c7,c8,c9⟩:=hm;unfold putT at h|-;by_cases k1:x.kind=1
 .rw[zE k1]at h|-;obtain ⟨e1,e2,e3,e4,e7,e8,e9⟩:=Alz h;constructor<;>simp[*]
 rw[zD k1]at h|-;by_cases k2:x.kind=2
 .rw[zE k2]at h|-;obtain ⟨e1,e2,e3,e4,e7,e8,e9⟩:=Aws h;constructor<;>simp[*]
 rw[zD k2]at h|-;by_cases k3:x.kind=3
 .rw[zE k3]at h|-;obtain ⟨e1,e2,e3,e4,e7,e8,e9⟩:=Awu h;constructor<;>simp[*]
 rw[zD k3]at h|-;by_cases k4:x.kind=4
 .rw[zE k4]at h|-;obtain ⟨e1,e2,e3,e4,e7,e8,e9⟩:=Aly h;constructor<;>simp[*]
 rw[zD k4]at h|-;by_cases k5:x.kind=5
 .rw[zE k5]at h|-;obtain ⟨e1,e2,e3,e4,e7,e8,e9⟩:=Awr h;constructor<;>simp[*]
 rw[zD k5]at h|-;by_cases k6:x.kind=6
 .rw[zE k6]at h|-;obtain ⟨e1,e2,e3,e4,e7,e8,e9⟩:=A1d h;constructor<;>simp[*]
 rw[zD k6]at h|-;by_cases k7:x.kind=7
 .rw[zE k7]at h|-;obtain ⟨e1,e2,e3,e4,e7,e8,e9⟩:=Aqx h;constructor<;>simp[*]
 rw[zD k7]at h|-;by_cases k8:x.kind=8
 .rw[zE k8]at h|-;obtain ⟨e1,e2,e3,e4,e7,e8,e9⟩:=A1c h;constructor<;>simp[*]
 rw[zD k8]at h|-;by_cases k9:x.kind=9
 .rw[zE k9]at h|-;obtain ⟨e1,e2,e3,e4,e7,e8,e9⟩:=A1e h;constructor<;>simp[*]
 rw[zD k9]at h|-;cases h
def Ar4:Many emptyN (λ_=>0):=⟨rfl,rfl,rfl,rfl,rfl,rfl,rfl⟩
end Go.Sy.Zaa
