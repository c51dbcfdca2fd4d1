/- Parts of a proof. -/
import Derived.Test.YticmobkdaneelaaGreatDoorYE38
import Derived.Test.YticmobkdaneelaaGreatDoorYE21
set_option linter.all false
set_option linter.unusedVariables false
set_option linter.unusedSimpArgs false
set_option linter.deprecated false
namespace Go.Sy.YticmobkdaneelaaGreatDoor
open Go.Proofs Go.Proofs.Tryz
set_option maxHeartbeats 4000000
structure PutP(x:Net×Int):Prop where
 fin:x.1.Fin
 addrs:Dr x.1
 none:x.2≠0→x.1=emptyN
def J3:emptyN.Fin:=by
 constructor<;>first|(show (0:Nat)<2147483648;decide)|(intro p hp;cases hp)
def Bp(e:Int):PutP (emptyN,e):=⟨J3,(λx hx=>by cases hx),λ_=>rfl⟩
def Mf{n:Net}(h:n.Fin)(a:Dr n):PutP (n,0):=⟨h,a,λh=>zY rfl h⟩
def Vc{n:Net}{l:LineM}{k:Int}(h:¬fitsB n l k=false):n.devices.length≤8∧n.ports.length≤40∧n.links.length≤20∧n.domains.length≤48∧n.statics.length≤64∧n.floods.length≤48∧n.vrfs.length≤16∧n.irbs.length≤48:=by
 have h:fitsB n l k=true:=by simpa using h
 rw[fitsB,zE,zE]at h;have h3:=h.2.2;simp only[Ac,zE]at h3;have h4:=h3.1.1.1.1.1.1.1.1;simpa [Aga,and_assoc] using h4
def Aad{n:Net}{l:LineM}{k:Int}(h:¬(begT n l k).2≠0):n.devices.length≤8∧n.ports.length≤40∧n.links.length≤20∧n.domains.length≤48∧n.statics.length≤64∧n.floods.length≤48∧n.vrfs.length≤16∧n.irbs.length≤48:=by
 apply Vc (l:=l) (k:=k);intro h2;rw[begT,zG h2]at h;exact h j_
def Dv{α:Type}{l:List α}(h:l.length≤100000):An l:=by show l.length<2147483648;omega
def Ada(dev:Int):∀(l:List Int) (ds:List Domain) (d:Domain),d∈Bh dev ds l→d∈ds∨d.peers=[]
 |[],_,_,h=>.inl h
 |v::l,ds,d,h=>by
  rcases Ada dev l (Cr dev ds v) d h with h|h
  ·unfold Cr at h;split at h
   ·rcases yI.1 h with h|h
    ·exact .inl h
    ·rw[yB.1 h];exact .inr rfl
   ·exact .inl h
  ·exact .inr h
def Ad0{α:Type}{l:List α}{i:Nat}{x y:α}(h:y∈l.set i x):y∈l∨y=x:=by
 rcases uW h with h|h
 ·exact .inl h
 ·exact .inr h
def L2{α:Type}[Inhabited α]{l:List α}{i:Int}(h:i.toNat<l.length):nth l i∈l:=by rw[Ai h];exact zI h
def Ahe{n:Net}{l:LineM}(hn:n.Fin)(ha:Dr n):PutP (putDevice n l):=by
 unfold putDevice;split
 ·exact Bp _
 rename_i h;have:=Vc h;split
 ·exact Bp _
 split
 ·exact Bp _
 exact Mf {hn with devices:=Dv (by rw[zW,yC];omega)} ha
def Ano{n:Net}{l:LineM}(hn:n.Fin)(ha:Dr n)(hl:LineW l):PutP (putPort n l):=by
 unfold putPort;split
 ·exact Bp _
 rename_i h;have:=Vc h;split
 ·exact Bp _
 split
 ·exact Bp _
 split
 ·exact Bp _
 split
 ·exact Bp _
 refine Mf {hn with ports:=Dv (by rw[zW,yC];omega),domains:=Dv (by dsimp only;omega),tagged:=λp hp=>?_,peers:=λd hd=>?_} ha
 ·rcases yI.1 hp with hp|hp
  ·exact hn.tagged p hp
  ·rw[yB.1 hp];exact Dv hl.fin.t
 ·rcases Ada _ _ _ _ hd with h|h
  ·exact hn.peers d h
  ·exact Dv (by rw[h];exact vA _)
def Aus{l:List Port}{i k:Int}{p:Port}(h:p∈Hk l i k)(hT:∀p∈l,An p.tagged):An p.tagged:=by
 by_cases hi:i.toNat<l.length
 ·rcases Ad0 h with h|h
  ·exact hT p h
  ·rw[h];exact show An (nth l i).tagged from hT _ (L2 hi)
 ·rw[Hk,tD q_]at h;exact hT p h
def Anp{n:Net}{l:LineM}(hn:n.Fin)(ha:Dr n):PutP (putLink n l):=by
 unfold putLink;split
 ·exact Bp _
 rename_i h;have:=Vc h;dsimp only;split
 ·exact Bp _
 split
 ·exact Bp _
 split
 ·exact Bp _
 refine Mf {hn with ports:=Dv (by simp only[Hk,yR];omega),links:=Dv (by rw[zW,yC];omega),tagged:=λp hp=>Aus hp λq hq=>Aus hq hn.tagged} ha
def Ahd{n:Net}{l:LineM}(hn:n.Fin)(ha:Dr n):PutP (putStatic n l):=by
 unfold putStatic;split
 ·exact Bp _
 rename_i h;have:=Vc h;dsimp only;split
 ·exact Bp _
 split
 ·exact Bp _
 split
 ·exact Bp _
 split
 ·exact Bp _
 exact Mf {hn with statics:=Dv (by rw[zW,yC];omega)} ha
def Ann{n:Net}{l:LineM}(hn:n.Fin)(ha:Dr n):PutP (putVtep n l):=by
 unfold putVtep;split
 ·exact Bp _
 rename_i h;have:=Aad h;dsimp only;split
 ·exact Bp _
 exact Mf {hn with devices:=Dv (by simp only[Xu,yR];omega)} ha
def Avw{l:List Domain}{i:Nat}{e d:Domain}(h:d∈l.set i e)(he:i<l.length→An e.peers)(hT:∀p∈l,An p.peers):An d.peers:=by
 by_cases hi:i<l.length
 ·rcases Ad0 h with h|h
  ·exact hT d h
  ·rw[h];exact he hi
 ·rw[tD q_]at h;exact hT d h
def Asb{n:Net}{l:LineM}(hn:n.Fin)(ha:Dr n):PutP (putVni n l):=by
 unfold putVni;split
 ·exact Bp _
 rename_i h;have:=Aad h;dsimp only;split
 ·exact Bp _
 split
 ·exact Bp _
 split
 ·exact Bp _
 exact Mf {hn with domains:=Dv (by simp only[yR];omega),peers:=λd hd=>Avw hd (λhi=>show An (nth n.domains _).peers from hn.peers _ (L2 hi)) hn.peers} ha
def Akx{n:Net}{l:LineM}(hn:n.Fin)(ha:Dr n)(hl:LineW l):PutP (putFlood n l):=by
 unfold putFlood;split
 ·exact Bp _
 rename_i h;have:=Aad h;dsimp only;split
 ·exact Bp _
 split
 ·exact Bp _
 split
 ·exact Bp _
 split
 ·exact Bp _
 refine Mf {hn with floods:=Dv (by rw[zW,yC];omega),addrs:=λp hp=>?_} ha;rcases yI.1 hp with hp|hp
 ·exact hn.addrs p hp
 ·rw[yB.1 hp];exact Dv hl.fin.a
def Asa{n:Net}{l:LineM}(hn:n.Fin)(ha:Dr n)(hl:LineW l):PutP (putVrf n l):=by
 unfold putVrf;split
 ·exact Bp _
 rename_i h;have:=Aad h;dsimp only;split
 ·exact Bp _
 split
 ·exact Bp _
 refine Mf {hn with vrfs:=Dv (by rw[zW,yC];omega),imports:=λp hp=>?_,exports:=λp hp=>?_} ha
 ·rcases yI.1 hp with hp|hp
  ·exact hn.imports p hp
  ·rw[yB.1 hp];exact Dv hl.fin.i
 ·rcases yI.1 hp with hp|hp
  ·exact hn.exports p hp
  ·rw[yB.1 hp];exact Dv hl.fin.e
def Asc{n:Net}{l:LineM}(hn:n.Fin)(ha:Dr n)(hl:LineW l):PutP (putIrb n l):=by
 unfold putIrb;split
 ·exact Bp _
 rename_i h;have:=Aad h;dsimp only;split
 ·exact Bp _
 split
 ·exact Bp _
 split
 ·exact Bp _
 refine Mf {hn with domains:=Dv (by simp only[yR];omega),peers:=λd hd=>Avw hd (λhi=>show An (nth n.domains _).peers from hn.peers _ (L2 hi)) hn.peers,irbs:=Dv (by rw[zW,yC];omega)} λx hx=>?_
 rcases yI.1 hx with hx|hx
 ·exact ha x hx
 ·rw[yB.1 hx];exact hl.ok.addr
def Au6{n:Net}{l:LineM}(hn:n.Fin)(ha:Dr n)(hl:LineW l):PutP (putT n l):=by
 unfold putT;split
 ·exact Ahe hn ha
 split
 ·exact Ano hn ha hl
 split
 ·exact Anp hn ha
 split
 ·exact Ahd hn ha
 split
 ·exact Ann hn ha
 split
 ·exact Asb hn ha
 split
 ·exact Akx hn ha hl
 split
 ·exact Asa hn ha hl
 split
 ·exact Asc hn ha hl
 exact Bp _
def Aiu{n:Net}(hn:n.Fin):(meshNT n).1.Fin:=by
 unfold meshNT;split
 ·exact J3
 rename_i h;have h:Ac n=true:=by simpa using h
 split
 ·exact J3
 split
 ·exact J3
 exact Afg hn h
structure NameK(n:Net):Prop where
 dev:∀i:Nat,i<n.devices.length→Bc (nth n.devices (i:Int)).name=true∧Cn n (nth n.devices (i:Int)).name=i
 prt:∀i:Nat,i<n.ports.length→Bc (nth n.ports (i:Int)).name=true∧Uq n (nth n.ports (i:Int)).dev (nth n.ports (i:Int)).name=i
theorem NameK.same{n m:Net}(h:NameK n)(hd:m.devices=n.devices)(hp:m.ports=n.ports):NameK m:=by
 refine⟨λi hi=>?_,λi hi=>?_⟩
 ·rw[hd]at hi⊢;have:=h.dev i hi;unfold Cn at this⊢;rw[hd];exact this
 ·rw[hp]at hi⊢;have:=h.prt i hi;unfold Uq at this⊢;rw[hp];exact this
def Yk:∀(l:List LineM) (n:Net),n.Fin→Dr n→(∀x∈l,LineW x)→(Bt n l).2.2=0→(Bt n l).1.Fin∧Dr (Bt n l).1
 |[],n,hn,ha,_,h=>by
  rw[Bt,finishT]at h⊢;split at h
  ·rename_i h1;exact zY h h1
  rename_i h1;rw[zD h1];split at h
  ·simp at h
  rename_i h2;rw[zD h2];obtain ⟨e1,_⟩:=On (n:=n) q_;refine⟨Aiu hn,?_⟩;dsimp only;rw[e1];exact ha
 |x::l,n,hn,ha,hl,h=>by
  rw[Bt]at h⊢;split at h
  ·rename_i h1;exact zY h h1
  rename_i h1;rw[zD h1];have:=Au6 hn ha (hl x y_);exact Yk l _ this.fin this.addrs (λy hy=>hl y (by simp[hy])) h
def empty_num:emptyN.Num:=⟨λd hd=>(by cases hd),λd hd=>(by cases hd)⟩
def Ar9{n:Net}{l:LineM}(hv:∀d∈n.devices,0≤d.vtep∧d.vtep<4294967296)(hl:LineW l):∀d∈(putT n l).1.devices,0≤d.vtep∧d.vtep<4294967296:=by
 have same:∀{m:Net},m.devices=n.devices→∀d∈m.devices,0≤d.vtep∧d.vtep<4294967296:=λ{m} h d hd=>hv d (by rw[←h];exact hd)
 have e:=empty_num.vtep;rw[putT];split
 ·rw[putDevice]
  repeat' split
  all_goals (try exact e)
  intro d hd;rcases yI.1 hd with hd|hd
  ·exact hv d hd
  ·rw[yB.1 hd];exact⟨xU _,by show (0:Int)<_;decide⟩
 split
 ·rw[putPort]
  repeat' split
  all_goals (first|exact e|exact same rfl)
 split
 ·rw[putLink];dsimp only
  repeat' split
  all_goals (first|exact e|exact same rfl)
 split
 ·rw[putStatic];dsimp only
  repeat' split
  all_goals (first|exact e|exact same rfl)
 split
 ·rw[putVtep];dsimp only;split
  ·exact e
  split
  ·exact e
  intro d hd;have hd:d∈Xu n.devices (begT n l 5).1 l.addr:=hd;rcases Ad0 hd with h|h
  ·exact hv d h
  ·rw[h];exact hl.ok.addr
 split
 ·rw[putVni];dsimp only
  repeat' split
  all_goals (first|exact e|exact same rfl)
 split
 ·rw[putFlood];dsimp only
  repeat' split
  all_goals (first|exact e|exact same rfl)
 split
 ·rw[putVrf];dsimp only
  repeat' split
  all_goals (first|exact e|exact same rfl)
 split
 ·rw[putIrb];dsimp only
  repeat' split
  all_goals (first|exact e|exact same rfl)
 exact e
def Aaa:∀(l:List LineM) (n:Net),(∀d∈n.devices,0≤d.vtep∧d.vtep<4294967296)→(∀x∈l,LineW x)→(Bt n l).2.2=0→∀d∈(Bt n l).1.devices,0≤d.vtep∧d.vtep<4294967296
 |[],n,hn,_,h=>by
  rw[Bt,finishT]at h⊢;split at h
  ·rename_i h1;exact zY h h1
  rename_i h1;rw[zD h1];split at h
  ·simp at h
  rename_i h2;rw[zD h2];obtain ⟨e1,_⟩:=On (n:=n) q_;dsimp only;rw[e1];exact hn
 |x::l,n,hn,hl,h=>by
  rw[Bt]at h⊢;split at h
  ·rename_i h1;exact zY h h1
  rename_i h1;rw[zD h1];exact Aaa l _ (Ar9 hn (hl x y_)) (λy hy=>hl y (by simp[hy])) h
def Ar0{l:LineM}(hk:l.kind=2)(h:Cj l=true):1≤l.cost∧l.cost≤65535:=by
 have h1:¬l.kind=1:=by omega
 simp only[Cj,Bm,zD h1,zG hk,zE]at h;exact within_iff.1 h.1.2.1
def Yp(n:Net):Prop:=∀p∈n.ports,I2 p=false
def Acx:Yp emptyN:=λp hp=>by cases hp
def costsK{n:Net}(h:Yp n):Dk n=true:=by
 rw[Dk,yU,wM];intro p hp;rw[h p hp];exact tK
def Amu{l:List Port}{i k:Int}{p:Port}(h:p∈Hk l i k)(hT:∀p∈l,I2 p=false):I2 p=false:=by
 by_cases hi:i.toNat<l.length
 ·rcases Ad0 h with h|h
  ·exact hT p h
  ·rw[h];exact show I2 (nth l i)=false from hT _ (L2 hi)
 ·rw[Hk,tD q_]at h;exact hT p h
def Axi{n:Net}{l:LineM}(hv:Yp n):Yp (putT n l).1:=by
 have same:∀{m:Net},m.ports=n.ports→Yp m:=λ{m} h d hd=>hv d (by rw[←h];exact hd)
 have e:=Acx;rw[putT];split
 ·rw[putDevice]
  repeat' split
  all_goals (first|exact e|exact same rfl)
 split
 ·rename_i h2;rw[putPort];split
  ·exact e
  rename_i hf
  repeat' split
  all_goals (try exact e)
  intro p hp;rcases yI.1 hp with hp|hp
  ·exact hv p hp
  ·rw[yB.1 hp];have hf:fitsB n l 2=true:=by simpa using hf
   rw[fitsB,zE,zE]at hf;have:=Ar0 h2 (by simpa using hf.2.1);simp only[I2];have a:decide (l.cost<1)=false:=zL q_;have b:decide (65535<l.cost)=false:=zL q_;simp[a,b]
 split
 ·rw[putLink];dsimp only
  repeat' split
  all_goals (try exact e)
  intro p hp;exact Amu hp λq hq=>Amu hq hv
 split
 ·rw[putStatic];dsimp only
  repeat' split
  all_goals (first|exact e|exact same rfl)
 split
 ·rw[putVtep];dsimp only
  repeat' split
  all_goals (first|exact e|exact same rfl)
 split
 ·rw[putVni];dsimp only
  repeat' split
  all_goals (first|exact e|exact same rfl)
 split
 ·rw[putFlood];dsimp only
  repeat' split
  all_goals (first|exact e|exact same rfl)
 split
 ·rw[putVrf];dsimp only
  repeat' split
  all_goals (first|exact e|exact same rfl)
 split
 ·rw[putIrb];dsimp only
  repeat' split
  all_goals (first|exact e|exact same rfl)
 exact e
def Ac2:∀(l:List LineM) (n:Net),Yp n→(Bt n l).2.2=0→Yp (Bt n l).1
 |[],n,hn,h=>by
  rw[Bt,finishT]at h⊢;split at h
  ·rename_i h1;exact zY h h1
  rename_i h1;rw[zD h1];split at h
  ·simp at h
  rename_i h2;rw[zD h2];obtain ⟨e1,_⟩:=On (n:=n) q_;dsimp only;rw[e1];exact hn
 |x::l,n,hn,h=>by
  rw[Bt]at h⊢;split at h
  ·rename_i h1;exact zY h h1
  rename_i h1;rw[zD h1];exact Ac2 l _ (Axi hn) h
end Go.Sy.YticmobkdaneelaaGreatDoor
namespace Go.Sy
def A3c{P:Program}{o:Oper}{s:SS}{x y:Operand}{at_:Array TypeId}{k k':IntKind}{m n:Int}(h:o.op=.call ⟨.builtin .max,#[x,y],at_⟩)(hx:ev s x=.val (.int k m))(hy:ev s y=.val (.int k' n)):Good P o s ⟨.val (.int k (if n>m then n else m)),[],[]⟩ :=
 Good.pure λκ a w _ hr ho=>by
  have h1:=hr x (by simp[h,Op.operands,Call.operands]);have h2:=hr y (by simp[h,Op.operands,Call.operands]);rw[hx]at h1;rw[hy]at h2;refine⟨.int k (if n>m then n else m),?_,by simp[Rd]⟩;simp[execOp,h,resolve,invoke,builtin,Builtin.max_,Builtin.max2,h1.val,h2.val]
end Go.Sy
namespace Go.Sy.YticmobkdaneelaaGreatDoor
open Go.Proofs Go.Proofs.Tryz
attribute [local irreducible] Go.Sy.G Go.Sy.DR
set_option maxRecDepth 100000
set_option maxHeartbeats 4000000
def Iv{f:List Int}(hf:Dp f){i:Int}(h0:0≤i)(hi:i.toNat<f.length):0≤nth f i∧nth f i≤i:=by
 rw[Ai hi];have:=hf i.toNat hi;omega
def M7{f:List Int}(hf:Dp f){i:Nat}(_hi:i<f.length){x:Int}(h0:0≤x)(hx:x≤i):Dp (f.set i x):=by
 intro k hk;rw[yR]at hk;rw[vQ];split
 ·rename_i e;subst e;exact⟨h0,hx⟩
 ·exact hf k hk
def Aic:∀(m k k':Nat) (f:List Int) (i:Int),Dp f→0≤i→i.toNat<f.length→i.toNat≤m→i.toNat+1≤k→i.toNat+1≤k'→Amt k f i=Amt k' f i
 |m,0,_,_,_,_,_,_,_,h,_=>by omega
 |m,_+1,0,_,_,_,_,_,_,_,h=>by omega
 |m,k+1,k'+1,f,i,hf,h0,hi,hm,h1,h2=>by
  rw[Amt,Amt];by_cases e:nth f i=i
  ·rw[zG e,zG e]
  ·rw[zD e,zD e];obtain ⟨a1,a2⟩:=Iv hf h0 hi;obtain ⟨b1,b2⟩:=Iv hf a1 (by omega:(nth f i).toNat<f.length)
   match m with
   |0=>omega
   |m+1=>
    exact Aic m k k' _ _ (M7 hf hi b1 q_) b1 (by rw[yR];omega) q_ q_ q_
def Aur{f:List Int}{i:Int}(h:nth f i=i):Ly f i=(f,i):=by rw[Ly,Amt,zG h]
def Ams{f:List Int}{i:Int}(hf:Dp f)(h0:0≤i)(hi:i.toNat<f.length)(h:nth f i≠i):Ly f i=Ly (f.set i.toNat (nth f (nth f i))) (nth f (nth f i)):=by
 obtain ⟨a1,a2⟩:=Iv hf h0 hi;obtain ⟨b1,b2⟩:=Iv hf a1 (by omega:(nth f i).toNat<f.length);rw[Ly,Amt,zD h,Ly];exact Aic i.toNat _ _ _ _ (M7 hf hi b1 q_) b1 (by rw[yR];omega) q_ q_ q_
def Qh:∀(m:Nat) (f:List Int) (i:Int),Dp f→0≤i→i.toNat<f.length→i.toNat≤m→Dp (Ly f i).1∧(Ly f i).1.length=f.length∧0≤(Ly f i).2∧(Ly f i).2≤i
 |m,f,i,hf,h0,hi,hm=>by
  by_cases e:nth f i=i
  ·rw[Aur e];exact⟨hf,rfl,h0,xU _⟩
  ·obtain ⟨a1,a2⟩:=Iv hf h0 hi;obtain ⟨b1,b2⟩:=Iv hf a1 (by omega:(nth f i).toNat<f.length);rw[Ams hf h0 hi e]
   match m with
   |0=>omega
   |m+1=>
    obtain ⟨c1,c2,c3,c4⟩:=Qh m _ _ (M7 hf hi b1 q_) b1 (by rw[yR];omega:(nth f (nth f i)).toNat<(f.set i.toNat (nth f (nth f i))).length) q_;exact⟨c1,by rw[c2,yR],c3,by omega⟩
def Afs{f:List Int}{a b:Int}(hf:Dp f)(ha:0≤a∧a.toNat<f.length)(hb:0≤b∧b.toNat<f.length):Dp (W8 f a b).1∧(W8 f a b).1.length=f.length:=by
 obtain ⟨a1,a2,a3,a4⟩:=Qh a.toNat f a hf ha.1 ha.2 (yG _);obtain ⟨b1,b2,b3,b4⟩:=Qh b.toNat (Ly f a).1 b a1 hb.1 q_ (yG _);unfold W8;dsimp only;generalize Ly (Ly f a).1 b=y at *;generalize Ly f a=x at *;refine⟨M7 b1 q_ q_ q_,by rw[yR];omega⟩
def Ama(k:Nat):Dp (Oe k)∧(Oe k).length=k:=by
 refine⟨λi hi=>?_,by simp[Oe]⟩;simp[Oe]
def alJ(k j:Nat):List Int:=(List.range j).map (λi:Nat=>(i:Int))++List.replicate (k-j) 0
def A4d(k:Nat):alJ k 0=List.replicate k 0:=by simp[alJ]
def A6h(k j:Nat)(h:j≤k):(alJ k j).length=k:=by simp[alJ];omega
def A4e(k j:Nat)(h:j<k):(alJ k j).set (j:Int).toNat (j:Int)=alJ k (j+1):=by
 have hl:((List.range j).map (λi:Nat=>(i:Int))).length=j:=by simp
 rw[zU,alJ,alJ,tT _ _ q_,hl,tQ,show k-j=(k-(j+1))+1 by omega,List.replicate_succ,uD,wV,wU,xJ];rfl
def aloneS(k:Nat)(hk:k≤100000):Sq 195 [Aa k] [] (.osl 900) [(900,.row 1 Aa (Oe k))]:=cT F195 ntmps195 λF hF=>by
 have kg:alJ k k=Oe k:=by simp[alJ,Oe]
 refine T ?_;refine X (Ce Γ.toTy (d:=6) (n:=k) Aa 0 E E E E E E E E q_ q_ E E E) ?_;refine T ?_;refine C3 (λj:Nat=>j≤k) (λj=>[(3,.osl 1000),(8,Aa k),(9,Aa j)]) (λj=>[(1000,.row 1 Aa (alJ k j))]) (λj=>k-j) 0 [(1000,6)] q_ ⟨⟨E,E,zH Aa (by rw[uU]),E,E,E,Y⟩,⟨.inl (zH (Ob.row 1 Aa) (A4d k)),E,Y⟩,E,E⟩ ?_;intro j hj;have hl:=A6h k j hj;refine T ?_;constructor<;>intro h
 ·have ab:j<k:=qA h;clear h;have ag:alJ k j≠[]:=λe=>by rw[e]at hl;simp at hl;omega
  have d9:=A4e k j ab;refine T ?_;refine⟨(j:Int),E,E,?_⟩;refine T ?_;exact Be (j+1) [] ab q_ ⟨⟨E,E,E,E,E,E,Y⟩,⟨.inl (zH (Ob.row 1 Aa) d9.symm),E,Y⟩,E,E⟩
 ·have dh:j=k:=qB h;clear h;subst dh;rw[kg];refine T ?_;exact done E (.cons .tmp .nil) [(900,1000)] [(900,.row 1 Aa (Oe j))] (λ_ h=>h) E E U
def Awz(l:List Int)(h0:0<l.length)(hl:l.length<2147483648):Sp 197 [.sl 1 Aa l] (Aa (Aob l)):=cT F197 ntmps197 λF hF=>by
 have f0:decide ((l.length:Int)<1)=false:=zL q_;have hz:(0:Int).toNat<l.length:=h0;have cn:Aob l=Ahl (l[(0:Int).toNat]'hz) (l.drop 1):=by rw[Aob,Ai hz]
 refine T ?_;refine C3 (λx:Nat×Int=>1≤x.1∧x.1≤l.length∧Aob l=Ahl x.2 (l.drop x.1)) (λx=>[(0,.sl 1 Aa l),(3,Aa x.2),(4,Aa x.1)]) (λ_=>[]) (λx=>l.length-x.1) (1,l[(0:Int).toNat]'hz) [] ⟨by omega,by omega,cn⟩ U ?_;rintro ⟨i,m⟩ ⟨h1,h2,hI⟩;dsimp only at h1 h2 hI⊢;refine T ?_;constructor<;>intro h
 ·have ab:i<l.length:=qA h;have aq:(i:Int).toNat<l.length:=ab;clear h;rw[yP ab,Ahl]at hI;refine T ?_;refine X (U8 E E E) ?_;exact Be (i+1,min m l[i]) [] ⟨by dsimp only;omega,ab,hI⟩ (by dsimp only;omega) ⟨⟨E,E,zH Aa (by dsimp only;show min m l[i]=if l[i]<m then l[i] else m;omega),E,E,E,Y⟩,Y,E,E⟩
 ·have rp:i=l.length:=qB h;clear h;rw[rp,uF,Ahl]at hI;rw[hI];exact gA
def topS(f:List Int)(i:Int)(hf:Dp f)(h0:0≤i)(hi:i.toNat<f.length)(hl:f.length≤100000):Sq 275 [.osl 900,Aa i] [(900,.row 1 Aa f)] (Aa (Ly f i).2) [(900,.row 1 Aa (Ly f i).1)]:=cT F275 ntmps275 λF hF=>by
 refine T ?_;refine C3 (λx:List Int×Int=>Dp x.1∧x.1.length=f.length∧0≤x.2∧x.2.toNat<f.length∧Ly f i=Ly x.1 x.2) (λx=>[(0,.osl 900),(1,Aa x.2)]) (λx=>[(900,.row 1 Aa x.1)]) (λx=>x.2.toNat) (f,i) [] ⟨hf,E,h0,hi,E⟩ U ?_;rintro ⟨g,k⟩ ⟨h1,h2,h3,h4,hI⟩;dsimp only at h1 h2 h3 h4 hI⊢;have cm:k.toNat<g.length:=by omega
 have hn:=Ai cm;by_cases e:nth g k=k
 ·have hb:(g[k.toNat]==k)=true:=by rw[←hn];exact beq_iff_eq.mpr e
  have sx:(!(g[k.toNat]==k))=false:=by rw[hb];rfl
  rw[hI,Aur e];refine T ?_;exact done E (.cons .tmp .nil) [(900,900)] [(900,.row 1 Aa g)] (λ_ h=>h) E E U
 ·obtain ⟨a1,a2⟩:=Iv h1 h3 cm;obtain ⟨b1,b2⟩:=Iv h1 a1 (by omega:(nth g k).toNat<g.length);have fg:(g[k.toNat]'cm).toNat<g.length:=by omega
  have vi:nth g (nth g k)=g[(g[k.toNat]'cm).toNat]'fg:=by rw[hn];exact Ai fg
  have hs:=Ams h1 h3 cm e;have hb:(g[k.toNat]==k)=false:=by rw[←hn];exact beq_eq_false_iff_ne.mpr e
  have sx:(!(g[k.toNat]==k))=true:=by rw[hb];rfl
  refine T ?_;refine⟨nth g (nth g k),zH (λx=>cellsOf (Aa x)) vi,E,?_⟩;have dg:k.toNat<(g.set k.toNat (nth g (nth g k))).length:=by rw[yR];exact cm
  have hn2:(g.set k.toNat (nth g (nth g k)))[k.toNat]'dg=nth g (nth g k):=uV _;refine T ?_;refine Be (g.set k.toNat (nth g (nth g k)),nth g (nth g k)) [] ⟨M7 h1 cm b1 q_,by dsimp only;rw[yR];exact h2,b1,by dsimp only;omega,by dsimp only;rw[hI,hs]⟩ (by dsimp only;omega) ⟨⟨E,E,zH Aa hn2.symm,E,Y⟩,⟨.inl E,E,Y⟩,E,E⟩
def A6z(f:List Int)(a b:Int)(hf:Dp f)(ha:0≤a∧a.toNat<f.length)(hb:0≤b∧b.toNat<f.length)(hl:f.length≤100000):Sq 198 [.osl 900,Aa a,Aa b] [(900,.row 1 Aa f)] (Ab (W8 f a b).2) [(900,.row 1 Aa (W8 f a b).1)]:=cT F198 ntmps198 λF hF=>by
 obtain ⟨a1,a2,a3,a4⟩:=Qh a.toNat f a hf ha.1 ha.2 (yG _);obtain ⟨b1,b2,b3,b4⟩:=Qh b.toNat (Ly f a).1 b a1 hb.1 q_ (yG _);have F1:=topS f a hf ha.1 ha.2 hl;have F2:=topS (Ly f a).1 b a1 hb.1 q_ q_;rw[W8];dsimp only;generalize hy:Ly (Ly f a).1 b=y at *;generalize hx:Ly f a=x at *;have hm:(if y.2>x.2 then y.2 else x.2).toNat<y.1.length:=by split<;>omega
 have a8:0≤(if y.2>x.2 then y.2 else x.2):=by split<;>omega
 have e1:(max x.2 y.2).toNat=(if y.2>x.2 then y.2 else x.2).toNat:=by rw[Int.max_def];split<;>split<;>omega
 have e2:(min x.2 y.2)=(if y.2<x.2 then y.2 else x.2):=by rw[Int.min_def];split<;>split<;>omega
 rw[e1,e2];refine T ?_;refine X (Ad [(900,900)] E F275 F1 E W E V) ?_;refine T ?_;refine X (Ad [(900,900)] E F275 F2 E W E V) ?_;refine T ?_;refine X (A3c E E E) ?_;refine T ?_;refine X (U8 E E E) ?_;refine T ?_;refine⟨_,E,E,?_⟩;refine T ?_;exact done E (.cons .tmp .nil) [(900,900)] [(900,.row 1 Aa (y.1.set (if y.2>x.2 then y.2 else x.2).toNat (if y.2<x.2 then y.2 else x.2)))] (λ_ h=>h) E E U
def Zn{n:Net}{i:Nat}{v:Int}(h:(linkDomT n i v).2=true)(hi:i<n.ports.length):Dl n.ports[i] v=true:=by
 have e:nth n.ports ((i:Nat):Int)=n.ports[i]:=Ai (l:=n.ports) (i:=((i:Nat):Int)) hi;unfold linkDomT at h;split at h
 ·rename_i h3;unfold crossT at h3;split at h3
  ·rename_i h4;rw[e]at h4;exact h4.2.1
  ·cases h3
 ·cases h
def W5{n:Net}(hr:Ac n=true){f:List Int}{i:Nat}(hi:i<n.ports.length){v:Int}(hf:Dp f)(hl:n.domains.length≤f.length):Dp (D3 n f i v)∧(D3 n f i v).length=f.length:=by
 unfold D3;split
 ·rename_i h;have h2:=U0 h;have hm:Dl n.ports[i] v=true:=Zn h hi;have h3:=Z0 hr hi hm;have e:nth n.ports ((i:Nat):Int)=n.ports[i]:=Ai (l:=n.ports) (i:=((i:Nat):Int)) hi;rw[e];exact Afs hf ⟨h3.1,by omega⟩ ⟨h2.1,by omega⟩
 ·exact⟨hf,E⟩
def Lu{α:Type}{g:List Int→α→List Int}{k:Nat}:∀{l:List α} {f:List Int},(∀a∈l,∀f,Dp f→k≤f.length→Dp (g f a)∧(g f a).length=f.length)→Dp f→k≤f.length→Dp (l.foldl g f)∧(l.foldl g f).length=f.length
 |[],_,_,h,_=>⟨h,rfl⟩
 |a::l,f,hg,h,hk=>by
  obtain ⟨h1,h2⟩:=hg a y_ f h hk;obtain ⟨h3,h4⟩:=Lu (l:=l) (λb hb=>hg b (by simp[hb])) h1 (by omega:k≤(g f a).length);exact⟨h3,by rw[vF,h4,h2]⟩
def Uz{n:Net}(hr:Ac n=true){f:List Int}{i:Nat}(hi:i<n.ports.length)(hf:Dp f)(hl:n.domains.length≤f.length):Dp (Jg n f i)∧(Jg n f i).length=f.length :=
 Lu (λ_ _ _ h1 h2=>W5 hr hi h1 h2) hf hl
def Ala{n:Net}(hr:Ac n=true){f:List Int}(hf:Dp f)(hl:n.domains.length≤f.length):Dp (V4 n f)∧(V4 n f).length=f.length :=
 Lu (λi hi _ h1 h2=>Uz hr (by simpa using hi) h1 h2) hf hl
def Al1(l:List Int)(hl:l.length<2147483648):Sq 91 [.sl 1 Aa l] [] (.osl 0) [(0,.row 1 Aa l)]:=cT F91 ntmps91 λF hF=>by
 refine fW ?_;refine D1 E (.inl E) E E E .sl E E ?_;intro b hb;cases b
 ·refine fU ?_;refine Af (Ag Γ.toTy 7 E E E E E (.lit (e:=Aa) (l:=[]) E E) .sl y_ (by simp;omega) (by simp;omega)) E E ?_;refine fU ?_;exact done E (.cons .tmp .nil) [(0,7)] [(0,.row 1 Aa l)] (λ_ h=>h) E E kU
 ·have h0:l=[]:=zZ (hb rfl);subst h0;refine fU ?_;refine B7 2 1000 1 Aa E E ?_;exact done E (.cons .tmp .nil) [(0,1000)] [(0,.row 1 Aa [])] (λ_ h=>h) E E kU
def A5s(n:Net)(f:List Int)(hn:n.Fin)(hr:Ac n=true)(hf:Dp f)(hl:n.domains.length≤f.length)(gn:f.length≤100000):Sq 196 [Am n,.osl 900] [(900,.row 1 Aa f)] (.tup []) [(900,.row 1 Aa (V4 n f))]:=cT F196 ntmps196 λF hF=>by
 have hp:n.ports.length<2147483648:=hn.ports;refine T ?_;refine Bf 2 8 (Am n) E E E ?_;refine T ?_;refine A5 n.ports.length (λj=>[(1,.osl 900),(2,.ref 8 (Am n) 0),(11,.sl 7 A4 n.ports),(12,Aa n.ports.length),(13,Aa j)]) (λj=>[(900,.row 1 Aa ((List.range j).foldl (Jg n) f))]) [] U ?_;intro j hj;refine T ?_;constructor<;>intro h
 ·have ab:j<n.ports.length:=qA h;have ai:(j:Int).toNat<n.ports.length:=ab;clear h;have o7:n.ports[(j:Int).toNat].tagged.length<2147483648:=hn.tagged _ (zI ai);have htag2:n.ports[j].tagged.length<2147483648:=o7;have zg:nth n.ports ((j:Nat):Int)=n.ports[(j:Int).toNat]:=Ai ai;obtain ⟨g1,g2⟩:Dp ((List.range j).foldl (Jg n) f)∧((List.range j).foldl (Jg n) f).length=f.length:=Lu (λi hi _ h1 h2=>Uz hr (by have:=xA.1 hi;omega) h1 h2) hf hl;refine T ?_;refine Xd (Ad [(0,60)] E F91 (Al1 n.ports[(j:Int).toNat].tagged o7) E Y E ⟨.inr E,Y⟩) ?_;refine T ?_;refine Xd (Ag Γ.toTy 61 rfl rfl rfl rfl rfl (.row rfl) (.lit (e:=Aa) (l:=[n.ports[(j:Int).toNat].native]) rfl rfl) (by intro k hk;cases hk;decide) (by simp;omega) (by simp;omega)) ?_;refine T ?_;refine Bf 5 7 (A4 n.ports[(j:Int).toNat]) E E E ?_;have hlen:(n.ports[(j:Int).toNat].tagged++[n.ports[(j:Int).toNat].native]).length=n.ports[(j:Int).toNat].tagged.length+1:=by simp
  refine T ?_;obtain ⟨vl,iu⟩:∃vl,n.ports[(j:Int).toNat].tagged++[n.ports[(j:Int).toNat].native]=vl:=⟨_,rfl⟩
  have hvlen:vl.length<2147483649:=by rw[←iu,hlen];omega
  obtain ⟨fj,hfj⟩:∃fj,(List.range j).foldl (Jg n) f=fj:=⟨_,rfl⟩
  rw[hfj]at g1 g2;refine A5 vl.length (λi=>[(1,.osl 900),(2,.ref 8 (Am n) 0),(4,Aa j),(5,.ref 7 (A4 n.ports[(j:Int).toNat]) 0),(11,.sl 7 A4 n.ports),(12,Aa n.ports.length),(13,Aa j),(24,.osl 1000),(25,Aa vl.length),(26,Aa i)])
   (λi=>[(900,.row 1 Aa ((vl.take i).foldl (λf v=>D3 n f j v) fj)),(1000,.row 1 Aa vl)]) [(1000,61)] ⟨⟨rfl,rfl,rfl,rfl,rfl,rfl,rfl,rfl,rfl,rfl,rfl,rfl,rfl,rfl,rfl,rfl,zH (λl:List Int=>Aa l.length) iu.symm,rfl,rfl,rfl,trivial⟩,⟨.inl (zH (Ob.row 1 Aa) hfj.symm),rfl,.inl (zH (Ob.row 1 Aa) iu.symm),rfl,trivial⟩,rfl,rfl⟩ ?_
  intro i hi;refine T ?_;constructor<;>intro h
  ·have hit:i<vl.length:=qA h;have dp:(i:Int).toNat<vl.length:=hit;clear h;obtain ⟨e1,e2⟩:Dp ((vl.take i).foldl (λf v=>D3 n f j v) fj)∧((vl.take i).foldl (λf v=>D3 n f j v) fj).length=fj.length:=Lu (λ_ _ _ h1 h2=>W5 hr ab h1 h2) g1 q_;have d9:(vl.take (i+1)).foldl (λf v=>D3 n f j v) fj=D3 n ((vl.take i).foldl (λf v=>D3 n f j v) fj) j (vl[(i:Int).toNat]'dp):=by
    rw[yD hit,xO];rfl
   have q:=Zm n hn j (vl[(i:Int).toNat]'dp);refine gD q F162 ?_;cases hb:(linkDomT n j (vl[(i:Int).toNat]'dp)).2
   ·have hz:D3 n ((vl.take i).foldl (λf v=>D3 n f j v) fj) j (vl[(i:Int).toNat]'dp)=(vl.take i).foldl (λf v=>D3 n f j v) fj:=by rw[D3,zD (by rw[hb];decide)]
    rw[hz]at d9;refine T ?_;exact Ay [] q_ ⟨⟨E,E,E,E,E,E,E,E,E,E,E,E,E,E,E,E,E,E,E,E,Y⟩,⟨.inl (zH (Ob.row 1 Aa) d9),E,.inl E,E,Y⟩,E,E⟩
   ·have az:=U0 hb;have hm:Dl (n.ports[(j:Int).toNat]'ai) (vl[(i:Int).toNat]'dp)=true:=Zn hb ab;have vp:=Z0 hr ab hm;have q2:=Lg n hn hr (n.ports[(j:Int).toNat]'ai).dev (vl[(i:Int).toNat]'dp);have hz:D3 n ((vl.take i).foldl (λf v=>D3 n f j v) fj) j (vl[(i:Int).toNat]'dp)=(W8 ((vl.take i).foldl (λf v=>D3 n f j v) fj) (C2 n (n.ports[(j:Int).toNat]'ai).dev (vl[(i:Int).toNat]'dp)) (linkDomT n j (vl[(i:Int).toNat]'dp)).1).1:=by rw[D3,zG hb,zg]
    rw[hz]at d9;have q3:=A6z ((vl.take i).foldl (λf v=>D3 n f j v) fj) (C2 n (n.ports[(j:Int).toNat]'ai).dev (vl[(i:Int).toNat]'dp)) (linkDomT n j (vl[(i:Int).toNat]'dp)).1 e1 ⟨vp.1,yV vp.2 q_⟩ ⟨az.1,by omega⟩ q_;refine gD q2 F102 ?_;refine T ?_;refine X (Ad [(900,900)] E F198 q3 E W E V) ?_;refine T ?_;exact Ay [] q_ ⟨⟨E,E,E,E,E,E,E,E,E,E,E,E,E,E,E,E,E,E,E,E,Y⟩,⟨.inl (zH (Ob.row 1 Aa) d9),E,.inl E,E,Y⟩,E,E⟩
  ·have rp:i=vl.length:=qB h;clear h;subst rp;have d9:(List.range (j+1)).foldl (Jg n) f=(vl.take vl.length).foldl (λf v=>D3 n f j v) fj:=by
    rw[wV,xO,hfj,yN,←iu];show Jg n fj j=_;rw[Jg,zg]
   refine T ?_;exact Ay [] q_ ⟨⟨E,E,E,E,E,E,E,E,E,E,Y⟩,⟨.inl (zH (Ob.row 1 Aa) d9),E,Y⟩,E,E⟩
 ·have dh:j=n.ports.length:=qB h;clear h;subst dh;refine T ?_;exact A6 E .nil [(900,900)] [(900,.row 1 Aa (V4 n f))] (λ_ h=>h) E E U
def Avf:∀(l:List Int) (m:Int),Ahl m l=m∨Ahl m l∈l
 |[],_=>.inl rfl
 |x::l,m=>by
  rw[Ahl];rcases Avf l (min m x) with h|h
  ·rw[h,Int.min_def];split
   ·exact .inl E
   ·exact .inr y_
  ·exact .inr (by simp[h])
def A5o{l:List Int}(h:l≠[]):Aob l∈l:=by
 match l,h with
 |x::l,_=>
  show Ahl (nth (x::l) 0) l∈x::l;rw[show nth (x::l) 0=x from rfl];rcases Avf l x with h|h
  ·rw[h];simp
  ·simp[h]
def loopS(n:Net)(hn:n.Fin):Sp 136 [Am n] (.tup [Aa (loopT n).1,Ab (loopT n).2]):=cT F136 ntmps136 λF hF=>by
 have qn:=A1 n hn;have hT:=loopT.eq_1 n;generalize loopT n=res at *;cases hr:Ac n with
 |false=>
  rw[hr]at qn;rw[hr,zG rfl]at hT;subst hT;refine gD qn F22 ?_;exact gA
 |true=>
 rw[hr]at qn;rw[hr,zD y_]at hT;obtain ⟨_,_,_,hmany,_⟩:=Avv hr;obtain ⟨fa1,fa2⟩:=Ama (2*n.domains.length);have fl:=Ala hr fa1 q_;have q1:=aloneS (2*n.domains.length) q_;rw[show ((2*n.domains.length:Nat):Int)=2*(n.domains.length:Int) from by omega]at q1;have q2:=A5s n (Oe (2*n.domains.length)) hn hr fa1 q_ q_;refine gD qn F22 ?_;refine Bf 1 8 (Am n) E E E ?_;refine T ?_;refine X (Ad [(900,700)] E F195 q1 E W E V) ?_;refine T ?_;refine X (Ad [(900,700)] E F196 q2 E W E V) ?_;refine T ?_;refine C3 (λx:Nat×List Int=>x.1≤n.domains.length∧Dp x.2∧x.2.length=2*n.domains.length∧res=S1 n x.2 x.1 (n.domains.drop x.1)) (λx=>[(1,.ref 8 (Am n) 0),(4,Aa n.domains.length),(5,.osl 1000),(22,.sl 6 As n.domains),(23,Aa n.domains.length),(24,Aa x.1)])
  (λx=>[(1000,.row 1 Aa x.2)]) (λx=>n.domains.length-x.1) (0,V4 n (Oe (2*n.domains.length))) [(1000,700)] ⟨by omega,fl.1,by dsimp only;rw[fl.2,fa2],hT⟩ U ?_
 rintro ⟨i,f⟩ ⟨h1,h2,h3,hI⟩;dsimp only at h1 h2 h3 hI⊢;refine T ?_;constructor<;>intro h
 ·have ab:i<n.domains.length:=qA h;have dp:(i:Int).toNat<n.domains.length:=ab;clear h;rw[yP ab,S1]at hI;have bh:n.domains[(i:Int).toNat].peers.length<2147483648:=hn.peers _ (zI dp);refine T ?_;constructor<;>intro h
  ·have gp:n.domains[i].peers=[]:=zZ (by have:=eq_of_beq h;have e:(n.domains[(i:Int).toNat]'dp).peers.length=n.domains[i].peers.length:=rfl;omega);clear h;rw[zG gp]at hI;refine T ?_;exact Be (i+1,f) [] ⟨ab,h2,h3,hI⟩ (by dsimp only;omega) kU
  have gp:n.domains[i].peers≠[]:=λe=>by
   have e2:(n.domains[(i:Int).toNat]'dp).peers=[]:=e;rw[e2]at h;cases h
  clear h;rw[zD gp]at hI;dsimp only at hI;have yz:=Atz hr ab (A5o gp);have qm:=Awz (n.domains[(i:Int).toNat]'dp).peers (by have:=xN.2 gp;exact this) bh;obtain ⟨m,hm⟩:∃m,Aob (n.domains[(i:Int).toNat]'dp).peers=m:=⟨_,rfl⟩
  have mu:Aob n.domains[i].peers=m:=hm;have emin:min (i:Int) m=if m<(i:Int) then m else (i:Int):=by rw[Int.min_def];split<;>split<;>omega
  rw[hm]at qm;rw[mu]at hI yz;rw[emin]at hI;have hmb:0≤(if m<(i:Int) then m else (i:Int))∧(if m<(i:Int) then m else (i:Int))<n.domains.length:=by split<;>omega
  have q3:=A6z f i ((n.domains.length:Int)+(if m<(i:Int) then m else (i:Int))) h2 ⟨by omega,by omega⟩ ⟨by omega,by omega⟩ q_;have q3f:=Afs h2 (⟨by omega,by omega⟩:0≤(i:Int)∧(i:Int).toNat<f.length) (⟨by omega,by omega⟩:0≤(n.domains.length:Int)+(if m<(i:Int) then m else (i:Int))∧((n.domains.length:Int)+(if m<(i:Int) then m else (i:Int))).toNat<f.length);have hb48:(n.domains.length:Int)+(if m<(i:Int) then m else (i:Int))<100:=by omega
  generalize (W8 f i ((n.domains.length:Int)+(if m<(i:Int) then m else (i:Int))))=r at *;obtain ⟨g,ok⟩:=r;dsimp only at hI q3f;refine gD qm F197 ?_;refine T ?_;refine X (U8 E E E) ?_;refine T ?_;refine X (Ad [(900,1000)] E F198 q3 E W E V) ?_;cases ok with
  |false=>
   rw[zG rfl]at hI;rw[hI];exact gA
  |true=>
   rw[zD j_]at hI;refine T ?_;exact Be (i+1,g) [] ⟨ab,q3f.1,by dsimp only;omega,hI⟩ (by dsimp only;omega) kU
 ·have rp:i=n.domains.length:=qB h;clear h;rw[rp,uF,S1]at hI;rw[hI];exact gA
def Yx(dn lk:Int)(M:List LineM)(n:Net)(row e:Int):List SV:=[.val (.int .u32 dn),.val (.int .i32 lk),.val (.int .u32 0),.sl 17 A3 M]++C6 n++[Aa row,Aa e]
def Ig(dn lk:Int)(M:List LineM)(x:Net×Int×Int):Obs:=[(0,.box (Yx dn lk M x.1 x.2.1 x.2.2))]
def A18{n:Net}(h:(meshNT n).2.2=0):(meshNT n).2.1=0:=by
 unfold meshNT at h⊢;split
 ·rfl
 rename_i h1;rw[zD h1]at h;split at h
 ·cases h
 ·rename_i h2;split at h
  ·cases h
  ·rename_i h3;rw[zD h3]
def Ars(M:List LineM)(hM:∀l∈M,LineW l)(hl:M.length<2147483648)(dn lk:Int):Sq 79 [.ptr 0 0] (Ig dn lk M (emptyN,0,0)) (.tup []) (Ig dn lk M (Dc M)):=cT F79 ntmps79 λF hF=>by
 refine T ?_;refine C3 (λx:Nat×Net=>x.1≤M.length∧x.2.Fin∧Dr x.2∧Dc M=Bt x.2 (M.drop x.1)) (λx=>[(0,.ptr 0 0),(9,.sl 17 A3 M),(10,Aa M.length),(11,Aa x.1)]) (λx=>Ig dn lk M (x.2,0,0)) (λx=>M.length-x.1) (0,emptyN) [] ⟨by omega,J3,(λx hx=>by cases hx),rfl⟩ U ?_;rintro ⟨j,n⟩ ⟨hj,hn,ha,hI⟩;dsimp only at hj hn ha hI⊢;refine T ?_;constructor<;>intro h
 ·have ab:j<M.length:=qA h;have ai:(j:Int).toNat<M.length:=ab;clear h;have hw:=hM _ (zI ai);have q:=A5n n hn ha _ hw;have hp:=Au6 hn ha hw;rw[yP ab,Bt]at hI;refine T ?_;refine cD q F134 ?_;refine T ?_;constructor<;>intro h
  ·have ag:(putT n (M[(j:Int).toNat]'ai)).2≠0:=by intro e;rw[e]at h;cases h
   have he:=hp.none ag;have x7:Dc M=(emptyN,(M[(j:Int).toNat]'ai).row,(putT n (M[(j:Int).toNat]'ai)).2):=hI.trans (zG ag);rw[x7,←he];clear h;refine T ?_;exact done E .nil [] (Ig dn lk M ((putT n (M[(j:Int).toNat]'ai)).1,(M[(j:Int).toNat]'ai).row,(putT n (M[(j:Int).toNat]'ai)).2)) (λ_ h=>h) E E U
  ·have he:(putT n (M[(j:Int).toNat]'ai)).2=0:=by simpa using h
   have x7:Dc M=Bt (putT n (M[(j:Int).toNat]'ai)).1 (M.drop (j+1)):=hI.trans (zD (λhh=>hh he));clear h;refine T ?_;exact Be (j+1,(putT n (M[(j:Int).toNat]'ai)).1) [] ⟨ab,hp.fin,hp.addrs,x7⟩ (by dsimp only;omega) ⟨⟨E,E,E,E,E,E,E,E,Y⟩,⟨.inl (zH (λe:Int=>Ob.box (Yx dn lk M (putT n (M[(j:Int).toNat]'ai)).1 0 e)) he.symm),E,Y⟩,E,E⟩
 ·have dh:j=M.length:=qB h;clear h;rw[dh,uF,Bt]at hI;rw[hI];have qm:=meshS n hn;have hf:=finishT.eq_1 n;refine gD qm F135 ?_;refine T ?_;constructor<;>intro h
  ·have ag:(meshNT n).2.2≠0:=by intro e;rw[e]at h;cases h
   rw[zG ag]at hf;rw[hf];clear h;refine T ?_;exact done E .nil [] (Ig dn lk M (meshNT n)) (λ_ h=>h) E E U
  have he:(meshNT n).2.2=0:=by simpa using h
  clear h;have fx:(meshNT n).2.1=0:=A18 he;rw[zD (by rw[he];decide)]at hf;have ql:=loopS (meshNT n).1 (Aiu hn);refine gD ql F136 ?_;refine T ?_;constructor<;>intro h
  ·rw[zG h]at hf;rw[hf];clear h;refine T ?_;refine Ak 0 (Yx dn lk M emptyN (loopT (meshNT n).1).1 38) E vL ?_;exact A6 E .nil [] (Ig dn lk M (emptyN,(loopT (meshNT n).1).1,38)) (λ_ h=>h) E E U
  ·rw[zD (by rw[h];decide)]at hf;rw[hf];clear h;refine T ?_;exact A6 E .nil [] (Ig dn lk M ((meshNT n).1,0,0)) (λ_ h=>h) E E ⟨Y,⟨.inl (zH (λa:Int×Int=>Ob.box (Yx dn lk M (meshNT n).1 a.1 a.2)) (Prod.ext fx.symm he.symm:((0:Int),(0:Int))=(meshNT n).2)),E,Y⟩,E,E⟩
end Go.Sy.YticmobkdaneelaaGreatDoor
