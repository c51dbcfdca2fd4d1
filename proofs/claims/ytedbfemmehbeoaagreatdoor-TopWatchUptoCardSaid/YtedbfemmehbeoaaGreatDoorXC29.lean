/- Parts of a proof. -/
import Derived.Test.YtedbfemmehbeoaaGreatDoorXC27
import Derived.Test.YtedbfemmehbeoaaGreatDoorXC28
import Derived.Test.YtedbfemmehbeoaaGreatDoorXC24
set_option linter.all false
namespace Go.Sy.Zaa
open Go.Proofs Go.Proofs.Tryz
structure Ex where
 row:Int
 name:ByteArray
 av:List ByteArray
 g:List ByteArray
instance:Inhabited Ex:=⟨⟨0,⟨#[]⟩,[],[]⟩⟩
def He(t:Ex):SV:=.agg [Aa t.row,Ap t.name,.sl 1 Ap t.av,.sl 1 Ap t.g]
def Apq:Ex:=⟨0,⟨#[]⟩,[],[]⟩
abbrev A2k:ByteArray:=⟨#[116,101,110,97,110,116]⟩
def Xk(w:ByteArray):ByteArray×ByteArray×Bool:=((Ib 46 w).1,(Ib 46 w).2.1,(Ib 46 w).2.2&&A5 (Ib 46 w).1&&A5 (Ib 46 w).2.1)
def bP(t:Ex):List ByteArray->Ex×Int
 |[]=>(t,0)
 |w::l=>if (Xk w).2.2=false then (Apq,20) else bP {t with av:=t.av++[(Xk w).1],g:=t.g++[(Xk w).2.1]} l
def L7(w:List ByteArray)(row:Int):Ex×Int :=
 if A4 w 0≠A2k\/w.length<=2\/18<w.length then (Apq,22) else if A5 (A4 w 1)=false then (Apq,20)
 else bP ⟨row,A4 w 1,[],[]⟩ (w.drop 2)
def Ip(i:Nat)(out:List Ex):List ByteArray->List Ex×Int×Int
 |[]=>(out,0,0)
 |r::g=>if (Iu r).2≠0 then ([],i+1,(Iu r).2) else if (Iu r).1=[] then Ip (i+1) out g
  else if (L7 (Iu r).1 (i+1)).2≠0 then ([],i+1,(L7 (Iu r).1 (i+1)).2) else if out.length=10 then ([],i+1,3)
  else Ip (i+1) (out++[(L7 (Iu r).1 (i+1)).1]) g
def Cj(b:List UInt8):List Ex×Int×Int:=if (H5 b).2≠0 then ([],0,(H5 b).2) else Ip 0 [] (H5 b).1
def Tx(t:Ex):Bool:=A5 t.name&&(decide (t.av.length=t.g.length)&&(decide (0<t.av.length)&&(decide (t.av.length<=16)&&(!(t.av.any λs=>!(A5 s))&&!(t.g.any λs=>!(A5 s))))))
def Du(n:Ai)(i:Int):List Int->List ByteArray->List ByteArray->List Int×Int
 |g,d::ds,p::ps=>
  let at_:=L4 n (Cg n d) p
  if at_<0 then (g,31) else if 0<=(Af n.g at_).ah\/Af g at_≠-1 then (g,39) else Du n i (g.set at_.toNat i) ds ps
 |g,_,_=>(g,0)
def Hm(n:Ai)(L:List Ex):Nat->List Int->List Ex->List Int×Int×Int×Int
 |_,g,[]=>(g,0,0,0)
 |i,g,t::r=>
  if Tx t=false\/10<=i then ([],2,t.row,2) else if (L.take i).any (λx=>x.name==t.name)=true then ([],2,t.row,30)
  else if (Du n i g t.av t.g).2≠0 then ([],2,t.row,(Du n i g t.av t.g).2) else Hm n L (i+1) (Du n i g t.av t.g).1 r
def nU(n:Ai)(g:List Int):Nat->List D4->Nat
 |i,[]=>i
 |i,p::r=>if p.ah<0/\Af g i=-1 then i else nU n g (i+1) r
def Co(n:Ai)(L:List Ex):List Int×Int×Int×Int :=
 if Ac n=false then ([],0,0,2) else
 let a:=Hm n L 0 (List.replicate n.g.length (-1)) L
 if a.2.2.2≠0 then a else
 if nU n a.1 0 n.g<n.g.length then ([],1,(Af n.g (nU n a.1 0 n.g)).row,39) else (a.1,0,0,0)
def Z3(n:Ai)(i:List Int)(from_:Nat)(a:Int):Nat->List Int->Option Nat
 |_,[]=>none
 |g,b::r=>if ¬(a<0\/b<0\/a=b)/\(Kh n from_ g).2=true then some g else Z3 n i from_ a (g+1) r
def Aaf(n:Ai)(g:List Int):Nat->List Int->Int×Int×Bool
 |_,[]=>(0,0,false)
 |from_,a::r=>match Z3 n g from_ a 0 g with
  |some i=>(from_,i,true)
  |none=>Aaf n g (from_+1) r
def Kq(n:Ai)(g:List Int):Int×Int×Bool:=if Jt n g=false then (0,0,false) else Aaf n g 0 g
def cL(w row e:Int):Vl:=⟨3,w,row,e,0,0,[]⟩
def Yc(n:Ai)(a:List Int×Int×Int×Int):Vl :=
 if a.2.2.2≠0 then cL a.2.1 a.2.2.1 a.2.2.2 else if (Kq n a.1).2.2=false then ⟨1,0,0,0,0,0,[]⟩
 else ⟨2,0,0,0,(Kq n a.1).1,(Kq n a.1).2.1,(Qx n (Kq n a.1).1 (Kq n a.1).2.1).1⟩
def D6(b c:List UInt8):Vl :=
 if (Ak b).2.2≠0 then cL 1 (Ak b).2.1 (Ak b).2.2 else if (Cj c).2.2≠0 then cL 2 (Cj c).2.1 (Cj c).2.2
 else Yc (Ak b).1 (Co (Ak b).1 (Cj c).1)
def Dk(z:Int):Prop:=0<=z/\z<=1000
def C9:Dk 0:=by unfold Dk;omega
structure RowN(n:Ai):Prop where
 g:∀p∈n.g,Dk p.row
 bw:∀d∈n.c,Dk d.row
 y:∀f∈n.y,Dk f.row
def Mu:RowN Au:=⟨λ_ h=>(by cases h),λ_ h=>(by cases h),λ_ h=>(by cases h)⟩
def Aqj{k:Type}[Inhabited k]{P:k->Prop}{l:List k}(h:∀x∈l,P x)(g:P default)(i:Int):P (Af l i):=by
 rw[Af];cases j:l[i.toNat]? with
 |none=>exact g
 |some x=>exact h x (List.mem_of_getElem? j)
def Asn{ps:List D4}(h:∀p∈ps,Dk p.row)(a k:Int):∀p∈Il ps a k,Dk p.row:=by
 intro p hp;rcases mem_set hp with hp|rfl
 .exact h p hp
 .exact Aqj (P:=λp:D4=>Dk p.row) h C9 a
def Awa{ds:List A0}(h:∀d∈ds,Dk d.row){i:Nat}{j:Int}{x:A0}(g:x.row=(Af ds j).row\/Dk x.row):∀d∈ds.set i x,Dk d.row:=by
 intro d l;rcases mem_set l with l|rfl
 .exact h d l
 .rcases g with g|g
  .rw[g];exact Aqj (P:=λd:A0=>Dk d.row) h C9 j
  .exact g
def Ao7{dev:Int}:∀(l:List Int) {ds:List A0},(∀d∈ds,Dk d.row)->∀d∈By dev ds l,Dk d.row
 |[],_,h=>h
 |v::l,ds,h=>by
  rw[By,vG];refine Ao7 l (ds:=D0 dev ds v) λd g=>?_
  rw[D0]at g;split at g
  .rcases yJ.1 g with g|g
   .exact h d g
   .rw[zX.1 g];exact C9
  .exact h d g
def fB{k:Type}{f:k->Int}{l:List k}{x:k}(h:∀y∈l,Dk (f y))(i:Dk (f x)):∀y∈l++[x],Dk (f y):=λy g=>by
 rcases yJ.1 g with g|g
 .exact h y g
 .rw[zX.1 g];exact i
def A98{n:Ai}{l:A2}(h:RowN n)(g:Dk l.row):RowN (La n l).1:=by
 have e:=Mu;rw[La];split
 .rw[Df]
  repeat' split
  all_goals (first|exact e|exact⟨h.g,h.bw,h.y⟩)
 split
 .rw[E4]
  repeat' split
  all_goals (first|exact e|exact⟨fB (f:=λp:D4=>p.row) h.g g,Ao7 _ h.bw,h.y⟩)
 split
 .rw[E5];dsimp only
  repeat' split
  all_goals (first|exact e|exact⟨Asn (Asn h.g _ _) _ _,h.bw,h.y⟩)
 split
 .rw[De];dsimp only
  repeat' split
  all_goals (first|exact e|exact⟨h.g,h.bw,h.y⟩)
 split
 .rw[E3];dsimp only
  repeat' split
  all_goals (first|exact e|exact⟨h.g,h.bw,h.y⟩)
 split
 .rw[Iw];dsimp only
  repeat' split
  all_goals (first|exact e|exact⟨h.g,Awa h.bw (j:=0) (.inr g),h.y⟩)
 split
 .rw[D1];dsimp only
  repeat' split
  all_goals (first|exact e|exact⟨h.g,h.bw,fB (f:=λp:Mg=>p.row) h.y g⟩)
 split
 .rw[Iv];dsimp only
  repeat' split
  all_goals (first|exact e|exact⟨h.g,h.bw,h.y⟩)
 split
 .rw[Iy];dsimp only
  repeat' split
  all_goals (first|exact e|exact⟨h.g,Awa h.bw (.inl rfl),h.y⟩)
 exact e
def Aum{n:Ai}(h:RowN n):RowN (Cv n):=⟨h.g,λ d g=>by
 obtain ⟨x,i,rfl⟩:=yT.1 (show d∈n.c.map _ from g);exact h.bw x i,h.y⟩
def A6j{n:Ai}(h:RowN n):RowN (Dj n).1/\Dk (Dj n).2.1:=by
 rw[Dj];split
 .exact⟨Mu,C9⟩
 split
 .rename_i f g;exact⟨Mu,h.y f (List.mem_of_find?_eq_some g)⟩
 split
 .exact⟨Mu,C9⟩
 .exact⟨Aum h,C9⟩
def cX{n:Ai}:∀(l:List A0) (f:List Int) (i:Nat),(∀d∈l,Dk d.row)->Dk (We n f i l).1
 |[],_,_,_=>C9
 |d::r,f,i,h=>by
  rw[We];dsimp only;split
  .exact cX r _ _ λx g=>h x (by simp[g])
  split
  .exact h d qx
  .exact cX r _ _ λx g=>h x (by simp[g])
def A6v{n:Ai}(h:RowN n):Dk (Wc n).1:=by
 rw[Wc];split
 .exact C9
 .exact cX _ _ _ h.bw
def Av0{n:Ai}(h:RowN n):RowN (Lc n).1/\Dk (Lc n).2.1:=by
 have hm:=A6j h;rw[Lc];split
 .exact hm
 split
 .exact⟨Mu,A6v hm.1⟩
 .exact⟨hm.1,C9⟩
def Adk:∀(l:List A2) (n:Ai),RowN n->(∀x∈l,Dk x.row)->RowN (Bw n l).1/\Dk (Bw n l).2.1
 |[],n,h,_=>by rw[Bw];exact Av0 h
 |x::l,n,h,g=>by
  rw[Bw];split
  .exact⟨Mu,g x qx⟩
  .exact Adk l _ (A98 h (g x qx)) λy i=>g y (by simp[i])
def A4w(w:List ByteArray)(row:Int):(C0 w row).1.row=row:=by
 unfold C0;dsimp only
 repeat' split
 all_goals rfl
def A9k{w:List ByteArray}{row:Int}(h:Dk row):Dk (Dh w row).1.row:=by
 rw[Dh];split
 .exact C9
 split
 .exact C9
 .rw[show ((C0 w row).1,(0:Int)).1=(C0 w row).1 from rfl,A4w];exact h
def bO:∀(g:List ByteArray) (i:Nat) (out:List A2),i+g.length<=400->(∀x∈out,Dk x.row)->(∀x∈(K3 i g out).1,Dk x.row)/\Dk (K3 i g out).2.1
 |[],i,out,_,h=>by rw[K3];exact⟨h,C9⟩
 |r::g,i,out,hi,h=>by
  rw[yI]at hi;have j:Dk ((i:Int)+1):=by unfold Dk;omega
  rw[K3];split
  .exact⟨λx o=>(by cases o),j⟩
  split
  .exact bO g (i+1) out j_ h
  split
  .exact⟨λx o=>(by cases o),j⟩
  .exact bO g (i+1) _ j_ (fB (f:=λl:A2=>l.row) h (A9k j))
def A4j(b:List UInt8):(∀x∈(Lk b).1,Dk x.row)/\Dk (Lk b).2.1:=by
 rw[Lk];split
 .exact⟨λx g=>(by cases g),C9⟩
 .exact bO _ 0 [] (by have:=(Xa b).2.1;omega) λx g=>(by cases g)
def Aqk(b:List UInt8):RowN (Ak b).1/\Dk (Ak b).2.1:=by
 have g:=A4j b;rw[Ak];split
 .exact⟨Mu,g.2⟩
 .exact Adk _ _ Mu g.1
def Amv{row:Int}(h:Dk row):∀(l:List ByteArray) (t:Ex),Dk t.row->Dk (bP t l).1.row
 |[],t,g=>g
 |w::l,t,g=>by
  rw[bP];split
  .exact C9
  .exact Amv h l _ g
def Axx{w:List ByteArray}{row:Int}(h:Dk row):Dk (L7 w row).1.row:=by
 rw[L7];split
 .exact C9
 split
 .exact C9
 .exact Amv h _ _ h
def X1:∀(g:List ByteArray) (i:Nat) (out:List Ex),i+g.length<=400->(∀x∈out,Dk x.row)->(∀x∈(Ip i out g).1,Dk x.row)/\Dk (Ip i out g).2.1
 |[],i,out,_,h=>by rw[Ip];exact⟨h,C9⟩
 |r::g,i,out,hi,h=>by
  rw[yI]at hi;have o:Dk ((i:Int)+1):=by unfold Dk;omega
  rw[Ip];split
  .exact⟨λx j=>(by cases j),o⟩
  split
  .exact X1 g (i+1) out j_ h
  split
  .exact⟨λx j=>(by cases j),o⟩
  split
  .exact⟨λx j=>(by cases j),o⟩
  .exact X1 g (i+1) _ j_ (fB (f:=λl:Ex=>l.row) h (Axx o))
def Att(b:List UInt8):(∀x∈(Cj b).1,Dk x.row)/\Dk (Cj b).2.1:=by
 rw[Cj];split
 .exact⟨λx g=>(by cases g),C9⟩
 .exact X1 _ 0 [] (by have:=(Xa b).2.1;omega) λx g=>(by cases g)
def nW{n:Ai}{L:List Ex}:∀(l:List Ex) (i:Nat) (j:List Int),(∀x∈l,Dk x.row)->Dk (Hm n L i j l).2.2.1
 |[],_,_,_=>C9
 |t::r,i,j,h=>by
  have g:=h t qx;rw[Hm];split
  .exact g
  split
  .exact g
  split
  .exact g
  .exact nW r _ _ λx o=>h x (by simp[o])
def Awz{n:Ai}{L:List Ex}(g:RowN n)(i:∀x∈L,Dk x.row):Dk (Co n L).2.2.1:=by
 rw[Co];dsimp only;split
 .exact C9
 split
 .exact nW _ _ _ i
 split
 .exact Aqj (P:=λp:D4=>Dk p.row) g.g C9 _
 .exact C9
def Ar8(b c:List UInt8):Dk (D6 b c).row:=by
 have g:=Aqk b;have i:=Att c;rw[D6];split
 .exact g.2
 split
 .exact i.2
 rw[Yc];split
 .exact Awz g.1 i.1
 split
 .exact C9
 .exact C9
def Km{z:Int}(h:(decide (0<=z)&&decide (z<=1000))=true):Dk z:=by
 rw[zG,zK,zK]at h;exact h
def Bf5(n:Ai)(l:A2)(k:Int):Dk (Eh n l k).2:=by
 rw[Eh]
 repeat' split
 all_goals exact Km rfl
def Beq(n:Ai)(l:A2):Dk (La n l).2:=by
 rw[La]
 repeat' (first|split|rw[Df]|rw[E4]|rw[E5]|rw[De]|rw[E3]|rw[Iw]|rw[D1]|rw[Iv]|rw[Iy]|dsimp only)
 all_goals first|exact Km rfl|exact Bf5 _ _ _
def Bba(n:Ai):Dk (Dj n).2.2:=by
 rw[Dj]
 repeat' split
 all_goals exact Km rfl
def A09(n:Ai):Dk (Lc n).2.2:=by
 rw[Lc];split
 .exact Bba n
 split
 .exact Km q_
 .exact Km q_
def Agm:∀(l:List A2) (n:Ai),Dk (Bw n l).2.2
 |[],n=>by rw[Bw];exact A09 n
 |x::l,n=>by
  rw[Bw];split
  .exact Beq n x
  .exact Agm l _
def Aod:∀(l:List (Bool×Int)),(∀x∈l,Dk x.2)->Dk (Ca l)
 |[],_=>C9
 |(b,e)::l,h=>by
  rw[Ca];split
  .exact h (b,e) qx
  .exact Aod l λx g=>h x (by simp[g])
def A5w(w:List ByteArray):∀x∈(If w).2.2,Dk x.2:=by
 intro x g;have i:Dk 21:=Km rfl;unfold If at g
 repeat' split at g
 all_goals (try simp only[yH,xJ,vH]at g)
 all_goals (repeat' (first|exact i|(rcases g with g|g)))
def A4x(w:List ByteArray)(row:Int):∀x∈(C0 w row).2,Dk x.2:=by
 intro x g;have hp:=A5w w;unfold C0 at g;dsimp only at g;have i:Dk 20:=Km rfl;have j:Dk 21:=Km rfl
 repeat' split at g
 all_goals
  simp only[yH,yJ,xJ,vH]at g
  repeat' (first|exact hp x g|exact i|exact j|(rcases g with g|g))
def A9l(w:List ByteArray)(row:Int):Dk (Dh w row).2:=by
 rw[Dh];split
 .exact Km q_
 split
 .exact Aod _ (A4x w row)
 .exact C9
def Amp(r:ByteArray):Dk (Iu r).2:=by
 rw[Iu];split<;>exact Km rfl
def oM:∀(g:List ByteArray) (i:Nat) (out:List A2),Dk (K3 i g out).2.2
 |[],i,out=>by rw[K3];exact C9
 |r::g,i,out=>by
  rw[K3];split
  .exact Amp r
  split
  .exact oM g _ _
  split
  .exact A9l _ _
  .exact oM g _ _
def As9(b:List UInt8):Dk (H5 b).2:=by
 have:=(Xa b).2.2;unfold Dk;omega
def Auh(b:List UInt8):Dk (Ak b).2.2:=by
 rw[Ak];split
 .rw[Lk];split
  .exact As9 b
  .exact oM _ _ _
 .exact Agm _ _
def Amw:∀(l:List ByteArray) (t:Ex),Dk (bP t l).2
 |[],t=>C9
 |w::l,t=>by
  rw[bP];split
  .exact Km q_
  .exact Amw l _
def Axy(w:List ByteArray)(row:Int):Dk (L7 w row).2:=by
 rw[L7];split
 .exact Km q_
 split
 .exact Km q_
 .exact Amw _ _
def Zw:∀(g:List ByteArray) (i:Nat) (out:List Ex),Dk (Ip i out g).2.2
 |[],i,out=>by rw[Ip];exact C9
 |r::g,i,out=>by
  rw[Ip];split
  .exact Amp r
  split
  .exact Zw g _ _
  split
  .exact Axy _ _
  split
  .exact Km q_
  .exact Zw g _ _
def Azn(b:List UInt8):Dk (Cj b).2.2:=by
 rw[Cj];split
 .exact As9 b
 .exact Zw _ _ _
def Aoy{n:Ai}{i:Int}:∀(ds ps:List ByteArray) (g:List Int),Dk (Du n i g ds ps).2
 |d::ds,p::ps,g=>by
  rw[Du];split
  .exact Km q_
  split
  .exact Km q_
  .exact Aoy ds ps _
 |[],ps,g=>by cases ps<;>exact C9
 |_::_,[],g=>C9
def Adq{n:Ai}{L:List Ex}:∀(l:List Ex) (i:Nat) (g:List Int),Dk (Hm n L i g l).2.2.2
 |[],_,_=>C9
 |t::r,i,g=>by
  rw[Hm];split
  .exact Km q_
  split
  .exact Km q_
  split
  .exact Aoy _ _ _
  .exact Adq r _ _
def Axt(b c:List UInt8):Dk (D6 b c).error:=by
 rw[D6];split
 .exact Auh b
 split
 .exact Azn c
 rw[Yc];split
 .show Dk (Co (Ak b).1 (Cj c).1).2.2.2;rw[Co];dsimp only;split
  .exact Km q_
  split
  .exact Adq _ _ _
  split
  .exact Km q_
  .exact C9
 split
 .exact C9
 .exact C9
def Clean(s:ByteArray):Prop:=(32:UInt8)∉s.data.toList/\(10:UInt8)∉s.data.toList
def Akr{n:Ai}(j:O1 n)(r:Ac n=true){i:Int}(hi:0<=i/\i.toNat<n.g.length):Clean (Cr n i):=by
 have l:((i.toNat:Nat):Int)=i:=yQ hi.1;have o:=A20 r hi.2;rw[l]at o;have p:=(Aom j o).1;have g:=(j.cl i.toNat hi.2).1;rw[l]at g;unfold Clean;rw[lY];have t:=fI p (c:=32) qq qq;have I:=fI g (c:=32) qq qq;have J:=fI p (c:=10) qq qq;have P:=fI g (c:=10) qq qq;simp[t,I,J,P]
def Aou{v:Int}(h:0<=v):Clean (I7 v):=⟨Bat v h 32 (.inl qq),Bat v h 10 (.inl qq)⟩
def A0w:∀k:Fin 16,J1 (dL k.1)=(k.1:Int)/\dL k.1≠32/\dL k.1≠10/\dL k.1≠45:=by decide +kernel
def An3{k:Nat}(h:k<16):J1 (dL k)=(k:Int)/\dL k≠32/\dL k≠10/\dL k≠45:=A0w ⟨k,h⟩
def Aqw:∀(l:List UInt8) {c:UInt8},(c=32\/c=10)->c∉Acu l
 |[],_,_=>by simp[Acu]
 |x::l,c,g=>by
  have p:=x.toNat_lt;have i:=An3 (k:=x.toNat/16) j_;have j:=An3 (k:=x.toNat%16) j_;have o:=Aqw l g;show c∉dL (x.toNat/16)::dL (x.toNat%16)::Acu l;intro hm;rcases yH.1 hm with e|hm
  .rcases g with rfl|rfl
   .exact i.2.1 e.symm
   .exact i.2.2.1 e.symm
  rcases yH.1 hm with e|hm
  .rcases g with rfl|rfl
   .exact j.2.1 e.symm
   .exact j.2.2.1 e.symm
  exact o hm
def Aov(l:List UInt8):Clean (dJ l):=by
 rw[dJ];split
 .unfold Clean;decide
 .unfold Clean;rw[Jy];exact⟨Aqw l (.inl q_),Aqw l (.inr q_)⟩
def Ans:∀(r:List (List UInt8)) (x:List UInt8),(10:UInt8)∉x->(∀y∈r,(10:UInt8)∉y)->(10:UInt8)∉Lib.join (x::r) [32]
 |[],x,h,_=>by rw[Lib.join_one];exact h
 |y::r,x,h,g=>by
  have i:=Ans r y (g y qx) (λz j=>g z (by simp[j]));have e:Lib.join (x::y::r) [32]=x++32::Lib.join (y::r) [32]:=by
   rw[Lib.join_cons,Lib.join_cons,Lib.joinTail,Lib.joinTail];simp
  rw[e];intro hm;rcases yJ.1 hm with hm|hm
  .exact h hm
  rcases yH.1 hm with hm|hm
  .cases hm
  .exact i hm
def Aot{l:List ByteArray}(g:l≠[])(h:∀x∈l,Clean x):Bd 32 (Hs l ⟨#[32]⟩)=l/\(10:UInt8)∉(Hs l ⟨#[32]⟩).data.toList:=by
 refine⟨Asu l g (λx i=>(h x i).1),?_⟩;cases l with
 |nil=>exact zW rfl g
 |cons x l=>
  have e:(Hs (x::l) ⟨#[32]⟩).data.toList=Lib.join (x.data.toList::l.map (λy=>y.data.toList)) [32]:=by
   simp only[Hs,xR]
  rw[e];exact Ans _ _ (h x qx).2 (λ y j=>by
   obtain ⟨z,o,rfl⟩:=yT.1 j;exact(h z (by simp[o])).2)
def Am8:∀(p g r:List UInt8),(10:UInt8)∉p->Dd g (p++10::r)=Hl (g++p)::Dd [] r
 |[],g,r,_=>by rw[xO,Dd,zE rfl,yV]
 |c::p,g,r,h=>by
  rw[wF,Dd,zD (λe=>h (by simp[e])),Am8 p (g++[c]) r (λhm=>h (by simp[hm])),yW];rfl
def Bei{n:Ai}(t:Ac n=true){s:ByteArray}(h:(stepT n s).2=0):(Kl n (stepT n s).1).2=true/\(stepT n s).1.bytes.length<=1600:=by
 rw[stepT]at h|-;generalize Bd 32 s=w at *;split at h
 .cases h
 rename_i I;rw[zD I];split at h
 .cases h
 rename_i J;rw[zD J];split at h
 .rename_i k1;rw[zE k1];split at h
  .cases h
  rename_i i;rw[zD i];split at h
  .cases h
  rename_i g;rw[zD g];dsimp only;have P:=Kf (V7 n (Af w 1)) n.g;have R:Am (Bt (V7 n (Af w 1)) n.g) n.g.length=true:=by
   simp only[Am,zG,zK];omega
  refine⟨by rw[Kl,zE q_,zE R],?_⟩;have g:(Xz (Af w 2)).2=true:=kS g;rw[Xz]at g|-;split
  .simp
  rename_i j;rw[zD j]at g;split
  .simp
  rename_i l;rw[zD l]at g;cases hp:Ho (Af w 2).data.toList with
  |none=>simp
  |some b=>
   have:=S6 _ _ (yG _) b hp;have e:(Af w 2).data.toList.length=(Af w 2).size:=rfl;dsimp only;omega
 rename_i k1;rw[zD k1];split at h
 .rename_i k2;rw[zE k2];split at h
  .cases h
  rename_i i;rw[zD i];split at h
  .cases h
  rename_i g;rw[zD g];dsimp only;refine⟨?_,by simp⟩;have P:nO n (Af w 1)<n.c.length:=by
   have:nO n (Af w 1)<=(List.range n.c.length).length:=List.findIdx_le_length;rw[vT]at this;omega
  have o:(Uf n ((nO n (Af w 1):Nat):Int) == ⟨#[]⟩)=false:=by
   cases hc:(Uf n ((nO n (Af w 1):Nat):Int) == ⟨#[]⟩) with
   |false=>rfl
   |true=>
    have e:=zH (λs:ByteArray=>s.data.toList) ((So _ _).1 hc);dsimp only at e;rw[Uf,zE ⟨⟨by omega,by omega⟩,t⟩,Arj]at e;have p:=zH List.length e;rw[zR,yI]at p;simp at p
  have g:(Iq (Af w 2) 0 999999999).2=true:=kS g;have r:A75 (Iq (Af w 2) 0 999999999).1=true:=by
   rw[Iq]at g|-;split at g
   .cases g
   rename_i j;rw[zD j];split at g
   .cases g
   rename_i l;rw[zD l];split at g
   .cases g
   rename_i g3;rw[zD g3];split at g
   .rename_i g4;rw[zE g4];simp only[A75,zG,zK];omega
   .cases g
  rw[Kl];dsimp only;rw[zD k1];rcases k2 with e|e
  .rw[zE e,o,r];rfl
  .rw[zD j_,zE e,o,r];rfl
 rename_i k2;rw[zD k2];split at h
 .rename_i k3;rw[zE k3];exact⟨q_,by simp⟩
 rename_i k3;rw[zD k3];split at h
 .cases h
 rename_i k4;rw[zD k4];dsimp only;refine⟨?_,by simp⟩;have k4:Azy n.x.length (Af w 1)=true:=kS k4;rw[Azy]at k4;simp only[zG]at k4;exact k4.2
end Go.Sy.Zaa
