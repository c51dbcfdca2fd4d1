/- Parts of a proof. -/
import Derived.Test.YtodbnbfjhjcanaaGreatDoorXA43
set_option linter.all false
namespace Go.Sy.Zaa
open Go.Proofs Go.Proofs.Tryz
structure TenM where
 row:Int
 name:ByteArray
 devs:List ByteArray
 ports:List ByteArray
instance:Inhabited TenM:=⟨⟨0,⟨#[]⟩,[],[]⟩⟩
def El(t:TenM):SV:=.agg [Aa t.row,Ar t.name,.sl 1 Ar t.devs,.sl 1 Ar t.ports]
def Afs:TenM:=⟨0,⟨#[]⟩,[],[]⟩
abbrev Aqj:ByteArray:=⟨#[116,101,110,97,110,116]⟩
def Qe(w:ByteArray):ByteArray×ByteArray×Bool:=((cutT 46 w).1,(cutT 46 w).2.1,(cutT 46 w).2.2&&A1 (cutT 46 w).1&&A1 (cutT 46 w).2.1)
def nI(t:TenM):List ByteArray->TenM×Int
 |[]=>(t,0)
 |w::l=>if (Qe w).2.2=false then (Afs,20) else nI {t with devs:=t.devs++[(Qe w).1],ports:=t.ports++[(Qe w).2.1]} l
def tenantT(w:List ByteArray)(row:Int):TenM×Int :=
 if wdT w 0≠Aqj\/w.length<=2\/18<w.length then (Afs,22) else if A1 (wdT w 1)=false then (Afs,20)
 else nI ⟨row,wdT w 1,[],[]⟩ (w.drop 2)
def Ks(i:Nat)(out:List TenM):List ByteArray->List TenM×Int×Int
 |[]=>(out,0,0)
 |r::rs=>if (wordsT r).2≠0 then ([],i+1,(wordsT r).2) else if (wordsT r).1=[] then Ks (i+1) out rs
  else if (tenantT (wordsT r).1 (i+1)).2≠0 then ([],i+1,(tenantT (wordsT r).1 (i+1)).2) else if out.length=10 then ([],i+1,3)
  else Ks (i+1) (out++[(tenantT (wordsT r).1 (i+1)).1]) rs
def policyT(b:List UInt8):List TenM×Int×Int:=if (rowsT b).2≠0 then ([],0,(rowsT b).2) else Ks 0 [] (rowsT b).1
def Q2(t:TenM):Bool:=A1 t.name&&(decide (t.devs.length=t.ports.length)&&(decide (0<t.devs.length)&&(decide (t.devs.length<=16)&&(!(t.devs.any λs=>!(A1 s))&&!(t.ports.any λs=>!(A1 s))))))
def Ej(n:Net)(i:Int):List Int->List ByteArray->List ByteArray->List Int×Int
 |ow,d::ds,p::ps=>
  let at_:=M7 n (Cf n d) p
  if at_<0 then (ow,31) else if 0<=(nth n.ports at_).link\/nth ow at_≠-1 then (ow,39) else Ej n i (ow.set at_.toNat i) ds ps
 |ow,_,_=>(ow,0)
def Js(n:Net)(L:List TenM):Nat->List Int->List TenM->List Int×Int×Int×Int
 |_,ow,[]=>(ow,0,0,0)
 |i,ow,t::r=>
  if Q2 t=false\/10<=i then ([],2,t.row,2) else if (L.take i).any (λx=>x.name==t.name)=true then ([],2,t.row,30)
  else if (Ej n i ow t.devs t.ports).2≠0 then ([],2,t.row,(Ej n i ow t.devs t.ports).2) else Js n L (i+1) (Ej n i ow t.devs t.ports).1 r
def Yc(n:Net)(ow:List Int):Nat->List Port->Nat
 |i,[]=>i
 |i,p::r=>if p.link<0/\nth ow i=-1 then i else Yc n ow (i+1) r
def assignT(n:Net)(L:List TenM):List Int×Int×Int×Int :=
 if Ac n=false then ([],0,0,2) else
 let a:=Js n L 0 (List.replicate n.ports.length (-1)) L
 if a.2.2.2≠0 then a else
 if Yc n a.1 0 n.ports<n.ports.length then ([],1,(nth n.ports (Yc n a.1 0 n.ports)).row,39) else (a.1,0,0,0)
def Tv(n:Net)(ow:List Int)(from_:Nat)(a:Int):Nat->List Int->Option Nat
 |_,[]=>none
 |to,b::r=>if ¬(a<0\/b<0\/a=b)/\(wayT n from_ to).2=true then some to else Tv n ow from_ a (to+1) r
def Yv(n:Net)(ow:List Int):Nat->List Int->Int×Int×Bool
 |_,[]=>(0,0,false)
 |from_,a::r=>match Tv n ow from_ a 0 ow with
  |some to=>(from_,to,true)
  |none=>Yv n ow (from_+1) r
def leaksT(n:Net)(ow:List Int):Int×Int×Bool:=if Hb n ow=false then (0,0,false) else Yv n ow 0 ow
def Vc(w row e:Int):ReportM:=⟨3,w,row,e,0,0,[]⟩
def lZ(n:Net)(a:List Int×Int×Int×Int):ReportM :=
 if a.2.2.2≠0 then Vc a.2.1 a.2.2.1 a.2.2.2 else if (leaksT n a.1).2.2=false then ⟨1,0,0,0,0,0,[]⟩
 else ⟨2,0,0,0,(leaksT n a.1).1,(leaksT n a.1).2.1,(wscriptT n (leaksT n a.1).1 (leaksT n a.1).2.1).1⟩
def verifyT(b c:List UInt8):ReportM :=
 if (netTextT b).2.2≠0 then Vc 1 (netTextT b).2.1 (netTextT b).2.2 else if (policyT c).2.2≠0 then Vc 2 (policyT c).2.1 (policyT c).2.2
 else lZ (netTextT b).1 (assignT (netTextT b).1 (policyT c).1)
def Afm(b c:List UInt8):(verifyT b c).kind=3\/((netTextT b).2.2=0/\(assignT (netTextT b).1 (policyT c).1).2.2.2=0 /\
  (((verifyT b c).kind=1/\(leaksT (netTextT b).1 (assignT (netTextT b).1 (policyT c).1).1).2.2=false) \/
   ((verifyT b c).kind=2/\leaksT (netTextT b).1 (assignT (netTextT b).1 (policyT c).1).1=((verifyT b c).from_,(verifyT b c).to,true)))):=by
 rw[verifyT];split
 .exact .inl E
 rename_i h1;split
 .exact .inl E
 rw[lZ];split
 .exact .inl E
 rename_i h3;refine .inr ⟨Classical.byContradiction h1,Classical.byContradiction h3,?_⟩;split
 .rename_i h4;exact .inl ⟨rfl,h4⟩
 .rename_i h4;refine .inr ⟨E,?_⟩;have h4:(leaksT (netTextT b).1 (assignT (netTextT b).1 (policyT c).1).1).2.2=true:=kS h4;exact Prod.ext E (Prod.ext E h4)
def Ab5{b c:List UInt8}(h:(verifyT b c).kind≠3):(policyT c).2.2=0:=by
 rw[verifyT]at h;split at h
 .exact zX E h
 split at h
 .exact zX E h
 rename_i h2;exact Classical.byContradiction h2
end Go.Sy.Zaa
