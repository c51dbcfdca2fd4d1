/-
  Sy41 NB22 RB2 NB21 NB23 RB14: parts of a proof, joined by program.
-/
import Derived.Test.YtjenpnjajjplkaaGreatDoorXN3
import Derived.Test.YtjenpnjajjplkaaGreatDoorXN7
import Derived.Test.YtjenpnjajjplkaaGreatDoorXN5
import Derived.Test.YtjenpnjajjplkaaGreatDoorXN9
import Derived.Test.YtjenpnjajjplkaaGreatDoorXN10
set_option linter.all false
set_option linter.unusedVariables false
set_option linter.unusedSimpArgs false
set_option linter.deprecated false
namespace Go.Sy
def Aei (P:Program) (ks2:List EK) (n:Nat):Nat→List Field→List EK→Prop
 | i, [f], [] => f.name ≠ "_" ∧ f.offset = i ∧ EqOK P f.type ks2 ∧ (∃ i1, P.info? f.type = some i1) ∧ P.cellsOf f.type = n
 | i, f :: fs, k :: ks => f.name ≠ "_" ∧ f.offset = i ∧ P.underlying f.type = some k.desc ∧ Aei P ks2 n (i + 1) fs ks
 | _,_,_=>False
theorem Vp {P:Program} {κ:Ka} {w:World} {xs ys:Array Value} {ks2:List EK} {n:Nat} {l2 m2:List SV} {r2:Bool} (hl:l2.length=n) (hm:m2.length=n) (h2:eqS ks2 l2 m2=some r2) (d:Nat) :
  ∀ (ks:List EK) (fs:List Field) (i:Nat) (l m:List SV) (r:Bool),Aei P ks2 n i fs ks→RdL κ w (l++l2) (xs.toList.drop i)→RdL κ w (m++m2) (ys.toList.drop i)→eqS ks l m=some r →
  (Op.eqFields (d+3) xs ys fs).run P w=.ok (r && r2) w
 | [],[f],i,l,m,r,h,hx,hy,he=>by
  simp only[Aei]at h
  obtain ⟨a1,a2,a3,⟨i1,a4⟩,a5⟩:=h
  cases l<;>cases m<;>simp[eqS]at he
  subst he
  rw[List.nil_append]at hx hy
  have lx:=RdL.length hx
  have ly:=RdL.length hy
  have hsz:=run_sizeOf (P:=P) (w:=w) a4
  have ex:∀ zs:Array Value,(zs.toList.drop i).length=n→(zs.extract i (i+n)).toList=zs.toList.drop i:=fun zs hz=>by
   rw[Array.toList_extract,List.extract_eq_take_drop]
   exact List.take_of_length_le z_
  have p:∀ zs:Array Value,(part f.type zs i).run P w=.ok (.agg (zs.extract i (i+n))) w:=fun zs=>by
   simp only[part,isAgg,run_underlying a3.under,Sem.run_bind,Result.andThen_ok,hsz,a5,if_true,Sem.run_pure]
  have hin:(Op.equalIn (d+3) f.type (.agg (xs.extract i (i+n))) (.agg (ys.extract i (i+n)))).run P w=.ok r2 w:=by
   rw[run_equalIn_struct w (d+2) f.type _ _ a3.under a3.stood]
   exact Aho (κ:=κ) (d+1) ks2 _ 0 l2 m2 r2 a3.fields (by rw[ex xs z_];simpa using hx) (by rw[ex ys z_];simpa using hy) h2
  simp only[Op.eqFields,if_pos a1,Sem.run_bind,a2,p xs,p ys,Result.andThen_ok,hin]
  cases r2<;>simp
 | k::ks,f::fs,i,[],m,r,h,_,_,he=>by simp[eqS]at he
 | k::ks,f::fs,i,x::l,[],r,h,_,_,he=>by simp[eqS]at he
 | k::ks,f::fs,i,x::l,y::m,r,h,hx,hy,he=>by
  simp only[Aei]at h
  obtain ⟨h1,h2',h3,h4⟩:=h
  simp only[List.cons_append,RdL]at hx hy
  obtain ⟨v,q,e1,e2,e3⟩:=hx
  obtain ⟨u,p,f1,f2,f3⟩:=hy
  have g1:xs[i]? = some v:=by
   have:=congrArg (fun l=>l[0]?) e1
   simpa using this
  have g2:ys[i]? = some u:=by
   have:=congrArg (fun l=>l[0]?) f1
   simpa using this
  have e4:xs.toList.drop (i+1)=q:=by
   have:=congrArg (List.drop 1) e1
   simpa [Nat.add_comm] using this
  have f4:ys.toList.drop (i+1)=p:=by
   have:=congrArg (List.drop 1) f1
   simpa [Nat.add_comm] using this
  have p1:=Mq (P:=P) w h3 xs g1
  have p2:=Mq (P:=P) w h3 ys g2
  simp only[eqS]at he
  cases hb:eq1 k x y with
  | none=>rw[hb]at he;cases he
  | some b =>
   cases hq:eqS ks l m with
   | none=>rw[hb,hq]at he;cases he
   | some r' =>
    rw[hb,hq]at he
    simp only[Option.some.injEq]at he
    have hrun:=Aiv (P:=P) (κ:=κ) (w:=w) (d+2) h3 hb e2 f2
    have ih:=Vp hl hm h2 d ks fs (i+1) l m r' h4 (by rw[e4];exact e3) (by rw[f4];exact f3) hq
    simp only[Op.eqFields,if_pos h1,Sem.run_bind,h2',p1,p2,Result.andThen_ok,hrun]
    subst he
    cases b
    ·simp
    ·simp[ih]
 | [],[],_,_,_,_,h,_,_,_=>by simp[Aei]at h
 | [],_::_::_,_,_,_,_,h,_,_,_=>by simp[Aei]at h
 | _::_,[],_,_,_,_,h,_,_,_=>by simp[Aei]at h
structure EqT (P:Program) (t:TypeId) (ks ks2:List EK) (n:Nat):Prop where
 under:P.underlying t=some (.struct (P.fieldsOf t))
 stood:P.stoodInHeld t=false
 guard:P.eqGuardType P.depth t=false
 fields:Aei P ks2 n 0 (P.fieldsOf t).toList ks
theorem Abn {P:Program} {o:Oper} {s:SS} {op:BinOp} {t yt:TypeId} {x y:Operand} {l m l2 m2:List SV} {ks ks2:List EK} {n:Nat} {r r2:Bool} (h:o.op=.binOp op t x y yt) (hop:op=.eql∨op=.neq) (hq:EqT P t ks ks2 n)
  (hx:ev s x=.agg (l++l2)) (hy:ev s y=.agg (m++m2)) (hl:l2.length=n) (hm:m2.length=n) (hr:eqS ks l m=some r) (hr2:eqS ks2 l2 m2=some r2):Good P o s ⟨.val (.bool (if op=.eql then (r && r2) else !(r && r2))),[],[]⟩ :=
 Good.pure fun κ a w _ hrd _=>by
  have h1:=hrd x (by simp[h,Op.operands])
  have h2:=hrd y (by simp[h,Op.operands])
  rw[hx]at h1
  rw[hy]at h2
  simp only[Rd]at h1 h2
  obtain ⟨cs,e1,_,e3⟩:=h1
  obtain ⟨ds,f1,_,f3⟩:=h2
  have hrun:(Op.equal t (.agg cs.toArray) (.agg ds.toArray)).run P w=.ok (r && r2) w:=by
   show (Op.equalIn (9999+1) t (.agg cs.toArray) (.agg ds.toArray)).run P w=.ok (r && r2) w
   rw[run_equalIn_struct w 9999 t _ _ hq.under hq.stood]
   exact Vp (κ:=κ) hl hm hr2 9996 ks _ 0 l m r hq.fields (by simpa using e3) (by simpa using f3) hr
  have hg:(eqGuard op t x y (.agg cs.toArray) (.agg ds.toArray)).run P w=.ok () w:=by
   rcases hop with rfl | rfl<;>simp[eqGuard,hq.guard]
  refine⟨.bool (if op=.eql then (r && r2) else !(r && r2)),?_,by simp[Rd]⟩
  rcases hop with rfl | rfl<;>simp[execOp,h,e1,f1,hg,binOp,hrun]
end Go.Sy
namespace Go.Sy.YtjenpnjajjplkaaGreatDoor
open Go.Proofs
attribute [local irreducible] Go.Sy.G Go.Sy.DR
set_option maxRecDepth 100000
set_option maxHeartbeats 4000000
theorem irb3:((Program.fieldsOf Tryz.prog 132)[3]!).type=130:=by kernel_rfl
theorem irbEqT:EqT Tryz.prog 132 [.int .i64,.int .i64,.int .i64] [.int .u32,.int .i64] 2 where
 under:=by kernel_rfl
 stood:=by kernel_rfl
 guard:=by kernel_rfl
 fields:=by
  have e:(Program.fieldsOf Tryz.prog 132).toList=[(Program.fieldsOf Tryz.prog 132)[0]!,(Program.fieldsOf Tryz.prog 132)[1]!,(Program.fieldsOf Tryz.prog 132)[2]!,(Program.fieldsOf Tryz.prog 132)[3]!]:=by kernel_rfl
  rw[e]
  refine⟨of_decide_eq_true j_,by kernel_rfl,by kernel_rfl,of_decide_eq_true j_,by kernel_rfl,by kernel_rfl,of_decide_eq_true j_,by kernel_rfl,by kernel_rfl,of_decide_eq_true j_,by kernel_rfl,?_,?_,by kernel_rfl⟩
  ·rw[irb3];exact Γ.eqok 130 _ rfl
  ·rw[irb3];exact Go.info_of_underlying (d:=.struct (Program.fieldsOf Tryz.prog 130)) j_
theorem Anj (x:Irb):(!((x.row == x.row && (x.domain == x.domain && (x.vrf == x.vrf && true))) && (x.addr == x.addr && (x.bits == x.bits && true))))=false:=by simp
theorem J0 (l:List Int) (hl:l.length<2147483648):Sy.Spec Tryz.prog 42 [.sl 1 Aa l,.sl 1 Aa l] [] (Ab true) []:=cT F42 Tryz.ntmps42 fun F hF=>by
 have f0:((l.length:Int) != (l.length:Int))=false:=by simp
 refine T ?_
 refine At (fun j:Nat=>j≤l.length) (fun j=>[(0,.sl 1 Aa l),(1,.sl 1 Aa l),(5,Aa j)]) (fun _=>[]) (fun j=>l.length-j) 0 [] qe U ?_
 intro j hj
 refine T ?_
 refine⟨fun h2=>?_,fun h2=>?_⟩
 ·have hlt:j<l.length:=by have:=of_decide_eq_true h2;omega
  have hlt0:((j:Nat):Int).toNat<l.length:=hlt
  clear h2
  have f1:((l[((j:Nat):Int).toNat]'hlt0) != (l[((j:Nat):Int).toNat]'hlt0))=false:=by simp
  refine T ?_
  exact Ad (j+1) [] hlt z_ U
 ·refine T ?_
  exact D
theorem Yr (l:List Int) (hl:l.length<2147483648):Sy.Spec Tryz.prog 43 [.sl 1 A3 l,.sl 1 A3 l] [] (Ab true) []:=cT F43 Tryz.ntmps43 fun F hF=>by
 have f0:((l.length:Int) != (l.length:Int))=false:=by simp
 refine T ?_
 refine At (fun j:Nat=>j≤l.length) (fun j=>[(0,.sl 1 A3 l),(1,.sl 1 A3 l),(5,Aa j)]) (fun _=>[]) (fun j=>l.length-j) 0 [] qe U ?_
 intro j hj
 refine T ?_
 refine⟨fun h2=>?_,fun h2=>?_⟩
 ·have hlt:j<l.length:=by have:=of_decide_eq_true h2;omega
  have hlt0:((j:Nat):Int).toNat<l.length:=hlt
  clear h2
  have f1:((l[((j:Nat):Int).toNat]'hlt0) != (l[((j:Nat):Int).toNat]'hlt0))=false:=by simp
  refine T ?_
  exact Ad (j+1) [] hlt z_ U
 ·refine T ?_
  exact D
theorem Amf (n:Net) (hn:n.Fin):Sy.Spec Tryz.prog 41 [Aj n,Aj n] [] (Ab true) []:=cT F41 Tryz.ntmps41 fun F hF=>by
 have hd:n.devices.length<2147483648:=hn.devices
 have hp:n.ports.length<2147483648:=hn.ports
 have hl:n.links.length<2147483648:=hn.links
 have ho:n.domains.length<2147483648:=hn.domains
 have hs:n.statics.length<2147483648:=hn.statics
 have hf:n.floods.length<2147483648:=hn.floods
 have hv:n.vrfs.length<2147483648:=hn.vrfs
 have hi:n.irbs.length<2147483648:=hn.irbs
 have f1:((n.devices.length:Int) != (n.devices.length:Int))=false:=by simp
 have f2:((n.links.length:Int) != (n.links.length:Int))=false:=by simp
 have f3:((n.statics.length:Int) != (n.statics.length:Int))=false:=by simp
 have f4:((n.irbs.length:Int) != (n.irbs.length:Int))=false:=by simp
 refine T ?_
 refine A4 2 8 (Aj n) Y Y Y ?_
 refine A4 3 8 (Aj n) Y Y Y ?_
 refine At (fun j:Nat=>j≤n.devices.length) (fun j=>[(2,.ref 8 (Aj n) 0),(3,.ref 8 (Aj n) 0),(5,Aa j)]) (fun _=>[]) (fun j=>n.devices.length-j) 0 [] qe U ?_
 intro j hj
 refine T ?_
 refine⟨fun h2=>?_,fun h2=>?_⟩
 ·have hlt:j<n.devices.length:=by have:=of_decide_eq_true h2;omega
  have hlt0:((j:Nat):Int).toNat<n.devices.length:=hlt
  clear h2
  refine T ?_
  exact Ad (j+1) [] hlt z_ U
 ·clear h2
  refine T ?_
  refine At (fun j:Nat=>j≤n.links.length) (fun j=>[(2,.ref 8 (Aj n) 0),(3,.ref 8 (Aj n) 0),(6,Aa j)]) (fun _=>[]) (fun j=>n.links.length-j) 0 [] qe U ?_
  intro j hj
  refine T ?_
  refine⟨fun h2=>?_,fun h2=>?_⟩
  ·have hlt:j<n.links.length:=by have:=of_decide_eq_true h2;omega
   have hlt0:((j:Nat):Int).toNat<n.links.length:=hlt
   clear h2
   refine T ?_
   exact Ad (j+1) [] hlt z_ U
  ·clear h2
   refine T ?_
   refine At (fun j:Nat=>j≤n.statics.length) (fun j=>[(2,.ref 8 (Aj n) 0),(3,.ref 8 (Aj n) 0),(7,Aa j)]) (fun _=>[]) (fun j=>n.statics.length-j) 0 [] qe U ?_
   intro j hj
   refine T ?_
   refine⟨fun h2=>?_,fun h2=>?_⟩
   ·have hlt:j<n.statics.length:=by have:=of_decide_eq_true h2;omega
    have hlt0:((j:Nat):Int).toNat<n.statics.length:=hlt
    clear h2
    refine T ?_
    exact Ad (j+1) [] hlt z_ U
   ·clear h2
    refine T ?_
    refine At (fun j:Nat=>j≤n.irbs.length) (fun j=>[(2,.ref 8 (Aj n) 0),(3,.ref 8 (Aj n) 0),(8,Aa j)]) (fun _=>[]) (fun j=>n.irbs.length-j) 0 [] qe U ?_
    intro j hj
    refine T ?_
    refine⟨fun h2=>?_,fun h2=>?_⟩
    ·have hlt:j<n.irbs.length:=by have:=of_decide_eq_true h2;omega
     have hlt0:((j:Nat):Int).toNat<n.irbs.length:=hlt
     clear h2
     refine T ?_
     refine Xd (Abn (l:=[Aa _,Aa _,Aa _]) (l2:=[A3 _,Aa _]) (m:=[Aa _,Aa _,Aa _]) (m2:=[A3 _,Aa _]) Y (.inr Y) irbEqT Y Y Y Y Y Y) ?_
     rw[Anj]
     refine T ?_
     exact Ad (j+1) [] hlt z_ U
    ·clear h2
     refine T ?_
     exact D
theorem Amg (n:Net) (hn:n.Fin):Sy.Spec Tryz.prog 19 [Aj n,Aj n] [] (Ab true) []:=cT F19 Tryz.ntmps19 fun F hF=>by
 have qt:=Amf n hn
 have hd:n.devices.length<2147483648:=hn.devices
 have hp:n.ports.length<2147483648:=hn.ports
 have hl:n.links.length<2147483648:=hn.links
 have ho:n.domains.length<2147483648:=hn.domains
 have hs:n.statics.length<2147483648:=hn.statics
 have hf:n.floods.length<2147483648:=hn.floods
 have hv:n.vrfs.length<2147483648:=hn.vrfs
 have hi:n.irbs.length<2147483648:=hn.irbs
 have f1:((n.ports.length:Int) != (n.ports.length:Int))=false:=by simp
 have f2:((n.domains.length:Int) != (n.domains.length:Int))=false:=by simp
 have f3:((n.floods.length:Int) != (n.floods.length:Int))=false:=by simp
 have f4:((n.vrfs.length:Int) != (n.vrfs.length:Int))=false:=by simp
 refine T ?_
 refine C qt F41 ?_
 refine T ?_
 refine A4 2 8 (Aj n) Y Y Y ?_
 refine A4 3 8 (Aj n) Y Y Y ?_
 refine At (fun j:Nat=>j≤n.ports.length) (fun j=>[(2,.ref 8 (Aj n) 0),(3,.ref 8 (Aj n) 0),(5,Aa j)]) (fun _=>[]) (fun j=>n.ports.length-j) 0 [] qe U ?_
 intro j hj
 refine T ?_
 refine⟨fun h2=>?_,fun h2=>?_⟩
 ·have hlt:j<n.ports.length:=by have:=of_decide_eq_true h2;omega
  have hlt0:((j:Nat):Int).toNat<n.ports.length:=hlt
  clear h2
  have qtagged:=J0 (n.ports[((j:Nat):Int).toNat]'hlt0).tagged (hn.tagged _ (List.getElem_mem hlt0))
  refine T ?_
  refine C qtagged F42 ?_
  refine T ?_
  exact Ad (j+1) [] hlt z_ U
 ·clear h2
  refine T ?_
  refine At (fun j:Nat=>j≤n.domains.length) (fun j=>[(2,.ref 8 (Aj n) 0),(3,.ref 8 (Aj n) 0),(8,Aa j)]) (fun _=>[]) (fun j=>n.domains.length-j) 0 [] qe U ?_
  intro j hj
  refine T ?_
  refine⟨fun h2=>?_,fun h2=>?_⟩
  ·have hlt:j<n.domains.length:=by have:=of_decide_eq_true h2;omega
   have hlt0:((j:Nat):Int).toNat<n.domains.length:=hlt
   clear h2
   have qpeers:=J0 (n.domains[((j:Nat):Int).toNat]'hlt0).peers (hn.peers _ (List.getElem_mem hlt0))
   refine T ?_
   refine C qpeers F42 ?_
   refine T ?_
   exact Ad (j+1) [] hlt z_ U
  ·clear h2
   refine T ?_
   refine At (fun j:Nat=>j≤n.floods.length) (fun j=>[(2,.ref 8 (Aj n) 0),(3,.ref 8 (Aj n) 0),(11,Aa j)]) (fun _=>[]) (fun j=>n.floods.length-j) 0 [] qe U ?_
   intro j hj
   refine T ?_
   refine⟨fun h2=>?_,fun h2=>?_⟩
   ·have hlt:j<n.floods.length:=by have:=of_decide_eq_true h2;omega
    have hlt0:((j:Nat):Int).toNat<n.floods.length:=hlt
    clear h2
    have qaddrs:=Yr (n.floods[((j:Nat):Int).toNat]'hlt0).addrs (hn.addrs _ (List.getElem_mem hlt0))
    refine T ?_
    refine C qaddrs F43 ?_
    refine T ?_
    exact Ad (j+1) [] hlt z_ U
   ·clear h2
    refine T ?_
    refine At (fun j:Nat=>j≤n.vrfs.length) (fun j=>[(2,.ref 8 (Aj n) 0),(3,.ref 8 (Aj n) 0),(14,Aa j)]) (fun _=>[]) (fun j=>n.vrfs.length-j) 0 [] qe U ?_
    intro j hj
    refine T ?_
    refine⟨fun h2=>?_,fun h2=>?_⟩
    ·have hlt:j<n.vrfs.length:=by have:=of_decide_eq_true h2;omega
     have hlt0:((j:Nat):Int).toNat<n.vrfs.length:=hlt
     clear h2
     have qimports:=J0 (n.vrfs[((j:Nat):Int).toNat]'hlt0).imports (hn.imports _ (List.getElem_mem hlt0))
     have qexports:=J0 (n.vrfs[((j:Nat):Int).toNat]'hlt0).exports (hn.exports _ (List.getElem_mem hlt0))
     refine T ?_
     refine C qimports F42 ?_
     refine T ?_
     refine C qexports F42 ?_
     refine T ?_
     exact Ad (j+1) [] hlt z_ U
    ·clear h2
     refine T ?_
     exact D
theorem Ahj {n:Net} (hn:n.Fin):(finishT n).1.Fin:=by
 unfold finishT
 split
 ·exact O3 hn
 split
 ·exact Es
 ·exact O3 hn
theorem Vs:∀ (M:List LineM) (n:Net),n.Fin→E7 n→(∀ z∈M,LineW z)→(Hs n M).1.Fin
 | [],n,hn,_,_=>Ahj hn
 | x::M,n,hn,ha,h=>by
  rw[Hs]
  split
  ·exact Es
  ·have:=Aav (l:=x) hn ha (h x qe)
   exact Vs M _ this.fin this.addrs (fun z hz=>h z (by simp[hz]))
theorem Ak5 {M:List LineM} (h:∀ z∈M,LineW z):(Cy M).1.Fin:=Vs M emptyN Es (fun x hx=>by cases hx) h
theorem Adp (b:List UInt8):(netTextT b).1.Fin:=by
 rw[netTextT]
 split
 ·exact Es
 ·exact Ak5 (fun x hx=>(Ll b x hx).w)
theorem Aa3 (b:List UInt8):Sy.Spec Tryz.prog 5 [.sl 1 Bd b] [] (Ab true) []:=cT F5 Tryz.ntmps5 fun F hF=>by
 have qw:=Ali
 by_cases c0:4000<b.length
 ·have f0:decide ((b.length:Int)>4000)=true:=decide_eq_true z_
  refine T ?_
  refine C qw F17 ?_
  exact D
 have f0:decide ((b.length:Int)>4000)=false:=decide_eq_false z_
 have q1:=Xh b z_
 have q2:=Al9 b z_
 have q3:=Amg (netTextT b).1 (Adp b)
 generalize netTextT b=r at *
 obtain ⟨n,row,e⟩:=r
 dsimp only at q1 q2 q3
 have g1:(row == row)=true:=by simp
 have g2:(e == e)=true:=by simp
 refine T ?_
 refine C q1 F20 ?_
 refine C q2 F21 ?_
 refine C q3 F19 ?_
 refine C qw F17 ?_
 exact D
end Go.Sy.YtjenpnjajjplkaaGreatDoor
