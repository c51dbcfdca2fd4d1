/-
  I25 NB21 Sy41 NB22 NB23: parts of a proof, joined by program.
-/
import Derived.Test.YtjenpnjajjplkaaGreatDoorXL7
import Derived.Test.YtjenpnjajjplkaaGreatDoorXL6
import Derived.Test.YtjenpnjajjplkaaGreatDoorXL3
set_option linter.all false
set_option linter.unusedVariables false
set_option linter.unusedSimpArgs false
set_option linter.deprecated false
namespace Go.Sy.YtjenpnjajjplkaaGreatDoor
open Go.Proofs
theorem Aec {α:Type} (p:α→Bool) (f:α→α) (l:List α) (h:∀ x,p (f x)=p x):Bv p (l.map f)=Bv p l:=by
 have e:(l.map f).findIdx? p=l.findIdx? p:=by
  rw[List.findIdx?_map]
  congr 1
  funext x
  exact h x
 rw[Bv,Bv,e]
theorem Ms (n:Net) (a b:Int):Io (A7 n) a b=Io n a b:=Aec _ _ _ fun _=>rfl
theorem Za (n:Net) (d:Domain) (p:List Int):peersT (A7 n) { d with peers:=p }=peersT n d:=by
 rw[peersT,peersT]
 have e1:∀ a b,Dv (A7 n) a b=Dv n a b:=fun _ _=>rfl
 have e2:∀ a,Cq (A7 n) a=Cq n a:=fun _=>rfl
 simp only[Ms,e1,e2]
 rfl
theorem Abw (n:Net):A7 (A7 n)=A7 n:=by
 have:(A7 n).domains.map (fun d=>{ d with peers:=peersT (A7 n) d })=(A7 n).domains:=by
  show (n.domains.map fun d=>{ d with peers:=peersT n d }).map (fun d=>{ d with peers:=peersT (A7 n) d })=n.domains.map fun d=>{ d with peers:=peersT n d }
  rw[List.map_map]
  refine List.map_congr_left fun d _=>?_
  show ({ d with peers:=peersT (A7 n) { d with peers:=peersT n d } }:Domain)={ d with peers:=peersT n d }
  rw[Za]
 rw[A7,this]
theorem Z9 (n:Net) (f:Flood):agreesB (A7 n) f=agreesB n f:=by
 have e1:∀ a b,Dv (A7 n) a b=Dv n a b:=fun _ _=>rfl
 have e2:∀ a,Cq (A7 n) a=Cq n a:=fun _=>rfl
 have e3:∀ a,agreeA (A7 n) f a=agreeA n f a:=fun a=>by
  rw[agreeA,agreeA]
  simp only[Ms,e1,e2]
  rfl
 have e4:agreeA (A7 n) f=agreeA n f:=funext e3
 rw[agreesB,agreesB,Ms,e4]
theorem Aap {n:Net} (h:(meshNT n).2.2=0):(meshNT n).1=A7 n∧(meshNT n).2.1=0∧Ae (A7 n)=true∧n.floods.find? (fun f=>!(agreesB n f))=none:=by
 rw[meshNT]at h ⊢
 split at h
 ·simp at h
 rename_i h1
 rw[if_neg h1]
 cases hf:n.floods.find? (fun f=>!(agreesB n f)) with
 | some f=>rw[hf]at h;simp at h
 | none =>
  rw[hf]at h
  dsimp only at h ⊢
  split at h
  ·simp at h
  rename_i h2
  rw[if_neg h2]
  exact⟨E,E,by simpa using h2,E⟩
theorem Zf {n:Net} (h:(meshNT n).2.2=0):meshNT (A7 n)=(A7 n,0,0):=by
 obtain ⟨_,_,h3,h4⟩:=Aap h
 have e:(A7 n).floods.find? (fun f=>!(agreesB (A7 n) f))=none:=by
  show n.floods.find? (fun f=>!(agreesB (A7 n) f))=none
  simp only[Z9]
  exact h4
 rw[meshNT,if_neg (by rw[h3];simp),e]
 dsimp only
 rw[Abw,if_neg (by rw[h3];simp)]
theorem J7 (n:Net):∀ (l:List Domain) (f:List Int) (i:Nat),(Ja n f i l).2=false→(Ja n f i l).1=0
 | [],f,i,_=>rfl
 | d::l,f,i,h=>by
  rw[Ja]at h ⊢
  split
  ·rename_i h1
   rw[if_pos h1]at h
   exact J7 n l f _ h
  ·rename_i h1
   rw[if_neg h1]at h
   dsimp only at h ⊢
   split
   ·rename_i h2
    rw[if_pos h2]at h;cases h
   ·rename_i h2
    rw[if_neg h2]at h
    exact J7 n l _ _ h
theorem Zi {n:Net} (h:(loopT n).2=false):loopT n=(0,false):=by
 have h1:(loopT n).1=0:=by
  rw[loopT]at h ⊢
  split
  ·rfl
  ·rename_i hb
   rw[if_neg hb]at h
   exact J7 n _ _ _ h
 rw[← h,← h1]
theorem O3:∀ (l:List LineM) (n0:Net) (c:Int→Nat),NetR n0→Many n0 c→(B3 n0 l).2.2=0 →
  (B3 n0 l).2.1=0∧Ae (B3 n0 l).1=true∧meshNT (B3 n0 l).1=((B3 n0 l).1,0,0)∧loopT (B3 n0 l).1=(0,false)∧Many (B3 n0 l).1 (fun k=>c k+Am l k)
 | [],n0,c,hr,hm,h=>by
  rw[B3,finishT]at h ⊢
  split at h
  ·rename_i h1;exact absurd h h1
  rename_i h1
  rw[if_neg h1]
  split at h
  ·simp at h
  rename_i h2
  rw[if_neg h2]
  have h0:(meshNT n0).2.2=0:=by omega
  obtain ⟨e1,e2,e3,e4⟩:=Aap h0
  dsimp only
  rw[e1]at h2 ⊢
  refine⟨E,e3,Zf h0,Zi (by simpa using h2),?_⟩
  have:=Ab0 hm
  exact⟨this.c1,this.c2,this.c3,this.c4,this.c7,this.c8,this.c9⟩
 | x::l,n0,c,hr,hm,h=>by
  rw[B3]at h ⊢
  split at h
  ·rename_i h1;exact absurd h h1
  rename_i h1
  rw[if_neg h1]
  have h0:(putT n0 x).2=0:=by omega
  obtain ⟨a,b,d,e,f⟩:=O3 l _ _ (Abm h0) (Adc hm h0) h
  refine⟨a,b,d,e,?_⟩
  have hc:∀ k,Am (x::l) k=(if x.kind=k then 1 else 0)+Am l k:=fun k=>by
   rw[Am,Am,List.filter_cons]
   by_cases hk:x.kind=k
   ·simp[hk];omega
   ·simp[hk]
  refine⟨f.c1.trans ?_,f.c2.trans ?_,f.c3.trans ?_,f.c4.trans ?_,f.c7.trans ?_,f.c8.trans ?_,f.c9.trans ?_⟩<;>(rw[hc];omega)
theorem O4:∀ (l:List LineM) (n0:Net),(B3 n0 l).2.2≠0→(B3 n0 l).1=emptyN
 | [],n0,h=>by
  rw[B3,finishT]at h ⊢
  split
  ·rename_i h1
   rw[meshNT]at h1 ⊢
   split
   ·rfl
   rename_i h2
   rw[if_neg h2]at h1
   split
   ·rfl
   ·rename_i hf
    rw[hf]at h1
    dsimp only at h1
    split
    ·rfl
    ·rename_i h3
     rw[if_neg h3]at h1
     exact absurd E h1
  ·rename_i h1
   rw[if_neg h1]at h
   split
   ·rfl
   ·rename_i h2
    rw[if_neg h2]at h
    exact absurd E h
 | x::l,n0,h=>by
  rw[B3]at h ⊢
  split
  ·rfl
  ·rename_i h1
   rw[if_neg h1]at h
   exact O4 l _ h
end Go.Sy.YtjenpnjajjplkaaGreatDoor
namespace Go.Sy.YtjenpnjajjplkaaGreatDoor
open Go.Proofs
attribute [local irreducible] Go.Sy.G Go.Sy.DR
set_option maxRecDepth 100000
set_option maxHeartbeats 4000000
theorem Aft {l:List LineM} (h:linesGreat l=false):∀ x∈l,LineOK x→LineW x:=by
 intro x hx ho
 refine⟨Acb h x hx,ho,?_,?_,?_,?_,?_⟩
 all_goals
  rw[linesGreat]at h
  split at h
  ·cases h
  ·have:=J9 l 0 h x hx
   simp only[La,List.forall_mem_cons]at this
   omega
end Go.Sy.YtjenpnjajjplkaaGreatDoor
namespace Go.Sy
def Xp (P:Program) (ks2:List EK) (n:Nat):Nat→List Field→List EK→Prop
 | i, [f], [] => f.name ≠ "_" ∧ f.offset = i ∧ EqOK P f.type ks2 ∧ (∃ i1, P.info? f.type = some i1) ∧ P.cellsOf f.type = n
 | i, f :: fs, k :: ks => f.name ≠ "_" ∧ f.offset = i ∧ P.underlying f.type = some k.desc ∧ Xp P ks2 n (i + 1) fs ks
 | _,_,_=>False
theorem O0 {P:Program} {κ:Ka} {w:World} {xs ys:Array Value} {ks2:List EK} {n:Nat} {l2 m2:List SV} {r2:Bool} (hl:l2.length=n) (hm:m2.length=n) (h2:eqS ks2 l2 m2=some r2) (d:Nat) :
  ∀ (ks:List EK) (fs:List Field) (i:Nat) (l m:List SV) (r:Bool),Xp P ks2 n i fs ks→RdL κ w (l++l2) (xs.toList.drop i)→RdL κ w (m++m2) (ys.toList.drop i)→eqS ks l m=some r →
  (Op.eqFields (d+3) xs ys fs).run P w=.ok (r && r2) w
 | [],[f],i,l,m,r,h,hx,hy,he=>by
  simp only[Xp]at h
  obtain ⟨a1,a2,a3,⟨i1,a4⟩,a5⟩:=h
  cases l<;>cases m<;>simp[eqS]at he
  subst he
  rw[List.nil_append]at hx hy
  have lx:=RdL.length hx
  have ly:=RdL.length hy
  have hsz:=run_sizeOf (P:=P) (w:=w) a4
  have ex:∀ zs:Array Value,(zs.toList.drop i).length=n→(zs.extract i (i+n)).toList=zs.toList.drop i:=fun zs hz=>by
   rw[Array.toList_extract,List.extract_eq_take_drop]
   exact List.take_of_length_le q_
  have p:∀ zs:Array Value,(part f.type zs i).run P w=.ok (.agg (zs.extract i (i+n))) w:=fun zs=>by
   simp only[part,isAgg,run_underlying a3.under,Sem.run_bind,Result.andThen_ok,hsz,a5,if_true,Sem.run_pure]
  have hin:(Op.equalIn (d+3) f.type (.agg (xs.extract i (i+n))) (.agg (ys.extract i (i+n)))).run P w=.ok r2 w:=by
   rw[run_equalIn_struct w (d+2) f.type _ _ a3.under a3.stood]
   exact Zw (κ:=κ) (d+1) ks2 _ 0 l2 m2 r2 a3.fields (by rw[ex xs q_];simpa using hx) (by rw[ex ys q_];simpa using hy) h2
  simp only[Op.eqFields,if_pos a1,Sem.run_bind,a2,p xs,p ys,Result.andThen_ok,hin]
  cases r2<;>simp
 | k::ks,f::fs,i,[],m,r,h,_,_,he=>by simp[eqS]at he
 | k::ks,f::fs,i,x::l,[],r,h,_,_,he=>by simp[eqS]at he
 | k::ks,f::fs,i,x::l,y::m,r,h,hx,hy,he=>by
  simp only[Xp]at h
  obtain ⟨h1,h2',h3,h4⟩:=h
  simp only[List.cons_append,RdL]at hx hy
  obtain ⟨v,q,e1,e2,e3⟩:=hx
  obtain ⟨u,p,f1,f2,f3⟩:=hy
  have g1:xs[i]? = some v:=by
   have:=congrArg (fun l=>l[0]?) e1
   simpa using this
  have g2:ys[i]? = some u:=by
   have:=congrArg (fun l=>l[0]?) f1
   simpa using this
  have e4:xs.toList.drop (i+1)=q:=by
   have:=congrArg (List.drop 1) e1
   simpa [Nat.add_comm] using this
  have f4:ys.toList.drop (i+1)=p:=by
   have:=congrArg (List.drop 1) f1
   simpa [Nat.add_comm] using this
  have p1:=Js (P:=P) w h3 xs g1
  have p2:=Js (P:=P) w h3 ys g2
  simp only[eqS]at he
  cases hb:eq1 k x y with
  | none=>rw[hb]at he;cases he
  | some b =>
   cases hq:eqS ks l m with
   | none=>rw[hb,hq]at he;cases he
   | some r' =>
    rw[hb,hq]at he
    simp only[Option.some.injEq]at he
    have hrun:=Aax (P:=P) (κ:=κ) (w:=w) (d+2) h3 hb e2 f2
    have ih:=O0 hl hm h2 d ks fs (i+1) l m r' h4 (by rw[e4];exact e3) (by rw[f4];exact f3) hq
    simp only[Op.eqFields,if_pos h1,Sem.run_bind,h2',p1,p2,Result.andThen_ok,hrun]
    subst he
    cases b
    ·simp
    ·simp[ih]
 | [],[],_,_,_,_,h,_,_,_=>by simp[Xp]at h
 | [],_::_::_,_,_,_,_,h,_,_,_=>by simp[Xp]at h
 | _::_,[],_,_,_,_,h,_,_,_=>by simp[Xp]at h
structure EqT (P:Program) (t:TypeId) (ks ks2:List EK) (n:Nat):Prop where
 under:P.underlying t=some (.struct (P.fieldsOf t))
 stood:P.stoodInHeld t=false
 guard:P.eqGuardType P.depth t=false
 fields:Xp P ks2 n 0 (P.fieldsOf t).toList ks
theorem Vq {P:Program} {o:Oper} {s:SS} {op:BinOp} {t yt:TypeId} {x y:Operand} {l m l2 m2:List SV} {ks ks2:List EK} {n:Nat} {r r2:Bool} (h:o.op=.binOp op t x y yt) (hop:op=.eql∨op=.neq) (hq:EqT P t ks ks2 n)
  (hx:ev s x=.agg (l++l2)) (hy:ev s y=.agg (m++m2)) (hl:l2.length=n) (hm:m2.length=n) (hr:eqS ks l m=some r) (hr2:eqS ks2 l2 m2=some r2):Good P o s ⟨.val (.bool (if op=.eql then (r && r2) else !(r && r2))),[],[]⟩ :=
 Good.pure fun κ a w _ hrd _=>by
  have h1:=hrd x (by simp[h,Op.operands])
  have h2:=hrd y (by simp[h,Op.operands])
  rw[hx]at h1
  rw[hy]at h2
  simp only[Rd]at h1 h2
  obtain ⟨cs,e1,_,e3⟩:=h1
  obtain ⟨ds,f1,_,f3⟩:=h2
  have hrun:(Op.equal t (.agg cs.toArray) (.agg ds.toArray)).run P w=.ok (r && r2) w:=by
   show (Op.equalIn (9999+1) t (.agg cs.toArray) (.agg ds.toArray)).run P w=.ok (r && r2) w
   rw[run_equalIn_struct w 9999 t _ _ hq.under hq.stood]
   exact O0 (κ:=κ) hl hm hr2 9996 ks _ 0 l m r hq.fields (by simpa using e3) (by simpa using f3) hr
  have hg:(eqGuard op t x y (.agg cs.toArray) (.agg ds.toArray)).run P w=.ok () w:=by
   rcases hop with rfl | rfl<;>simp[eqGuard,hq.guard]
  refine⟨.bool (if op=.eql then (r && r2) else !(r && r2)),?_,by simp[Rd]⟩
  rcases hop with rfl | rfl<;>simp[execOp,h,e1,f1,hg,binOp,hrun]
end Go.Sy
namespace Go.Sy.YtjenpnjajjplkaaGreatDoor
open Go.Proofs
attribute [local irreducible] Go.Sy.G Go.Sy.DR
set_option maxRecDepth 100000
set_option maxHeartbeats 4000000
theorem E2 (l:List Int) (hl:l.length<2147483648):Sy.Spec Tryz.prog 52 [.sl 1 Aa l,.sl 1 Aa l] [] (Ab true) []:=cT F52 Tryz.ntmps52 fun F hF=>by
 have f0:((l.length:Int) != (l.length:Int))=false:=by simp
 refine T ?_
 refine Bd (fun j:Nat=>j≤l.length) (fun j=>[(0,.sl 1 Aa l),(1,.sl 1 Aa l),(12,Aa l.length),(13,Aa j)]) (fun _=>[]) (fun j=>l.length-j) 0 [] y_ U ?_
 intro j hj
 refine T ?_
 refine⟨fun h2=>?_,fun h2=>?_⟩
 ·have hlt:j<l.length:=by have:=of_decide_eq_true h2;omega
  have hlt0:((j:Nat):Int).toNat<l.length:=hlt
  clear h2
  have f1:((l[((j:Nat):Int).toNat]'hlt0) != (l[((j:Nat):Int).toNat]'hlt0))=false:=by simp
  refine T ?_
  exact Ak (j+1) [] hlt q_ U
 ·refine T ?_
  exact D
theorem Tx (l:List Int) (hl:l.length<2147483648):Sy.Spec Tryz.prog 57 [.sl 1 A6 l,.sl 1 A6 l] [] (Ab true) []:=cT F57 Tryz.ntmps57 fun F hF=>by
 have f0:((l.length:Int) != (l.length:Int))=false:=by simp
 refine T ?_
 refine Bd (fun j:Nat=>j≤l.length) (fun j=>[(0,.sl 1 A6 l),(1,.sl 1 A6 l),(12,Aa l.length),(13,Aa j)]) (fun _=>[]) (fun j=>l.length-j) 0 [] y_ U ?_
 intro j hj
 refine T ?_
 refine⟨fun h2=>?_,fun h2=>?_⟩
 ·have hlt:j<l.length:=by have:=of_decide_eq_true h2;omega
  have hlt0:((j:Nat):Int).toNat<l.length:=hlt
  clear h2
  have f1:((l[((j:Nat):Int).toNat]'hlt0) != (l[((j:Nat):Int).toNat]'hlt0))=false:=by simp
  refine T ?_
  exact Ak (j+1) [] hlt q_ U
 ·refine T ?_
  exact D
theorem M9 (l:List Device) (hl:l.length<2147483648):Sy.Spec Tryz.prog 46 [.sl 5 At l,.sl 5 At l] [] (Ab true) []:=cT F46 Tryz.ntmps46 fun F hF=>by
 have f0:((l.length:Int) != (l.length:Int))=false:=by simp
 refine T ?_
 refine Bd (fun j:Nat=>j≤l.length) (fun j=>[(0,.sl 5 At l),(1,.sl 5 At l),(12,Aa l.length),(13,Aa j)]) (fun _=>[]) (fun j=>l.length-j) 0 [] y_ U ?_
 intro j hj
 refine T ?_
 refine⟨fun h2=>?_,fun h2=>?_⟩
 ·have hlt:j<l.length:=by have:=of_decide_eq_true h2;omega
  have hlt0:((j:Nat):Int).toNat<l.length:=hlt
  clear h2
  refine T ?_
  exact Ak (j+1) [] hlt q_ U
 ·refine T ?_
  exact D
theorem Sz (l:List Link) (hl:l.length<2147483648):Sy.Spec Tryz.prog 47 [.sl 3 Bs l,.sl 3 Bs l] [] (Ab true) []:=cT F47 Tryz.ntmps47 fun F hF=>by
 have f0:((l.length:Int) != (l.length:Int))=false:=by simp
 refine T ?_
 refine Bd (fun j:Nat=>j≤l.length) (fun j=>[(0,.sl 3 Bs l),(1,.sl 3 Bs l),(12,Aa l.length),(13,Aa j)]) (fun _=>[]) (fun j=>l.length-j) 0 [] y_ U ?_
 intro j hj
 refine T ?_
 refine⟨fun h2=>?_,fun h2=>?_⟩
 ·have hlt:j<l.length:=by have:=of_decide_eq_true h2;omega
  have hlt0:((j:Nat):Int).toNat<l.length:=hlt
  clear h2
  refine T ?_
  exact Ak (j+1) [] hlt q_ U
 ·refine T ?_
  exact D
theorem M8 (l:List Static) (hl:l.length<2147483648):Sy.Spec Tryz.prog 48 [.sl 4 A0 l,.sl 4 A0 l] [] (Ab true) []:=cT F48 Tryz.ntmps48 fun F hF=>by
 have f0:((l.length:Int) != (l.length:Int))=false:=by simp
 refine T ?_
 refine Bd (fun j:Nat=>j≤l.length) (fun j=>[(0,.sl 4 A0 l),(1,.sl 4 A0 l),(12,Aa l.length),(13,Aa j)]) (fun _=>[]) (fun j=>l.length-j) 0 [] y_ U ?_
 intro j hj
 refine T ?_
 refine⟨fun h2=>?_,fun h2=>?_⟩
 ·have hlt:j<l.length:=by have:=of_decide_eq_true h2;omega
  have hlt0:((j:Nat):Int).toNat<l.length:=hlt
  clear h2
  refine T ?_
  exact Ak (j+1) [] hlt q_ U
 ·refine T ?_
  exact D
theorem irb3:((Program.fieldsOf Tryz.prog 132)[3]!).type=130:=by kernel_rfl
theorem irbEqT:EqT Tryz.prog 132 [.int .i64,.int .i64,.int .i64] [.int .u32,.int .i64] 2 where
 under:=by kernel_rfl
 stood:=by kernel_rfl
 guard:=by kernel_rfl
 fields:=by
  have e:(Program.fieldsOf Tryz.prog 132).toList=[(Program.fieldsOf Tryz.prog 132)[0]!,(Program.fieldsOf Tryz.prog 132)[1]!,(Program.fieldsOf Tryz.prog 132)[2]!,(Program.fieldsOf Tryz.prog 132)[3]!]:=by kernel_rfl
  rw[e]
  refine⟨of_decide_eq_true z_,by kernel_rfl,by kernel_rfl,of_decide_eq_true z_,by kernel_rfl,by kernel_rfl,of_decide_eq_true z_,by kernel_rfl,by kernel_rfl,of_decide_eq_true z_,by kernel_rfl,?_,?_,by kernel_rfl⟩
  ·rw[irb3];exact Γ.eqok 130 _ rfl
  ·rw[irb3];exact Go.info_of_underlying (d:=.struct (Program.fieldsOf Tryz.prog 130)) z_
theorem Ad6 (x:Irb):(!((x.row == x.row && (x.domain == x.domain && (x.vrf == x.vrf && true))) && (x.addr == x.addr && (x.bits == x.bits && true))))=false:=by simp
theorem Tz (l:List Irb) (hl:l.length<2147483648):Sy.Spec Tryz.prog 49 [.sl 5 Bw l,.sl 5 Bw l] [] (Ab true) []:=cT F49 Tryz.ntmps49 fun F hF=>by
 have f0:((l.length:Int) != (l.length:Int))=false:=by simp
 refine T ?_
 refine Bd (fun j:Nat=>j≤l.length) (fun j=>[(0,.sl 5 Bw l),(1,.sl 5 Bw l),(12,Aa l.length),(13,Aa j)]) (fun _=>[]) (fun j=>l.length-j) 0 [] y_ U ?_
 intro j hj
 refine T ?_
 refine⟨fun h2=>?_,fun h2=>?_⟩
 ·have hlt:j<l.length:=by have:=of_decide_eq_true h2;omega
  have hlt0:((j:Nat):Int).toNat<l.length:=hlt
  clear h2
  refine T ?_
  refine Xd (Vq (l:=[Aa _,Aa _,Aa _]) (l2:=[A6 _,Aa _]) (m:=[Aa _,Aa _,Aa _]) (m2:=[A6 _,Aa _]) E (.inr E) irbEqT E E E E E E) ?_
  rw[Ad6]
  refine T ?_
  exact Ak (j+1) [] hlt q_ U
 ·refine T ?_
  exact D
theorem same1S (p:Port) (htagged:p.tagged.length<2147483648):Sy.Spec Tryz.prog 51 [Ay p,Ay p] [] (Ab true) []:=cT F51 Tryz.ntmps51 fun F hF=>by
 have qtagged:=E2 p.tagged htagged
 refine T ?_
 refine C qtagged F52 ?_
 exact D
theorem S0 (l:List Port) (hl:l.length<2147483648) (htagged:∀ p∈l,Ar p.tagged):Sy.Spec Tryz.prog 50 [.sl 7 Ay l,.sl 7 Ay l,.clo (.func 51) [] []] [] (Ab true) []:=cT F50 Tryz.ntmps50 fun F hF=>by
 have f0:((l.length:Int) != (l.length:Int))=false:=by simp
 refine T ?_
 refine Bd (fun j:Nat=>j≤l.length) (fun j=>[(0,.sl 7 Ay l),(1,.sl 7 Ay l),(2,.clo (.func 51) [] []),(15,.sl 7 Ay l),(16,Aa l.length),(17,Aa j)]) (fun _=>[]) (fun j=>l.length-j) 0 [] y_ U ?_
 intro j hj
 refine T ?_
 refine⟨fun h2=>?_,fun h2=>?_⟩
 ·have hlt:j<l.length:=by have:=of_decide_eq_true h2;omega
  have hlt0:((j:Nat):Int).toNat<l.length:=hlt
  clear h2
  have q:Et Tryz.prog 51 [Ay l[((j:Nat):Int).toNat],Ay l[((j:Nat):Int).toNat]] (Ab true):=⟨⟨_,_,F51⟩,same1S _ (htagged _ (List.getElem_mem hlt0))⟩
  refine T ?_
  refine D5 q E E E E E E ?_
  refine T ?_
  exact Ak (j+1) [] hlt q_ U
 ·refine T ?_
  exact D
theorem same2S (p:Domain) (hpeers:p.peers.length<2147483648):Sy.Spec Tryz.prog 54 [Ad p,Ad p] [] (Ab true) []:=cT F54 Tryz.ntmps54 fun F hF=>by
 have qpeers:=E2 p.peers hpeers
 refine T ?_
 refine C qpeers F52 ?_
 exact D
theorem Oa (l:List Domain) (hl:l.length<2147483648) (hpeers:∀ p∈l,Ar p.peers):Sy.Spec Tryz.prog 53 [.sl 6 Ad l,.sl 6 Ad l,.clo (.func 54) [] []] [] (Ab true) []:=cT F53 Tryz.ntmps53 fun F hF=>by
 have f0:((l.length:Int) != (l.length:Int))=false:=by simp
 refine T ?_
 refine Bd (fun j:Nat=>j≤l.length) (fun j=>[(0,.sl 6 Ad l),(1,.sl 6 Ad l),(2,.clo (.func 54) [] []),(15,.sl 6 Ad l),(16,Aa l.length),(17,Aa j)]) (fun _=>[]) (fun j=>l.length-j) 0 [] y_ U ?_
 intro j hj
 refine T ?_
 refine⟨fun h2=>?_,fun h2=>?_⟩
 ·have hlt:j<l.length:=by have:=of_decide_eq_true h2;omega
  have hlt0:((j:Nat):Int).toNat<l.length:=hlt
  clear h2
  have q:Et Tryz.prog 54 [Ad l[((j:Nat):Int).toNat],Ad l[((j:Nat):Int).toNat]] (Ab true):=⟨⟨_,_,F54⟩,same2S _ (hpeers _ (List.getElem_mem hlt0))⟩
  refine T ?_
  refine D5 q E E E E E E ?_
  refine T ?_
  exact Ak (j+1) [] hlt q_ U
 ·refine T ?_
  exact D
theorem same3S (p:Flood) (haddrs:p.addrs.length<2147483648):Sy.Spec Tryz.prog 56 [Aw p,Aw p] [] (Ab true) []:=cT F56 Tryz.ntmps56 fun F hF=>by
 have qaddrs:=Tx p.addrs haddrs
 refine T ?_
 refine C qaddrs F57 ?_
 exact D
theorem Qh (l:List Flood) (hl:l.length<2147483648) (haddrs:∀ p∈l,Ar p.addrs):Sy.Spec Tryz.prog 55 [.sl 4 Aw l,.sl 4 Aw l,.clo (.func 56) [] []] [] (Ab true) []:=cT F55 Tryz.ntmps55 fun F hF=>by
 have f0:((l.length:Int) != (l.length:Int))=false:=by simp
 refine T ?_
 refine Bd (fun j:Nat=>j≤l.length) (fun j=>[(0,.sl 4 Aw l),(1,.sl 4 Aw l),(2,.clo (.func 56) [] []),(15,.sl 4 Aw l),(16,Aa l.length),(17,Aa j)]) (fun _=>[]) (fun j=>l.length-j) 0 [] y_ U ?_
 intro j hj
 refine T ?_
 refine⟨fun h2=>?_,fun h2=>?_⟩
 ·have hlt:j<l.length:=by have:=of_decide_eq_true h2;omega
  have hlt0:((j:Nat):Int).toNat<l.length:=hlt
  clear h2
  have q:Et Tryz.prog 56 [Aw l[((j:Nat):Int).toNat],Aw l[((j:Nat):Int).toNat]] (Ab true):=⟨⟨_,_,F56⟩,same3S _ (haddrs _ (List.getElem_mem hlt0))⟩
  refine T ?_
  refine D5 q E E E E E E ?_
  refine T ?_
  exact Ak (j+1) [] hlt q_ U
 ·refine T ?_
  exact D
theorem same4S (p:Vrf) (himports:p.imports.length<2147483648) (hexports:p.exports.length<2147483648):Sy.Spec Tryz.prog 59 [Bn p,Bn p] [] (Ab true) []:=cT F59 Tryz.ntmps59 fun F hF=>by
 have qimports:=E2 p.imports himports
 have qexports:=E2 p.exports hexports
 refine T ?_
 refine C qimports F52 ?_
 refine C qexports F52 ?_
 exact D
theorem T0 (l:List Vrf) (hl:l.length<2147483648) (himports:∀ p∈l,Ar p.imports) (hexports:∀ p∈l,Ar p.exports):Sy.Spec Tryz.prog 58 [.sl 5 Bn l,.sl 5 Bn l,.clo (.func 59) [] []] [] (Ab true) []:=cT F58 Tryz.ntmps58 fun F hF=>by
 have f0:((l.length:Int) != (l.length:Int))=false:=by simp
 refine T ?_
 refine Bd (fun j:Nat=>j≤l.length) (fun j=>[(0,.sl 5 Bn l),(1,.sl 5 Bn l),(2,.clo (.func 59) [] []),(15,.sl 5 Bn l),(16,Aa l.length),(17,Aa j)]) (fun _=>[]) (fun j=>l.length-j) 0 [] y_ U ?_
 intro j hj
 refine T ?_
 refine⟨fun h2=>?_,fun h2=>?_⟩
 ·have hlt:j<l.length:=by have:=of_decide_eq_true h2;omega
  have hlt0:((j:Nat):Int).toNat<l.length:=hlt
  clear h2
  have q:Et Tryz.prog 59 [Bn l[((j:Nat):Int).toNat],Bn l[((j:Nat):Int).toNat]] (Ab true):=⟨⟨_,_,F59⟩,same4S _ (himports _ (List.getElem_mem hlt0)) (hexports _ (List.getElem_mem hlt0))⟩
  refine T ?_
  refine D5 q E E E E E E ?_
  refine T ?_
  exact Ak (j+1) [] hlt q_ U
 ·refine T ?_
  exact D
theorem J6 (n:Net) (hn:n.Fin):Sy.Spec Tryz.prog 22 [Ap n,Ap n] [] (Ab true) []:=cT F22 Tryz.ntmps22 fun F hF=>by
 have q1:=M9 n.devices hn.devices
 have q2:=Sz n.links hn.links
 have q3:=M8 n.statics hn.statics
 have q4:=Tz n.irbs hn.irbs
 have q5:=S0 n.ports hn.ports hn.tagged
 have q6:=Oa n.domains hn.domains hn.peers
 have q7:=Qh n.floods hn.floods hn.addrs
 have q8:=T0 n.vrfs hn.vrfs hn.imports hn.exports
 refine T ?_
 refine C q1 F46 ?_
 refine T ?_
 refine C q2 F47 ?_
 refine T ?_
 refine C q3 F48 ?_
 refine T ?_
 refine C q4 F49 ?_
 refine T ?_
 refine C q5 F50 ?_
 refine T ?_
 refine C q6 F53 ?_
 refine T ?_
 refine C q7 F55 ?_
 refine T ?_
 refine C q8 F58 ?_
 refine T ?_
 exact D
theorem Zt {n:Net} (hn:n.Fin):(finishT n).1.Fin:=by
 unfold finishT
 split
 ·exact M3 hn
 split
 ·exact Dt
 ·exact M3 hn
theorem O5:∀ (M:List LineM) (n:Net),n.Fin→Hk n→(∀ z∈M,LineW z)→(B3 n M).1.Fin
 | [],n,hn,_,_=>Zt hn
 | x::M,n,hn,ha,h=>by
  rw[B3]
  split
  ·exact Dt
  ·have:=Aaj (l:=x) hn ha (h x y_)
   exact O5 M _ this.fin this.addrs (fun z hz=>h z (by simp[hz]))
theorem Aci {M:List LineM} (h:∀ z∈M,LineW z):(B2 M).1.Fin:=O5 M emptyN Dt (fun x hx=>by cases hx) h
def Cd (M:List LineM) (j:Nat):List SV:=[Aa 0,Aa (Am (M.take j) 1),Aa (Am (M.take j) 2),Aa (Am (M.take j) 3),Aa (Am (M.take j) 4),Aa (Am (M.take j) 5),Aa (Am (M.take j) 6),Aa (Am (M.take j) 7),Aa (Am (M.take j) 8),Aa (Am (M.take j) 9)]
theorem Ve (M:List LineM) (hM:∀ z∈M,LineOK z):Sy.Spec Tryz.prog 7 [.sl 17 Aj M] [] (Ab true) []:=cT F7 Tryz.ntmps7 fun F hF=>by
 have qw:=Acv
 by_cases c0:100<M.length
 ·have f0:decide ((M.length:Int)>100)=true:=decide_eq_true q_
  refine T ?_
  refine C qw F17 ?_
  refine T ?_
  exact D
 have f0:decide ((M.length:Int)>100)=false:=decide_eq_false q_
 have qg:=W9 M q_
 cases hg:linesGreat M with
 | true =>
  rw[hg]at qg
  refine T ?_
  refine C qw F17 ?_
  refine T ?_
  refine C qg F11 ?_
  refine T ?_
  exact D
 | false =>
 rw[hg]at qg
 have wM:∀ z∈M,LineW z:=fun z hz=>Aft hg z hz (hM z hz)
 have q1:=Ue M wM q_
 have hfin:=Aci wM
 have hbe:=O4 M emptyN
 have hbs:=O3 M emptyN (fun _=>0) Xq Zz
 clear hg hM
 have hb1:B2 M=B3 emptyN M:=rfl
 rw[← hb1]at hbe hbs
 generalize B2 M=r at *
 obtain ⟨n,row,e⟩:=r
 dsimp only at hbe hbs q1 hfin
 refine T ?_
 refine C qw F17 ?_
 refine T ?_
 refine C qg F11 ?_
 refine T ?_
 refine C q1 F13 ?_
 by_cases e0:e=0
 ·have g0:(e != 0)=false:=by rw[e0];rfl
  obtain ⟨s1,s2,s3,s4,s5⟩:=hbs e0
  have qm:=Agd n hfin
  have ql:=Age n hfin
  have qs:=J6 n hfin
  have qr:=Bl n hfin
  rw[s3]at qm
  rw[s4]at ql
  rw[s2]at qr
  dsimp only at qm ql
  refine T ?_
  refine C qm F23 ?_
  refine T ?_
  refine C ql F24 ?_
  refine T ?_
  refine Bd (fun j:Nat=>j≤M.length) (fun j=>[(0,.sl 17 Aj M),(3,.ptr 1003 0),(4,Aa row),(6,.ptr 1006 0),(8,Aa 0),(9,Aa 0),(10,Ab false),(11,.ptr 1011 0),(12,Aa j)]) (fun j=>[(1003,.box (B5 n)),(1006,.box (B5 n)),(1011,.box (Cd M j))]) (fun j=>M.length-j) 0 [(1003,3),(1006,6),(1011,11)] q_ U ?_
  intro j hj
  refine T ?_
  refine⟨fun h=>?_,fun h=>?_⟩
  ·have hlt:j<M.length:=qA h
   have hj0:((j:Nat):Int).toNat<M.length:=hlt
   clear h
   have hbd:∀ k,(Am (M.take j) k:Int)≤100:=fun k=>by
    have h1:Am (M.take j) k≤(M.take j).length:=List.length_filter_le _ _
    rw[List.length_take]at h1
    omega
   have hcn:∀ k,(Am (M.take (j+1)) k:Int)=Am (M.take j) k+if (M[((j:Nat):Int).toNat]'hj0).kind=k then 1 else 0:=fun k=>by
    rw[List.take_succ_eq_append_getElem hlt,Am,Am,List.filter_append,List.length_append]
    by_cases hk:(M[((j:Nat):Int).toNat]'hj0).kind=k
    ·rw[if_pos hk,List.filter_cons_of_pos (by exact beq_iff_eq.2 hk)];simp
    ·rw[if_neg hk,List.filter_cons_of_neg (by simpa using hk)];simp
   have kne:((M[((j:Nat):Int).toNat]'hj0).kind<1∨9<(M[((j:Nat):Int).toNat]'hj0).kind)→∀ k:Int,1≤k→k≤9→(if (M[((j:Nat):Int).toNat]'hj0).kind=k then (1:Int) else 0)=0:=fun h k h1 h2=>if_neg q_
   by_cases k1:(M[((j:Nat):Int).toNat]'hj0).kind≥1
   ·have f1:decide ((M[((j:Nat):Int).toNat]'hj0).kind≥1)=true:=decide_eq_true k1
    by_cases k2:(M[((j:Nat):Int).toNat]'hj0).kind≤9
    ·have f2:decide ((M[((j:Nat):Int).toNat]'hj0).kind≤9)=true:=decide_eq_true k2
     have hcase:(M[((j:Nat):Int).toNat]'hj0).kind=1∨(M[((j:Nat):Int).toNat]'hj0).kind=2∨(M[((j:Nat):Int).toNat]'hj0).kind=3∨(M[((j:Nat):Int).toNat]'hj0).kind=4∨(M[((j:Nat):Int).toNat]'hj0).kind=5∨(M[((j:Nat):Int).toNat]'hj0).kind=6∨(M[((j:Nat):Int).toNat]'hj0).kind=7∨(M[((j:Nat):Int).toNat]'hj0).kind=8∨(M[((j:Nat):Int).toNat]'hj0).kind=9:=by omega
     rcases hcase with h3 | h3 | h3 | h3 | h3 | h3 | h3 | h3 | h3
     ·have hb:=hbd 1
      have eK:Cd M (j+1)=[Aa 0,Aa ((Am (M.take j) 1:Int)+1),Aa ((Am (M.take j) 2:Int)),Aa ((Am (M.take j) 3:Int)),Aa ((Am (M.take j) 4:Int)),Aa ((Am (M.take j) 5:Int)),Aa ((Am (M.take j) 6:Int)),Aa ((Am (M.take j) 7:Int)),Aa ((Am (M.take j) 8:Int)),Aa ((Am (M.take j) 9:Int))]:=by simp only[Cd,hcn,h3,Int.reduceEq,if_true,if_false,Int.add_zero]
      refine T ?_
      rw[h3]
      refine T ?_
      exact Ak (j+1) [] hlt q_ ⟨⟨E,E,E,E,E,E,E,E,E,E,E,E,E,E,E,E,E,E,Y⟩,⟨.inl E,E,.inl E,E,.inl (congrArg Ob.box eK),E,Y⟩,E,E⟩
     ·have hb:=hbd 2
      have eK:Cd M (j+1)=[Aa 0,Aa ((Am (M.take j) 1:Int)),Aa ((Am (M.take j) 2:Int)+1),Aa ((Am (M.take j) 3:Int)),Aa ((Am (M.take j) 4:Int)),Aa ((Am (M.take j) 5:Int)),Aa ((Am (M.take j) 6:Int)),Aa ((Am (M.take j) 7:Int)),Aa ((Am (M.take j) 8:Int)),Aa ((Am (M.take j) 9:Int))]:=by simp only[Cd,hcn,h3,Int.reduceEq,if_true,if_false,Int.add_zero]
      refine T ?_
      rw[h3]
      refine T ?_
      exact Ak (j+1) [] hlt q_ ⟨⟨E,E,E,E,E,E,E,E,E,E,E,E,E,E,E,E,E,E,Y⟩,⟨.inl E,E,.inl E,E,.inl (congrArg Ob.box eK),E,Y⟩,E,E⟩
     ·have hb:=hbd 3
      have eK:Cd M (j+1)=[Aa 0,Aa ((Am (M.take j) 1:Int)),Aa ((Am (M.take j) 2:Int)),Aa ((Am (M.take j) 3:Int)+1),Aa ((Am (M.take j) 4:Int)),Aa ((Am (M.take j) 5:Int)),Aa ((Am (M.take j) 6:Int)),Aa ((Am (M.take j) 7:Int)),Aa ((Am (M.take j) 8:Int)),Aa ((Am (M.take j) 9:Int))]:=by simp only[Cd,hcn,h3,Int.reduceEq,if_true,if_false,Int.add_zero]
      refine T ?_
      rw[h3]
      refine T ?_
      exact Ak (j+1) [] hlt q_ ⟨⟨E,E,E,E,E,E,E,E,E,E,E,E,E,E,E,E,E,E,Y⟩,⟨.inl E,E,.inl E,E,.inl (congrArg Ob.box eK),E,Y⟩,E,E⟩
     ·have hb:=hbd 4
      have eK:Cd M (j+1)=[Aa 0,Aa ((Am (M.take j) 1:Int)),Aa ((Am (M.take j) 2:Int)),Aa ((Am (M.take j) 3:Int)),Aa ((Am (M.take j) 4:Int)+1),Aa ((Am (M.take j) 5:Int)),Aa ((Am (M.take j) 6:Int)),Aa ((Am (M.take j) 7:Int)),Aa ((Am (M.take j) 8:Int)),Aa ((Am (M.take j) 9:Int))]:=by simp only[Cd,hcn,h3,Int.reduceEq,if_true,if_false,Int.add_zero]
      refine T ?_
      rw[h3]
      refine T ?_
      exact Ak (j+1) [] hlt q_ ⟨⟨E,E,E,E,E,E,E,E,E,E,E,E,E,E,E,E,E,E,Y⟩,⟨.inl E,E,.inl E,E,.inl (congrArg Ob.box eK),E,Y⟩,E,E⟩
     ·have hb:=hbd 5
      have eK:Cd M (j+1)=[Aa 0,Aa ((Am (M.take j) 1:Int)),Aa ((Am (M.take j) 2:Int)),Aa ((Am (M.take j) 3:Int)),Aa ((Am (M.take j) 4:Int)),Aa ((Am (M.take j) 5:Int)+1),Aa ((Am (M.take j) 6:Int)),Aa ((Am (M.take j) 7:Int)),Aa ((Am (M.take j) 8:Int)),Aa ((Am (M.take j) 9:Int))]:=by simp only[Cd,hcn,h3,Int.reduceEq,if_true,if_false,Int.add_zero]
      refine T ?_
      rw[h3]
      refine T ?_
      exact Ak (j+1) [] hlt q_ ⟨⟨E,E,E,E,E,E,E,E,E,E,E,E,E,E,E,E,E,E,Y⟩,⟨.inl E,E,.inl E,E,.inl (congrArg Ob.box eK),E,Y⟩,E,E⟩
     ·have hb:=hbd 6
      have eK:Cd M (j+1)=[Aa 0,Aa ((Am (M.take j) 1:Int)),Aa ((Am (M.take j) 2:Int)),Aa ((Am (M.take j) 3:Int)),Aa ((Am (M.take j) 4:Int)),Aa ((Am (M.take j) 5:Int)),Aa ((Am (M.take j) 6:Int)+1),Aa ((Am (M.take j) 7:Int)),Aa ((Am (M.take j) 8:Int)),Aa ((Am (M.take j) 9:Int))]:=by simp only[Cd,hcn,h3,Int.reduceEq,if_true,if_false,Int.add_zero]
      refine T ?_
      rw[h3]
      refine T ?_
      exact Ak (j+1) [] hlt q_ ⟨⟨E,E,E,E,E,E,E,E,E,E,E,E,E,E,E,E,E,E,Y⟩,⟨.inl E,E,.inl E,E,.inl (congrArg Ob.box eK),E,Y⟩,E,E⟩
     ·have hb:=hbd 7
      have eK:Cd M (j+1)=[Aa 0,Aa ((Am (M.take j) 1:Int)),Aa ((Am (M.take j) 2:Int)),Aa ((Am (M.take j) 3:Int)),Aa ((Am (M.take j) 4:Int)),Aa ((Am (M.take j) 5:Int)),Aa ((Am (M.take j) 6:Int)),Aa ((Am (M.take j) 7:Int)+1),Aa ((Am (M.take j) 8:Int)),Aa ((Am (M.take j) 9:Int))]:=by simp only[Cd,hcn,h3,Int.reduceEq,if_true,if_false,Int.add_zero]
      refine T ?_
      rw[h3]
      refine T ?_
      exact Ak (j+1) [] hlt q_ ⟨⟨E,E,E,E,E,E,E,E,E,E,E,E,E,E,E,E,E,E,Y⟩,⟨.inl E,E,.inl E,E,.inl (congrArg Ob.box eK),E,Y⟩,E,E⟩
     ·have hb:=hbd 8
      have eK:Cd M (j+1)=[Aa 0,Aa ((Am (M.take j) 1:Int)),Aa ((Am (M.take j) 2:Int)),Aa ((Am (M.take j) 3:Int)),Aa ((Am (M.take j) 4:Int)),Aa ((Am (M.take j) 5:Int)),Aa ((Am (M.take j) 6:Int)),Aa ((Am (M.take j) 7:Int)),Aa ((Am (M.take j) 8:Int)+1),Aa ((Am (M.take j) 9:Int))]:=by simp only[Cd,hcn,h3,Int.reduceEq,if_true,if_false,Int.add_zero]
      refine T ?_
      rw[h3]
      refine T ?_
      exact Ak (j+1) [] hlt q_ ⟨⟨E,E,E,E,E,E,E,E,E,E,E,E,E,E,E,E,E,E,Y⟩,⟨.inl E,E,.inl E,E,.inl (congrArg Ob.box eK),E,Y⟩,E,E⟩
     ·have hb:=hbd 9
      have eK:Cd M (j+1)=[Aa 0,Aa ((Am (M.take j) 1:Int)),Aa ((Am (M.take j) 2:Int)),Aa ((Am (M.take j) 3:Int)),Aa ((Am (M.take j) 4:Int)),Aa ((Am (M.take j) 5:Int)),Aa ((Am (M.take j) 6:Int)),Aa ((Am (M.take j) 7:Int)),Aa ((Am (M.take j) 8:Int)),Aa ((Am (M.take j) 9:Int)+1)]:=by simp only[Cd,hcn,h3,Int.reduceEq,if_true,if_false,Int.add_zero]
      refine T ?_
      rw[h3]
      refine T ?_
      exact Ak (j+1) [] hlt q_ ⟨⟨E,E,E,E,E,E,E,E,E,E,E,E,E,E,E,E,E,E,Y⟩,⟨.inl E,E,.inl E,E,.inl (congrArg Ob.box eK),E,Y⟩,E,E⟩
    ·have f2:decide ((M[((j:Nat):Int).toNat]'hj0).kind≤9)=false:=decide_eq_false k2
     have eK:Cd M (j+1)=Cd M j:=by simp only[Cd,hcn];rw[kne q_ 1 j_ j_,kne q_ 2 j_ j_,kne q_ 3 j_ j_,kne q_ 4 j_ j_,kne q_ 5 j_ j_,kne q_ 6 j_ j_,kne q_ 7 j_ j_,kne q_ 8 j_ j_,kne q_ 9 j_ j_];simp only[Int.add_zero]
     refine T ?_
     exact Ak (j+1) [] hlt q_ ⟨⟨E,E,E,E,E,E,E,E,E,E,E,E,E,E,E,E,E,E,Y⟩,⟨.inl E,E,.inl E,E,.inl (congrArg Ob.box eK),E,Y⟩,E,E⟩
   ·have f1:decide ((M[((j:Nat):Int).toNat]'hj0).kind≥1)=false:=decide_eq_false k1
    have eK:Cd M (j+1)=Cd M j:=by simp only[Cd,hcn];rw[kne q_ 1 j_ j_,kne q_ 2 j_ j_,kne q_ 3 j_ j_,kne q_ 4 j_ j_,kne q_ 5 j_ j_,kne q_ 6 j_ j_,kne q_ 7 j_ j_,kne q_ 8 j_ j_,kne q_ 9 j_ j_];simp only[Int.add_zero]
    refine T ?_
    exact Ak (j+1) [] hlt q_ ⟨⟨E,E,E,E,E,E,E,E,E,E,E,E,E,E,E,E,E,E,Y⟩,⟨.inl E,E,.inl E,E,.inl (congrArg Ob.box eK),E,Y⟩,E,E⟩
  ·have hje:j=M.length:=qB h
   clear h
   subst hje
   have ht:∀ k,Am (M.take M.length) k=Am M k:=fun k=>by rw[List.take_length]
   obtain ⟨m1,m2,m3,m4,m7,m8,m9⟩:=s5
   have p1:((n.devices.length:Int) == (Am (M.take M.length) 1:Int))=true:=by rw[ht];exact beq_iff_eq.2 q_
   have p2:((n.ports.length:Int) == (Am (M.take M.length) 2:Int))=true:=by rw[ht];exact beq_iff_eq.2 q_
   have p3:((n.links.length:Int) == (Am (M.take M.length) 3:Int))=true:=by rw[ht];exact beq_iff_eq.2 q_
   have p4:((n.statics.length:Int) == (Am (M.take M.length) 4:Int))=true:=by rw[ht];exact beq_iff_eq.2 q_
   have p7:((n.floods.length:Int) == (Am (M.take M.length) 7:Int))=true:=by rw[ht];exact beq_iff_eq.2 q_
   have p8:((n.vrfs.length:Int) == (Am (M.take M.length) 8:Int))=true:=by rw[ht];exact beq_iff_eq.2 q_
   have p9:((n.irbs.length:Int) == (Am (M.take M.length) 9:Int))=true:=by rw[ht];exact beq_iff_eq.2 q_
   refine T ?_
   refine C qr F25 ?_
   refine T ?_
   refine C qs F22 ?_
   refine T ?_
   exact Au E (.cons .tmp .nil) (congrArg Ab p9.symm) E
 ·have g0:(e != 0)=true:=by simpa using e0
  have he:=hbe e0
  subst he
  have qs:=J6 emptyN Dt
  refine T ?_
  refine G_vw 31 (Ap emptyN) (.agg (.cons .nil (.cons .nil (.cons .nil (.cons .nil (.cons .nil (.cons .nil (.cons .nil (.cons .nil .nil))))))))) ?_
  refine C qs F22 ?_
  exact D
end Go.Sy.YtjenpnjajjplkaaGreatDoor
