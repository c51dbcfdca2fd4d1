/-
  Sy24 T1 T2 T3 T4 V6 V7 V8 T5 T6 T7 T8 T9 T10 T11 T12 T13 T15 T16 T17 T14 T19 T21 Z0 Z1 K35 K36 K37 K38 K39 K40 Z2: parts of a proof, joined by program.
-/
import Derived.Test.YtcflgpijohhfbaaGreatXS3
import Derived.Test.YtcflgpijohhfbaaGreatXS4
import Derived.Test.YtcflgpijohhfbaaGreatXS6
import Derived.Test.YtcflgpijohhfbaaGreatXS5
set_option linter.all false
set_option linter.unusedVariables false
set_option linter.unusedSimpArgs false
set_option linter.deprecated false
namespace Go.Sy
structure Meth (P:Program) (t:TypeId) (name:String) (f:FuncId) (pr:Bool) (e:TypeId):Prop where
 row:∃ i m,P.info? t=some i∧i.methods.find? (·.name == name)=some m∧m.path=#[]∧m.func=some (f,pr)
 under:P.underlying t=some (.pointer e)
theorem Yg {P:Program} {t:TypeId} {name:String} {f:FuncId} {e:TypeId} (hm:Meth P t name f true e) (w:World) (v:Value):(Go.method (P.types.size+Made.depth) t v name).run P w=.ok (f,v) w:=by
 obtain ⟨⟨i,m,h1,h2,h3,h4⟩,hu⟩:=hm
 show (Go.method (P.types.size+99+1) t v name).run P w=_
 rw[Go.method]
 simp only[Sem.run_bind,run_typeInfo w h1,Result.andThen_ok,h2,h3,Go.follow,Sem.run_pure,h4,Go.receiverAt,run_underlying hu,Go.Place.get]
theorem Yf {P:Program} {t:TypeId} {name:String} {f:FuncId} {e:TypeId} (hm:Meth P t name f false e) (w:World) (a:Addr) {v:Value} (hv:(loadVar e a).run P w=.ok v w):(Go.method (P.types.size+Made.depth) t (.pointer (some a)) name).run P w=.ok (f,v) w:=by
 obtain ⟨⟨i,m,h1,h2,h3,h4⟩,hu⟩:=hm
 show (Go.method (P.types.size+99+1) t (.pointer (some a)) name).run P w=_
 rw[Go.method]
 have he:(#[]:Array FieldStep).isEmpty=true:=rfl
 simp only[Sem.run_bind,run_typeInfo w h1,Result.andThen_ok,h2,h3,Go.follow,Sem.run_pure,h4,Go.receiverAt,run_underlying hu,Go.Place.get,he,if_true]
 have hs : ∀ n : String, (Builtin.ssaWrapNilChk_ #[t] t #[.pointer (some a), strVal "", strVal n]).run P w = .ok (.pointer (some a)) w := fun n => rfl
 simp only[hs,Result.andThen_ok,asAddr,Sem.run_pure,hv]
theorem Sg {P:Program} {o:Oper} {s:SS} {rd:List Nat} {f:FuncId} {fn:Func} {c:Code} {t e:TypeId} {name:String} {x:Operand} {xs:List Operand} {ts:Array TypeId} {y:SV} (hm:Meth P t name f true e) (hf:Fun P f fn c) (h:o.op=.call ⟨.invoke x name,xs.toArray,ts⟩) (hx:ev s x=.ifc t y) :
  Ml P o s rd f (y::xs.map (ev s)) :=
 fun κ a w hr _=>by
  have h1:=hr x (by simp[h,Op.operands,Call.operands])
  rw[hx]at h1
  simp only[Rd]at h1
  obtain ⟨u,e1,e2⟩:=h1
  refine⟨u::xs.map a.eval,?_,?_⟩
  ·have hcall:=Ja hf (u::xs.map a.eval).toArray w
   have hmeth:=Yg hm w u
   simp only[execOp,h,resolve,invoke,e1,Sem.run_bind,Sem.run_pure,Result.andThen_ok]at hcall ⊢
   simp only[callMethod]
   rw[← hcall]
   have htk:(xs.map a.eval).take xs.length=xs.map a.eval:=List.take_of_length_le y_
   simp[hmeth,Sem.run_bind,htk]
  ·simp only[RdL]
   exact⟨_,_,E,e2,Ko xs (fun y hy=>hr y (by simp[h,Op.operands,Call.operands,hy]))⟩
theorem Bh {P:Program} (Γ:Ty P) {o:Oper} {s:SS} {f:FuncId} {fn:Func} {c:Code} {t e:TypeId} {ti:TI} {name:String} {x:Operand} {xs:List Operand} {ts:Array TypeId} {k off:Nat} {l:List SV} {z:SV} (hm:Meth P t name f false e) (hf:Fun P f fn c) (h:o.op=.call ⟨.invoke x name,xs.toArray,ts⟩)
  (hx:ev s x=.ifc t (.ptr k off)) (hk:s.h k=.box l) (ht:Γ.get e=some ti) (hz:Jz ti l off=some z):Ml P o s [k] f (z::xs.map (ev s)) :=
 fun κ a w hr ho=>by
  have h1:=hr x (by simp[h,Op.operands,Call.operands])
  rw[hx]at h1
  simp only[Rd]at h1
  obtain ⟨u,e1,e2⟩:=h1
  have hob:=ho k y_
  rw[hk]at hob
  obtain ⟨b,f1,f2⟩:=hob.cellsAt
  rw[f1]at e2
  simp only at e2
  subst e2
  obtain ⟨v,g1,g2⟩:=Jp (P:=P) Γ ht f2 hz
  rw[Nat.zero_add]at g1
  refine⟨v::xs.map a.eval,?_,?_⟩
  ·have hcall:=Ja hf (v::xs.map a.eval).toArray w
   have hmeth:=Yf hm w ⟨b,off,none⟩ g1
   simp only[execOp,h,resolve,invoke,e1,Sem.run_bind,Sem.run_pure,Result.andThen_ok]at hcall ⊢
   simp only[callMethod]
   rw[← hcall]
   have htk:(xs.map a.eval).take xs.length=xs.map a.eval:=List.take_of_length_le y_
   simp[hmeth,Sem.run_bind,htk]
  ·simp only[RdL]
   exact⟨_,_,E,g2,Ko xs (fun y hy=>hr y (by simp[h,Op.operands,Call.operands,hy]))⟩
theorem W0 {P:Program} (Γ:Ty P) {o:Oper} {s:SS} {x:Operand} {xt t:TypeId} {ti:TI} {y:SV} {ok:Bool} (h:o.op=.typeAssert x xt t ok) (hx:ev s x=.ifc t y) (ht:Γ.get t=some ti) (hk:ti.k matches .bool | .int _ | .string | .slice .. | .struct _ | .ptr | .func) :
  Good P o s ⟨if ok then .tup [y,Ab true] else y,[],[]⟩ :=
 Good.pure fun κ a w _ hr _=>by
  have h1:=hr x (by simp[h,Op.operands])
  rw[hx]at h1
  simp only[Rd]at h1
  obtain ⟨u,e1,e2⟩:=h1
  obtain ⟨d,info,z,k1,k2,_⟩:=Γ.ok t ti ht
  have hni:∀ ms,d≠.interface ms:=by
   obtain ⟨k,n,zz⟩:=ti
   intro ms hd
   subst hd
   cases k<;>simp_all[TK.ok]
  have hrun:(Instr.typeAssert (.iface t u) xt t ok).run P w=.ok (if ok then .tuple #[u,.bool true] else u) w:=by
   cases d<;>first
    | exact absurd rfl (hni _)
    | (cases ok<;>simp[Instr.typeAssert,run_underlying k1])
  refine⟨if ok then .tuple #[u,.bool true] else u,by simp[execOp,h,e1,hrun],?_⟩
  cases ok
  ·exact e2
  ·simp only[if_true,Rd,RdL]
   exact⟨[u,.bool true],E,_,_,E,e2,_,_,E,by simp[Ab,Rd],E⟩
def Au5 (P:Program) (t:TypeId) (name:String) (f:FuncId) (pr:Bool):Bool :=
 match P.info? t with
 | some i=>(match i.methods.find? (·.name == name) with
  | some m=>m.path.isEmpty && (match m.func with | some (g,b)=>Nat.beq g f && (b == pr) | none=>false)
  | none=>false)
 | none=>false
theorem Meth.of {P:Program} {t:TypeId} {name:String} {f:FuncId} {pr:Bool} {e:TypeId} (h:Au5 P t name f pr=true) (hu:P.underlying t=some (.pointer e)):Meth P t name f pr e:=by
 refine⟨?_,hu⟩
 unfold Au5 at h
 split at h
 ·rename_i i hi
  split at h
  ·rename_i m hm
   simp only[Bool.and_eq_true]at h
   obtain ⟨h1,h2⟩:=h
   split at h2
   ·rename_i g b hf
    simp only[Bool.and_eq_true,beq_iff_eq]at h2
    obtain ⟨h3,rfl⟩:=h2
    have h3:=Nat.eq_of_beq_eq_true h3
    subst h3
    exact⟨i,m,hi,hm,by simpa using h1,hf⟩
   ·cases h2
  ·cases h
 ·cases h
end Go.Sy
namespace Go.Sy.YtcflgpijohhfbaaGreat
open Go.Proofs
attribute [local irreducible] Go.Sy.G Go.Sy.DR
set_option maxRecDepth 20000
set_option maxHeartbeats 4000000
structure Item where
 (root cost dev:Int)
instance:Inhabited Item:=⟨⟨0,0,0⟩⟩
def Bj (x:Item):SV:=.agg [Aa x.root,Aa x.cost,Aa x.dev]
def B0 (x y:Item):Bool:=decide (x.root<y.root) || (x.root == y.root && decide (x.cost<y.cost))
theorem Vt (q:List Item):Sy.Spec Tryz.prog 219 [.sl 3 Bj q] [] (Aa q.length) []:=cT F219 Tryz.ntmps219 fun F hF=>by
 conv=>whnf
 exact dN
theorem Ju (q:List Item) (i j:Nat) (hi:i<q.length) (hj:j<q.length):Sy.Spec Tryz.prog 343 [.sl 3 Bj q,Aa i,Aa j] [] (Ab (B0 q[i] q[j])) []:=cT F343 Tryz.ntmps343 fun F hF=>by
 have e1:q[(i:Int).toNat]'q_=q[i]:=rfl
 have e2:q[(j:Int).toNat]'q_=q[j]:=rfl
 conv=>whnf
 (repeat' (first | (refine⟨fun h=>?_,fun h=>?_⟩<;>(repeat (first | simp only[decide_eq_true_eq]at h | simp only[decide_eq_false_iff_not]at h | simp only[beq_iff_eq]at h | simp only[beq_eq_false_iff_ne]at h))<;>((refine rd z_ ?_);(conv=>whnf))) | (refine Ap rfl (.cons .tmp .nil) ?_ rfl) | (refine⟨z_,?_⟩;((conv=>whnf))) | (refine⟨by (omega),by (omega),?_⟩;((conv=>whnf)))))
 all_goals (refine congrArg Ab ?_;clear hF;grind [B0])
theorem Jt (q:List Item) (i j:Nat) (hi:i<q.length) (hj:j<q.length):Sy.Spec Tryz.prog 346 [.osl 0,Aa i,Aa j] [(0,.row 3 Bj q)] (.tup []) [(0,.row 3 Bj ((q.set i q[j]).set j q[i]))]:=cT F346 Tryz.ntmps346 fun F hF=>by
 have e1:q[(i:Int).toNat]'q_=q[i]:=rfl
 have e2:q[(j:Int).toNat]'q_=q[j]:=rfl
 conv=>whnf
 refine⟨by omega,by omega,?_⟩
 conv=>whnf
 refine⟨E,by omega,?_⟩
 rw[e2]
 conv=>whnf
 refine⟨by omega,by omega,?_⟩
 conv=>whnf
 refine⟨E,by omega,?_⟩
 rw[e1]
 conv=>whnf
 refine⟨by omega,by omega,?_⟩
 conv=>whnf
 refine⟨E,by omega,q[j],E,E,?_⟩
 conv=>whnf
 refine⟨by omega,by simp;omega,?_⟩
 conv=>whnf
 refine⟨E,by simp;omega,q[i],E,E,?_⟩
 conv=>whnf
 refine kW ?_
 exact A1 E .nil [] [(0,.row 3 Bj ((q.set i q[j]).set j q[i]))] (fun _ h=>h) E E ⟨Y,⟨.inl E,E,Y⟩,E,E⟩
theorem Aiz (q:List Item) (x:Item) (hq:q.length<1000000):Sy.Spec Tryz.prog 345 [.ptr 0 0,.ifc 334 (Bj x)] [(0,.box [.osl 1]),(1,.row 3 Bj q)] (.tup []) [(0,.box [.osl 2]),(1,.non),(2,.row 3 Bj (q++[x]))]:=cT F345 Tryz.ntmps345 fun F hF=>by
 conv=>whnf
 refine Af (W0 Γ.toTy E E E E) E E ?_
 refine oT ?_
 refine Bm (Ag Γ.toTy 18 E E E E E (.row E) (.lit (l:=[x]) E E) y_ (by simp;omega) (by simp;omega)) z_ E ?_
 refine oD ?_
 refine kW ?_
 exact A1 E .nil [(2,18)] [(0,.box [.osl 2]),(1,.non),(2,.row 3 Bj (q++[x]))] (fun _ h=>h) E E ⟨Y,⟨.inl E,E,.inl E,E,.inl E,E,Y⟩,E,E⟩
theorem Ani (q:List Item) (hq:q≠[]) (hl:q.length<1000000):Sy.Spec Tryz.prog 344 [.ptr 0 0] [(0,.box [.osl 1]),(1,.row 3 Bj q)] (.ifc 334 (Bj (q.getLast hq))) [(0,.box [.osl 2]),(1,.non),(2,.row 3 Bj q.dropLast)]:=cT F344 Tryz.ntmps344 fun F hF=>by
 have h0:0<q.length:=List.length_pos_iff.2 hq
 have e1:q[((q.length:Int)-1).toNat]'q_=q.getLast hq:=by
  rw[List.getLast_eq_getElem]
  congr 1
  omega
 conv=>whnf
 refine iW ?_
 refine⟨by omega,by omega,?_⟩
 conv=>whnf
 refine⟨E,by omega,?_⟩
 rw[e1]
 conv=>whnf
 refine kW ?_
 refine iW ?_
 refine Bm (Zj Γ.toTy (d:=23) (hi:=q.length-1) E E E E E j_ E (.inl ⟨E,E⟩) (.inr ⟨_,_,E,congrArg (fun z=>SV.val (.int .i64 z)) q_⟩) q_) z_ E ?_
 rw[← List.dropLast_eq_take]
 refine oD ?_
 refine kW ?_
 exact done E (.cons .tmp .nil) [(2,23)] [(0,.box [.osl 2]),(1,.non),(2,.row 3 Bj q.dropLast)] (fun _ h=>h) E E ⟨Y,⟨.inl E,E,.inl E,E,.inl E,E,Y⟩,E,E⟩
end Go.Sy.YtcflgpijohhfbaaGreat
namespace Go.Sy.YtcflgpijohhfbaaGreat
open Go.Proofs
attribute [local irreducible] Go.Sy.G Go.Sy.DR
set_option maxRecDepth 100000
set_option maxHeartbeats 4000000
theorem mLen : Meth Tryz.prog 329 "Len" 219 false 331 := .of (by kernel_rfl) Tryz.underlying329
theorem Age : Meth Tryz.prog 329 "Less" 343 false 331 := .of (by kernel_rfl) Tryz.underlying329
theorem Agd : Meth Tryz.prog 329 "Swap" 346 false 331 := .of (by kernel_rfl) Tryz.underlying329
theorem mPush : Meth Tryz.prog 329 "Push" 345 true 331 := .of (by kernel_rfl) Tryz.underlying329
theorem mPop : Meth Tryz.prog 329 "Pop" 344 true 331 := .of (by kernel_rfl) Tryz.underlying329
def Dz (q:List Item) (i j:Nat):List Item:=(q.set i (q.getD j default)).set j (q.getD i default)
theorem Ax (q:List Item) (i j:Nat):(Dz q i j).length=q.length:=by simp[Dz]
def upF:Nat→List Item→Nat→List Item
 | 0,q,_=>q
 | n+1,q,j=>if j=0 then q else if B0 (q.getD j default) (q.getD ((j-1) / 2) default) then upF n (Dz q ((j-1) / 2) j) ((j-1) / 2) else q
theorem Aex:∀ (n m:Nat) (q:List Item) (j:Nat),j≤n→j≤m→upF n q j=upF m q j
 | 0,m,q,j,h,_=>by
  have:j=0:=by omega
  subst this
  cases m<;>simp[upF]
 | n+1,0,q,j,_,h=>by
  have:j=0:=by omega
  subst this
  simp[upF]
 | n+1,m+1,q,j,h1,h2=>by
  rw[upF,upF]
  split
  ·rfl
  ·split
   ·exact Aex n m _ _ q_ q_
   ·rfl
theorem Apj (r:List Item):∀ (i:Nat),i≠0→upF i r i=if B0 (r.getD i default) (r.getD ((i-1) / 2) default) then upF ((i-1) / 2) (Dz r ((i-1) / 2) i) ((i-1) / 2) else r
 | 0,h=>absurd rfl h
 | m+1,_=>by
  rw[upF,if_neg q_]
  split
  ·exact Aex _ _ _ _ q_ q_
  ·rfl
theorem upS (q:List Item) (j:Nat) (hj:j<q.length) (hl:q.length<1000000) :
  Sy.Spec Tryz.prog 274 [.ifc 329 (.ptr 0 0),Aa j] [(0,.box [.osl 1]),(1,.row 3 Bj q)] (.tup []) [(0,.box [.osl 1]),(1,.row 3 Bj (upF j q j))]:=cT F274 Tryz.ntmps274 fun F hF=>by
 conv=>whnf
 refine O6 (α:={p:List Item × Nat // upF p.2 p.1 p.2=upF j q j∧p.1.length=q.length∧p.2<p.1.length}) (fun p=>[(0,.ifc 329 (.ptr 0 0)),(1,Aa p.1.2)]) (fun p=>[(0,.box [.osl 1]),(1,.row 3 Bj p.1.1)]) (fun p=>p.1.2) ⟨(q,j),E,E,hj⟩ []
  ⟨⟨rfl,rfl,rfl,rfl,trivial⟩,⟨.inl rfl,rfl,.inl rfl,rfl,trivial⟩,rfl,rfl⟩ ?_
 rintro ⟨⟨r,i⟩,h1,h2,h3⟩
 simp only at h1 h2 h3
 dsimp only
 have hw:IntKind.i64.wrap (((i:Int)-1).tdiv 2)=(((i-1) / 2:Nat):Int):=by
  rcases Nat.eq_zero_or_pos i with h0 | h0
  ·subst h0;rfl
  ·have:((i:Int)-1)=((i-1:Nat):Int):=by omega
   rw[this,Int.tdiv_eq_ediv_of_nonneg q_,IntKind.wrap_i64]
   omega
 refine oO ?_
 refine iW ?_
 refine⟨by decide,?_⟩
 rw[hw]
 conv=>whnf
 refine⟨fun h=>?_,fun h=>?_⟩
 ·have h0:i=0:=by
   have:(((i-1) / 2:Nat):Int)=i:=by simpa using h
   omega
  subst h0
  have e:upF j q j=r:=by rw[← h1];rfl
  rw[e]
  refine oT ?_
  exact A1 E .nil [] [(0,.box [.osl 1]),(1,.row 3 Bj r)] (fun _ h=>h) E E ⟨Y,⟨.inl E,E,.inl E,E,Y⟩,E,E⟩
 have h0:i≠0:=by
  intro h0
  subst h0
  exact absurd h j_
 have hp:(i-1) / 2<r.length:=by omega
 have hless:=Ju r i ((i-1) / 2) h3 hp
 refine oO ?_
 refine Af (D3 [1] (Bh Γ.toTy Age F343 E E E E E) hless (.cons (.row E E) (.cons (.refl _) (.cons (.refl _) .nil))) E E) E E ?_
 refine oO ?_
 have hu:upF i r i=if B0 r[i] r[(i-1) / 2] then upF ((i-1) / 2) (Dz r ((i-1) / 2) i) ((i-1) / 2) else r:=by
  rw[Apj r i h0,Ba h3,Ba hp]
 refine⟨fun h=>?_,fun h=>?_⟩
 ·have hlt:B0 r[i] r[(i-1) / 2]=false:=by simpa using h
  have e:upF j q j=r:=by rw[← h1,hu,hlt];rfl
  rw[e]
  refine oO ?_
  exact A1 E .nil [] [(0,.box [.osl 1]),(1,.row 3 Bj r)] (fun _ h=>h) E E ⟨Y,⟨.inl E,E,.inl E,E,Y⟩,E,E⟩
 have hlt:B0 r[i] r[(i-1) / 2]=true:=by simpa using h
 rw[hlt,if_pos rfl]at hu
 have hsw:=Jt r ((i-1) / 2) i hp h3
 have e:(r.set ((i-1) / 2) r[i]).set i r[(i-1) / 2]=Dz r ((i-1) / 2) i:=by
  rw[Dz,Ba h3,Ba hp]
 rw[e]at hsw
 refine oO ?_
 refine Af (Bs [(0,1)] (Bh Γ.toTy Agd F346 E E E E E) hsw E ⟨E,Y⟩ E ⟨.inl E,Y⟩) E E ?_
 refine oO ?_
 exact Si (α:={p:List Item × Nat // upF p.2 p.1 p.2=upF j q j∧p.1.length=q.length∧p.2<p.1.length}) (L:=fun p=>[(0,.ifc 329 (.ptr 0 0)),(1,Aa p.1.2)]) (O:=fun p=>[(0,.box [.osl 1]),(1,.row 3 Bj p.1.1)]) (μ:=fun p=>p.1.2) (x:=⟨(r,i),h1,h2,h3⟩)
  ⟨(Dz r ((i-1) / 2) i,(i-1) / 2),by rw[← h1,hu],by rw[Ax];exact h2,by rw[Ax];exact hp⟩ [] (by simp only;omega)
  ⟨⟨rfl,rfl,rfl,rfl,trivial⟩,⟨.inl rfl,rfl,.inl rfl,rfl,trivial⟩,rfl,rfl⟩
theorem X5:∀ (n:Nat) (q:List Item) (j:Nat),(upF n q j).length=q.length
 | 0,q,j=>rfl
 | n+1,q,j=>by
  rw[upF]
  split
  ·rfl
  ·split
   ·rw[X5 n,Ax]
   ·rfl
def Q1 (q:List Item) (x:Item):List Item:=upF q.length (q++[x]) q.length
theorem Acb (q:List Item) (x:Item) (hl:q.length<999999) :
  Sy.Spec Tryz.prog 218 [.ifc 329 (.ptr 0 0),.ifc 334 (Bj x)] [(0,.box [.osl 1]),(1,.row 3 Bj q)] (.tup []) [(0,.box [.osl 2]),(1,.non),(2,.row 3 Bj (Q1 q x))]:=cT F218 Tryz.ntmps218 fun F hF=>by
 have hpush:=Aiz q x q_
 have hlen:=Vt (q++[x])
 have hup:=upS (q++[x]) q.length y_ (by simp;omega)
 have hln:(((q++[x]).length:Nat):Int)-1=(q.length:Int):=by simp
 conv=>whnf
 refine Af (Bs (rd:=[]) [(2,6)] (Sg mPush F345 E E) hpush E ⟨E,E,Y⟩ E ⟨.inl E,.inl E,.inr E,Y⟩) E E ?_
 refine oO ?_
 refine Af (D3 [6] (Bh Γ.toTy mLen F219 E E E E E) hlen (.cons (.row E E) .nil) E E) E E ?_
 refine oO ?_
 refine⟨by unfold I64;simp;omega,?_⟩
 rw[hln]
 conv=>whnf
 refine Af (Ad [(1,6)] E F274 hup E ⟨E,E,Y⟩ E ⟨.inl E,.inl E,Y⟩) E E ?_
 refine oO ?_
 exact A1 E .nil [(2,6)] [(0,.box [.osl 2]),(1,.non),(2,.row 3 Bj (Q1 q x))] (fun _ h=>h) E E ⟨Y,⟨.inl E,E,.inl E,E,.inl E,E,Y⟩,E,E⟩
def Du (q:List Item) (i n:Nat):Nat:=if 2 * i+2<n∧B0 (q.getD (2 * i+2) default) (q.getD (2 * i+1) default)=true then 2 * i+2 else 2 * i+1
theorem Ln (q:List Item) (i n:Nat) (h:2 * i+1<n):Du q i n<n∧i<Du q i n:=by
 unfold Du
 split<;>omega
def Dv:Nat→List Item→Nat→Nat→List Item × Nat
 | 0,q,i,_=>(q,i)
 | f+1,q,i,n=>if 2 * i+1<n then (if B0 (q.getD (Du q i n) default) (q.getD i default) then Dv f (Dz q i (Du q i n)) (Du q i n) n else (q,i)) else (q,i)
theorem S3:∀ (f g:Nat) (q:List Item) (i n:Nat),n≤f+i→n≤g+i→Dv f q i n=Dv g q i n
 | 0,g,q,i,n,h1,h2=>by
  cases g with
  | zero=>rfl
  | succ g=>rw[Dv,Dv,if_neg q_]
 | f+1,0,q,i,n,h1,h2=>by rw[Dv,Dv,if_neg q_]
 | f+1,g+1,q,i,n,h1,h2=>by
  rw[Dv,Dv]
  split
  ·rename_i h
   have:=Ln q i n h
   split
   ·exact S3 f g _ _ n q_ q_
   ·rfl
  ·rfl
theorem Akf (r:List Item) (i n:Nat):Dv (n-i) r i n=if 2 * i+1<n then (if B0 (r.getD (Du r i n) default) (r.getD i default) then Dv (n-Du r i n) (Dz r i (Du r i n)) (Du r i n) n else (r,i)) else (r,i):=by
 rw[S3 (n-i) (n-i+1) r i n q_ q_,Dv]
 split
 ·rename_i h
  have:=Ln r i n h
  split
  ·exact S3 _ _ _ _ _ q_ q_
  ·rfl
 ·rfl
theorem Ux:∀ (f:Nat) (q:List Item) (i n:Nat),(Dv f q i n).1.length=q.length
 | 0,_,_,_=>rfl
 | f+1,q,i,n=>by
  rw[Dv]
  split
  ·split
   ·rw[Ux f,Ax]
   ·rfl
  ·rfl
theorem downS (q:List Item) (i0 n:Nat) (hn:n≤q.length) (hi:i0<q.length) (hl:q.length<1000000) :
  Sy.Spec Tryz.prog 275 [.ifc 329 (.ptr 0 0),Aa i0,Aa n] [(0,.box [.osl 1]),(1,.row 3 Bj q)] (Ab (decide (((Dv (n-i0) q i0 n).2:Int)>i0))) [(0,.box [.osl 1]),(1,.row 3 Bj (Dv (n-i0) q i0 n).1)]:=cT F275 Tryz.ntmps275 fun F hF=>by
 generalize hD:Dv (n-i0) q i0 n=D
 conv=>whnf
 refine O6 (α:={p:List Item × Nat // Dv (n-p.2) p.1 p.2 n=D∧p.1.length=q.length∧p.2<p.1.length}) (fun p=>[(0,.ifc 329 (.ptr 0 0)),(1,Aa i0),(2,Aa n),(7,Aa p.1.2)]) (fun p=>[(0,.box [.osl 1]),(1,.row 3 Bj p.1.1)]) (fun p=>n-p.1.2) ⟨(q,i0),hD,E,hi⟩ []
  ⟨⟨rfl,rfl,rfl,rfl,rfl,rfl,rfl,rfl,trivial⟩,⟨.inl rfl,rfl,.inl rfl,rfl,trivial⟩,rfl,rfl⟩ ?_
 rintro ⟨⟨r,i⟩,h1,h2,h3⟩
 simp only at h1 h2 h3
 dsimp only
 have h10:=h1
 rw[Akf]at h1
 have hj1:(2:Int) * i+1=((2 * i+1:Nat):Int):=by omega
 have hj2:((2 * i+1:Nat):Int)+1=((2 * i+2:Nat):Int):=by omega
 refine oO ?_
 refine iW ?_
 refine iL ?_
 rw[hj1]
 conv=>whnf
 refine⟨fun h=>?_,fun h=>?_⟩
 ·have hge:¬ 2 * i+1<n:=qA h
  rw[if_neg hge]at h1
  rw[← h1]
  refine oT ?_
  exact done E (.cons .tmp .nil) [] [(0,.box [.osl 1]),(1,.row 3 Bj r)] (fun _ h=>h) E E ⟨Y,⟨.inl E,E,.inl E,E,Y⟩,E,E⟩
 have hlt:2 * i+1<n:=qB h
 rw[if_pos hlt]at h1
 refine oF ?_
 refine iL ?_
 rw[hj2]
 conv=>whnf
 refine⟨fun h=>?_,fun h=>?_⟩
 ·have h2n:2 * i+2<n:=qA h
  have hA:2 * i+2<r.length:=by omega
  have hB:2 * i+1<r.length:=by omega
  have hlc:=Ju r (2 * i+2) (2 * i+1) hA hB
  refine oO ?_
  refine Af (D3 [1] (Bh Γ.toTy Age F343 E E E E E) hlc (.cons (.row E E) (.cons (.refl _) (.cons (.refl _) .nil))) E E) E E ?_
  refine oO ?_
  refine⟨fun h=>?_,fun h=>?_⟩
  ·have hc:Du r i n=2 * i+2:=by rw[Du,if_pos ⟨h2n,by rw[Ba hA,Ba hB];exact h⟩]
   have hJ:=hA
   refine oO ?_
   rw[hc,Ba hJ,Ba h3]at h1
   have hls:=Ju r (2 * i+2) i hJ h3
   refine Af (D3 [1] (Bh Γ.toTy Age F343 E E E E E) hls (.cons (.row E E) (.cons (.refl _) (.cons (.refl _) .nil))) E E) E E ?_
   refine oO ?_
   refine⟨fun h=>?_,fun h=>?_⟩
   ·have hf:B0 r[2 * i+2] r[i]=false:=by simpa using h
    rw[hf]at h1
    have e:D=(r,i):=h1.symm
    rw[e]
    refine oO ?_
    exact done E (.cons .tmp .nil) [] [(0,.box [.osl 1]),(1,.row 3 Bj r)] (fun _ h=>h) E E ⟨Y,⟨.inl E,E,.inl E,E,Y⟩,E,E⟩
   have hf:B0 r[2 * i+2] r[i]=true:=by simpa using h
   rw[hf,if_pos rfl]at h1
   have hsw:=Jt r i (2 * i+2) h3 hJ
   have e:(r.set i r[2 * i+2]).set (2 * i+2) r[i]=Dz r i (2 * i+2):=by
    rw[Dz,Ba h3,Ba hJ]
   rw[e]at hsw
   refine oO ?_
   refine Af (Bs [(0,1)] (Bh Γ.toTy Agd F346 E E E E E) hsw E ⟨E,Y⟩ E ⟨.inl E,Y⟩) E E ?_
   refine oO ?_
   exact Si (α:={p:List Item × Nat // Dv (n-p.2) p.1 p.2 n=D∧p.1.length=q.length∧p.2<p.1.length}) (L:=fun p=>[(0,.ifc 329 (.ptr 0 0)),(1,Aa i0),(2,Aa n),(7,Aa p.1.2)]) (O:=fun p=>[(0,.box [.osl 1]),(1,.row 3 Bj p.1.1)]) (μ:=fun p=>n-p.1.2) (x:=⟨(r,i),h10,h2,h3⟩)
    ⟨(Dz r i (2 * i+2),2 * i+2),h1,by rw[Ax];exact h2,by rw[Ax];exact hJ⟩ [] (by simp only;omega)
    ⟨⟨rfl,rfl,rfl,rfl,rfl,rfl,rfl,rfl,trivial⟩,⟨.inl rfl,rfl,.inl rfl,rfl,trivial⟩,rfl,rfl⟩
  ·have hc:Du r i n=2 * i+1:=by rw[Du,if_neg (fun hh=>by rw[Ba hA,Ba hB,h]at hh;exact absurd hh.2 y_)]
   have hJ:=hB
   refine oO ?_
   rw[hc,Ba hJ,Ba h3]at h1
   have hls:=Ju r (2 * i+1) i hJ h3
   refine Af (D3 [1] (Bh Γ.toTy Age F343 E E E E E) hls (.cons (.row E E) (.cons (.refl _) (.cons (.refl _) .nil))) E E) E E ?_
   refine oO ?_
   refine⟨fun h=>?_,fun h=>?_⟩
   ·have hf:B0 r[2 * i+1] r[i]=false:=by simpa using h
    rw[hf]at h1
    have e:D=(r,i):=h1.symm
    rw[e]
    refine oO ?_
    exact done E (.cons .tmp .nil) [] [(0,.box [.osl 1]),(1,.row 3 Bj r)] (fun _ h=>h) E E ⟨Y,⟨.inl E,E,.inl E,E,Y⟩,E,E⟩
   have hf:B0 r[2 * i+1] r[i]=true:=by simpa using h
   rw[hf,if_pos rfl]at h1
   have hsw:=Jt r i (2 * i+1) h3 hJ
   have e:(r.set i r[2 * i+1]).set (2 * i+1) r[i]=Dz r i (2 * i+1):=by
    rw[Dz,Ba h3,Ba hJ]
   rw[e]at hsw
   refine oO ?_
   refine Af (Bs [(0,1)] (Bh Γ.toTy Agd F346 E E E E E) hsw E ⟨E,Y⟩ E ⟨.inl E,Y⟩) E E ?_
   refine oO ?_
   exact Si (α:={p:List Item × Nat // Dv (n-p.2) p.1 p.2 n=D∧p.1.length=q.length∧p.2<p.1.length}) (L:=fun p=>[(0,.ifc 329 (.ptr 0 0)),(1,Aa i0),(2,Aa n),(7,Aa p.1.2)]) (O:=fun p=>[(0,.box [.osl 1]),(1,.row 3 Bj p.1.1)]) (μ:=fun p=>n-p.1.2) (x:=⟨(r,i),h10,h2,h3⟩)
    ⟨(Dz r i (2 * i+1),2 * i+1),h1,by rw[Ax];exact h2,by rw[Ax];exact hJ⟩ [] (by simp only;omega)
    ⟨⟨rfl,rfl,rfl,rfl,rfl,rfl,rfl,rfl,trivial⟩,⟨.inl rfl,rfl,.inl rfl,rfl,trivial⟩,rfl,rfl⟩
 ·have h2n:¬ 2 * i+2<n:=qB h
  have hJ:2 * i+1<r.length:=by omega
  have hc:Du r i n=2 * i+1:=by rw[Du,if_neg (fun hh=>h2n hh.1)]
  refine oF ?_
  rw[hc,Ba hJ,Ba h3]at h1
  have hls:=Ju r (2 * i+1) i hJ h3
  refine Af (D3 [1] (Bh Γ.toTy Age F343 E E E E E) hls (.cons (.row E E) (.cons (.refl _) (.cons (.refl _) .nil))) E E) E E ?_
  refine oO ?_
  refine⟨fun h=>?_,fun h=>?_⟩
  ·have hf:B0 r[2 * i+1] r[i]=false:=by simpa using h
   rw[hf]at h1
   have e:D=(r,i):=h1.symm
   rw[e]
   refine oO ?_
   exact done E (.cons .tmp .nil) [] [(0,.box [.osl 1]),(1,.row 3 Bj r)] (fun _ h=>h) E E ⟨Y,⟨.inl E,E,.inl E,E,Y⟩,E,E⟩
  have hf:B0 r[2 * i+1] r[i]=true:=by simpa using h
  rw[hf,if_pos rfl]at h1
  have hsw:=Jt r i (2 * i+1) h3 hJ
  have e:(r.set i r[2 * i+1]).set (2 * i+1) r[i]=Dz r i (2 * i+1):=by
   rw[Dz,Ba h3,Ba hJ]
  rw[e]at hsw
  refine oO ?_
  refine Af (Bs [(0,1)] (Bh Γ.toTy Agd F346 E E E E E) hsw E ⟨E,Y⟩ E ⟨.inl E,Y⟩) E E ?_
  refine oO ?_
  exact Si (α:={p:List Item × Nat // Dv (n-p.2) p.1 p.2 n=D∧p.1.length=q.length∧p.2<p.1.length}) (L:=fun p=>[(0,.ifc 329 (.ptr 0 0)),(1,Aa i0),(2,Aa n),(7,Aa p.1.2)]) (O:=fun p=>[(0,.box [.osl 1]),(1,.row 3 Bj p.1.1)]) (μ:=fun p=>n-p.1.2) (x:=⟨(r,i),h10,h2,h3⟩)
   ⟨(Dz r i (2 * i+1),2 * i+1),h1,by rw[Ax];exact h2,by rw[Ax];exact hJ⟩ [] (by simp only;omega)
   ⟨⟨rfl,rfl,rfl,rfl,rfl,rfl,rfl,rfl,trivial⟩,⟨.inl rfl,rfl,.inl rfl,rfl,trivial⟩,rfl,rfl⟩
def C2 (q:List Item):List Item:=(Dv (q.length-1-0) (Dz q 0 (q.length-1)) 0 (q.length-1)).1
theorem D2 (q:List Item):(C2 q).length=q.length:=by rw[C2,Ux,Ax]
theorem Dx {q:List Item} (h:q≠[]):C2 q≠[]:=fun e=>h (List.eq_nil_of_length_eq_zero (by rw[← D2,e];rfl))
theorem Aro (q:List Item) (hq:q≠[]) (hl:q.length<1000000) :
  Sy.Spec Tryz.prog 220 [.ifc 329 (.ptr 0 0)] [(0,.box [.osl 1]),(1,.row 3 Bj q)] (.ifc 334 (Bj ((C2 q).getLast (Dx hq)))) [(0,.box [.osl 2]),(1,.non),(2,.row 3 Bj (C2 q).dropLast)]:=cT F220 Tryz.ntmps220 fun F hF=>by
 have h0:0<q.length:=List.length_pos_iff.2 hq
 have hlen:=Vt q
 have hsw:=Jt q 0 (q.length-1) h0 q_
 have e:(q.set 0 q[q.length-1]).set (q.length-1) q[0]=Dz q 0 (q.length-1):=by
  rw[Dz,Ba (show q.length-1<q.length by omega),Ba h0]
 rw[e]at hsw
 have hdn:=downS (Dz q 0 (q.length-1)) 0 (q.length-1) (by rw[Ax];omega) (by rw[Ax];exact h0) (by rw[Ax];exact hl)
 have hpop:=Ani (C2 q) (Dx hq) (by rw[D2];exact hl)
 have hln:(q.length:Int)-1=((q.length-1:Nat):Int):=by omega
 conv=>whnf
 refine Af (D3 [1] (Bh Γ.toTy mLen F219 E E E E E) hlen (.cons (.row E E) .nil) E E) E E ?_
 refine oO ?_
 refine iL ?_
 rw[hln]
 conv=>whnf
 refine Af (Bs [(0,1)] (Bh Γ.toTy Agd F346 E E E E E) hsw E ⟨E,Y⟩ E ⟨.inl E,Y⟩) E E ?_
 refine oO ?_
 refine Af (Ad [] E F275 hdn E ⟨E,E,Y⟩ E ⟨.inl E,.inl E,Y⟩) E E ?_
 refine oO ?_
 refine Af (Bs (rd:=[]) [(2,14)] (Sg mPop F344 E E) hpop E ⟨E,E,Y⟩ E ⟨.inl E,.inl E,.inr E,Y⟩) E E ?_
 refine oO ?_
 exact done E (.cons .tmp .nil) [(2,14)] [(0,.box [.osl 2]),(1,.non),(2,.row 3 Bj (C2 q).dropLast)] (fun _ h=>h) E E ⟨Y,⟨.inl E,E,.inl E,E,.inl E,E,Y⟩,E,E⟩
end Go.Sy.YtcflgpijohhfbaaGreat
namespace Go.Sy.YtcflgpijohhfbaaGreat
open Go.Proofs
attribute [local irreducible] Go.Sy.G Go.Sy.DR
set_option maxRecDepth 20000
set_option maxHeartbeats 4000000
def Ds:Vec→List Vec→Vec
 | v,[]=>v
 | v,x::l=>Ds (if Ab0 x v then x else v) l
def zeroV:Vec:=⟨0,0,0,0,0⟩
def L5:List Vec→Vec × Bool
 | []=>(zeroV,false)
 | v::l=>(Ds v (v::l),true)
theorem Y6:∀ (v:Vec) (l:List Vec),Ds v l=v∨Ds v l∈l
 | v,[]=>.inl rfl
 | v,x::l=>by
  rw[Ds]
  rcases Y6 (if Ab0 x v then x else v) l with h | h
  ·rw[h]
   split
   ·exact .inr y_
   ·exact .inl E
  ·exact .inr (by simp[h])
theorem Agp (v:Vec) (l:List Vec) (j:Nat) (h:j<l.length):Ds v (l.take (j+1))=(if Ab0 l[j] (Ds v (l.take j)) then l[j] else Ds v (l.take j)):=by
 have key:∀ (a b:List Vec) (v:Vec),Ds v (a++b)=Ds (Ds v a) b:=by
  intro a
  induction a with
  | nil=>intro b v;rfl
  | cons x a ih=>intro b v;rw[List.cons_append,Ds,Ds,ih]
 rw[List.take_succ_eq_append_getElem h,key]
 rfl
theorem leastS (l:List Vec) (hl:Ak l):Sy.Spec Tryz.prog 221 [.sl 5 Mz l] [] (.tup [Mz (L5 l).1,Ab (L5 l).2]) []:=cT F221 Tryz.ntmps221 fun F hF=>by
 unfold Ak at hl
 have hR:∀ h:0<l.length,L5 l=(Ds l[0] l,true):=fun h=>by
  cases l with
  | nil=>simp at h
  | cons v t=>rfl
 conv=>whnf
 refine⟨fun h=>?_,fun h=>?_⟩
 ·have:l=[]:=List.eq_nil_of_length_eq_zero (by have:(l.length:Int)=0:=(by simpa using h);omega)
  subst this
  refine oO ?_
  exact done E (.cons (.cell E E E E) (.cons .tmp .nil)) [] [] (fun _ h=>h) E E ⟨Y,Y,E,E⟩
 have h0:0<l.length:=by
  have:¬ (l.length:Int)=0:=by simpa using h
  omega
 rw[hR h0]
 refine oO ?_
 refine⟨E,by decide,h0,?_⟩
 conv=>whnf
 have e0:l[(0:Int).toNat]'(h0)=l[0]:=rfl
 generalize hv:l[0]=v at *
 refine A3 l.length (fun j=>[(0,.sl 5 Mz l),(2,.ptr 2 0),(4,.ptr 4 0),(14,.sl 5 Mz l),(15,Aa l.length),(16,Aa j)]) (fun j=>[(2,.box [Aa 0,Aa 0,Aa 0,Aa 0,Aa 0]),(4,.box [Aa (Ds v (l.take j)).root,Aa (Ds v (l.take j)).cost,Aa (Ds v (l.take j)).bridge,Aa (Ds v (l.take j)).port,Aa (Ds v (l.take j)).own])]) []
  ⟨⟨rfl,rfl,rfl,rfl,rfl,rfl,rfl,rfl,rfl,rfl,rfl,rfl,trivial⟩,⟨.inl rfl,rfl,.inl (by subst hv;rfl),rfl,trivial⟩,rfl,rfl⟩ ?_
 intro j hj
 refine oO ?_
 refine⟨fun h=>?_,fun h=>?_⟩
 ·have hlt:j<l.length:=by simpa using h
  have hdrop:=Agp v l j hlt
  generalize hx:l[j]=x at hdrop
  have hx':l[(j:Int).toNat]'q_=x:=hx
  generalize hmn:Ds v (l.take j)=m at hdrop
  refine oO ?_
  refine⟨E,by omega,by omega,?_⟩
  rw[hx']
  conv=>whnf
  refine c0 (lessS x m) F276 ?_
  refine oO ?_
  refine⟨fun h2=>?_,fun h2=>?_⟩
  ·rw[h2,if_pos rfl]at hdrop
   refine oO ?_
   refine iW ?_
   exact Av [] hlt ⟨⟨E,E,E,E,E,E,E,E,E,E,E,E,Y⟩,⟨.inl E,E,.inl (by rw[hdrop];rfl),E,Y⟩,E,E⟩
  ·rw[h2]at hdrop
   refine oO ?_
   refine iW ?_
   exact Av [] hlt ⟨⟨E,E,E,E,E,E,E,E,E,E,E,E,Y⟩,⟨.inl E,E,.inl (by rw[hdrop];rfl),E,Y⟩,E,E⟩
 ·have hjl:¬ j<l.length:=by simpa using h
  rw[List.take_of_length_le q_]
  refine oO ?_
  exact done E (.cons (.cell E E E E) (.cons .tmp .nil)) [] [] (fun _ h=>h) E E ⟨Y,Y,E,E⟩
theorem leastR_mem {l:List Vec} (h:(L5 l).2=true):(L5 l).1∈l:=by
 cases l with
 | nil=>cases h
 | cons v t =>
  rcases Y6 v (v::t) with h | h
  ·show Ds v (v::t)∈v::t
   rw[h];simp
  ·exact h
theorem Wl (n:Net):∀ x∈D0 n,0≤x∧x<n.devices.length:=fun x hx=>by
 rw[Aft,Lb]at hx
 obtain ⟨i,hi,rfl⟩:=List.mem_map.1 hx
 have hi:=List.mem_range.1 hi
 have h1:=List.countP_le_length (p:=fun k=>Co n (k:Nat) i) (l:=List.range n.devices.length)
 rw[List.length_range]at h1
 have h2:(List.range n.devices.length).countP (fun k=>Co n (k:Nat) i)≠n.devices.length:=fun e=>by
  have:=List.countP_eq_length.1 (e.trans List.length_range.symm) i (List.mem_range.2 hi)
  rw[Mj]at this
  cases this
 omega
theorem Kt (n:Net):(D0 n).length=n.devices.length:=by rw[Aft,Lb];simp
end Go.Sy.YtcflgpijohhfbaaGreat
namespace Go.Sy.YtcflgpijohhfbaaGreat
open Go.Proofs
attribute [local irreducible] Go.Sy.G Go.Sy.DR
set_option maxRecDepth 100000
set_option maxHeartbeats 4000000
def Qw (n:Net) (up:List Bool) (ranks:List Int) (x y:SV):List SV:=[.sl 5 Aq n.devices,.sl 7 Au n.ports,.sl 3 Bl n.links,.sl 6 An n.domains,.sl 4 As n.statics,.sl 4 A0 n.floods,.sl 5 Bv n.vrfs,.sl 5 Br n.irbs,.sl 1 Ab up,.sl 1 Aa ranks,x,y]
def Df (n:Net) (up:List Bool) (i:Nat):Int :=
 let p:=n.ports.getD i default
 if p.link<0 || !(up.getD p.link.toNat false) then -1 else (nth n.links p.link).a+(nth n.links p.link).b-i
theorem farS (n:Net) (up:List Bool) (ranks:List Int) (x y:SV) (_hx:(x.boxed && x.data && y.boxed && y.data && Nat.beq (cellsOf x).length 1 && Nat.beq (cellsOf y).length 1)=true) (i:Nat) (hr:Ac n=true) (hu:up.length=n.links.length) (hi:i<n.ports.length) :
  Sy.Spec Tryz.prog 154 [.ref 12 (.agg (Qw n up ranks x y)) 0,Aa i] [] (Aa (Df n up i)) []:=cT F154 Tryz.ntmps154 fun F hF=>by
 have hpl:=Qb hr hi
 have hf:=Ee hr
 have e1:n.ports[(i:Int).toNat]'q_=n.ports[i]:=rfl
 have hfar:Df n up i=if n.ports[i].link<0 || !(up.getD n.ports[i].link.toNat false) then -1 else (nth n.links n.ports[i].link).a+(nth n.links n.ports[i].link).b-i:=by
  rw[Df,Ba hi]
 generalize hp:n.ports[i]=p at *
 have hle:=fun h=>Lf hr (i:=p.link.toNat) h
 conv=>whnf
 refine⟨E,by omega,by omega,?_⟩
 rw[e1]
 conv=>whnf
 (repeat' (first | (refine⟨fun h=>?_,fun h=>?_⟩<;>(repeat (first | simp only[decide_eq_true_eq]at h | simp only[decide_eq_false_iff_not]at h | simp only[Bool.not_eq_true']at h | simp only[Bool.not_eq_false']at h))<;>((first|refine rg ?_|refine rd z_ ?_);(conv=>whnf))) | (refine Ap rfl (.cons .tmp .nil) ?_ rfl) | (refine⟨z_,?_⟩;((conv=>whnf);repeat((refine aT ?_);(refine oO ?_)))) | (refine⟨by (first | omega | ((have hq:=hle q_;unfold I64;omega))),by (first | omega | ((have hq:=hle q_;unfold I64;omega))),?_⟩;((conv=>whnf)))))
 all_goals (refine congrArg Aa ?_;rw[hfar])
 ·simp_all
 ·have h1:up.getD p.link.toNat false=false:=by rw[Ba q_];assumption
  rw[h1];simp
 ·have h1:up.getD p.link.toNat false=true:=by rw[Ba q_];assumption
  rw[h1,Ae q_]
  simp_all
def M2 (n:Net) (up:List Bool) (ranks roots costs:List Int):SV:=.ref 12 (.agg (Qw n up ranks (.sl 1 Aa roots) (.sl 1 Aa costs))) 0
def K6 (n:Net) (ranks costs:List Int) (i k:Nat):Bool :=
 let a:=(n.ports.getD i default).dev
 let b:=(n.ports.getD k default).dev
 decide (nth costs a<nth costs b) || (nth costs a == nth costs b && decide (nth ranks a<nth ranks b))
theorem Ail (n:Net) (up:List Bool) (ranks roots costs:List Int) (i k:Nat) (hr:Ac n=true) (hrk:ranks.length=n.devices.length) (hc:costs.length=n.devices.length) (hi:i<n.ports.length) (hk:k<n.ports.length) :
  Sy.Spec Tryz.prog 155 [M2 n up ranks roots costs,Aa i,Aa k] [] (Ab (K6 n ranks costs i k)) []:=cT F155 Tryz.ntmps155 fun F hF=>by
 have hd1:=M8 hr hi
 have hd2:=M8 hr hk
 have e1:n.ports[(i:Int).toNat]'q_=n.ports[i]:=rfl
 have e2:n.ports[(k:Int).toNat]'q_=n.ports[k]:=rfl
 have hres:K6 n ranks costs i k=(decide (nth costs n.ports[i].dev<nth costs n.ports[k].dev) || (nth costs n.ports[i].dev == nth costs n.ports[k].dev && decide (nth ranks n.ports[i].dev<nth ranks n.ports[k].dev))):=by
  rw[K6,Ba hi,Ba hk]
 rw[Ae q_,Ae q_,Ae q_,Ae q_]at hres
 conv=>whnf
 (repeat' (first | (refine⟨fun h=>?_,fun h=>?_⟩<;>(repeat (first | simp only[decide_eq_true_eq]at h | simp only[decide_eq_false_iff_not]at h | simp only[beq_iff_eq]at h | simp only[beq_eq_false_iff_ne]at h))<;>((refine rd z_ ?_);(conv=>whnf))) | (refine Ap rfl (.cons .tmp .nil) ?_ rfl) | (refine⟨z_,?_⟩;((conv=>whnf))) | (refine⟨by (first | omega | (simp only[Int.toNat_natCast];omega)),by (first | omega | (simp only[Int.toNat_natCast];omega)),?_⟩;((conv=>whnf)))))
 all_goals (refine congrArg Ab ?_;rw[hres];clear hF hres hr;simp only[Int.toNat_natCast]at *;grind)
theorem Zt {n:Net} {up:List Bool} (h:Ac n=true) {i:Nat} (hi:i<n.ports.length) (hf:0≤Df n up i):Df n up i<n.ports.length:=by
 have hp:=Lw h hi
 have hpl:=Qb h hi
 simp only[I7,Bool.and_eq_true,Bool.or_eq_true,beq_iff_eq]at hp
 have hp:=hp.2
 unfold Df at *
 rw[Ba hi]at *
 simp only at *
 split at hf
 ·omega
 ·rename_i hc
  rw[if_neg hc]
  simp only[Bool.or_eq_true,decide_eq_true_eq,not_or]at hc
  rcases hp with hp | hp
  ·omega
  ·have hl:n.ports[i].link.toNat<n.links.length:=by omega
   have he:=Lf h hl
   rw[Ae hl]at *
   omega
def Aaa (n:Net) (up:List Bool) (ranks roots costs:List Int) (dev:Int) (i:Nat):Option Vec :=
 let p:=n.ports.getD i default
 let far:=Df n up i
 let there:=(nth n.ports far).dev
 if p.dev == dev && decide (0≤far) then some ⟨nth roots there,nth costs there+p.cost,nth ranks there,far,i⟩ else none
def Lo (n:Net) (up:List Bool) (ranks roots costs:List Int) (dev:Int) (j:Nat):List Vec:=(List.range j).filterMap (Aaa n up ranks roots costs dev)
theorem Akp (n:Net) (up:List Bool) (ranks roots costs:List Int) (dev:Int) (j:Nat):Lo n up ranks roots costs dev (j+1)=Lo n up ranks roots costs dev j++(Aaa n up ranks roots costs dev j).toList:=by
 rw[Lo,List.range_succ,List.filterMap_append]
 cases h:Aaa n up ranks roots costs dev j<;>simp[Lo,h]
theorem U5 (n:Net) (up:List Bool) (ranks roots costs:List Int) (dev:Int) (j:Nat):(Lo n up ranks roots costs dev j).length≤j:=by
 have:=List.length_filterMap_le (Aaa n up ranks roots costs dev) (List.range j)
 simpa [Lo] using this
def Sh (n:Net) (up:List Bool) (ranks roots costs:List Int) (dev:Int):Int :=
 let r:=L5 (Lo n up ranks roots costs dev n.ports.length)
 if !r.2 || nth roots dev == nth ranks dev then -1 else r.1.own
theorem bestS (n:Net) (up:List Bool) (ranks roots costs:List Int) (dev:Int) (hr:Ac n=true) (hu:up.length=n.links.length) (hcost:Dg n=true) (hrk:ranks.length=n.devices.length) (hro:roots.length=n.devices.length) (hc:costs.length=n.devices.length)
  (hb:∀ c∈costs,0≤c∧c<1000000000) (hd:0≤dev∧dev<n.devices.length) :
  Sy.Spec Tryz.prog 156 [M2 n up ranks roots costs,Aa dev] [] (Aa (Sh n up ranks roots costs dev)) []:=cT F156 Tryz.ntmps156 fun F hF=>by
 have hf:=Ee hr
 conv=>whnf
 refine Cc 5 1000 5 Mz E E ?_
 refine A3 n.ports.length (fun j=>[(0,M2 n up ranks roots costs),(1,Aa dev),(5,.osl 1000),(16,.sl 7 Au n.ports),(17,Aa n.ports.length),(18,Aa j)]) (fun j=>[(1000,.row 5 Mz (Lo n up ranks roots costs dev j))]) []
  ⟨⟨rfl,rfl,rfl,rfl,rfl,rfl,rfl,rfl,rfl,rfl,rfl,rfl,trivial⟩,⟨.inl rfl,rfl,trivial⟩,rfl,rfl⟩ ?_
 intro j hj
 refine oO ?_
 refine⟨fun h=>?_,fun h=>?_⟩
 ·have hlt:j<n.ports.length:=by simpa using h
  have e1:n.ports[(j:Int).toNat]'q_=n.ports[j]:=rfl
  have hfar:=farS n up ranks (.sl 1 Aa roots) (.sl 1 Aa costs) rfl j hr hu hlt
  have hfl:=Zt (up:=up) hr hlt
  have hsucc:=Akp n up ranks roots costs dev j
  have hbl:=U5 n up ranks roots costs dev j
  have hcand:Aaa n up ranks roots costs dev j=if n.ports[j].dev == dev && decide (0≤Df n up j) then some ⟨nth roots (nth n.ports (Df n up j)).dev,nth costs (nth n.ports (Df n up j)).dev+n.ports[j].cost,nth ranks (nth n.ports (Df n up j)).dev,Df n up j,j⟩ else none:=by
   rw[Aaa,Ba hlt]
  generalize Df n up j=k at *
  have hpc:1≤n.ports[j].cost∧n.ports[j].cost≤65535:=by
   simp only[Dg,Bool.not_eq_true',List.any_eq_false]at hcost
   have:=hcost _ (List.getElem_mem hlt)
   simp only[Kn,Bool.or_eq_true,decide_eq_true_eq,not_or]at this
   omega
  obtain ⟨p,hp⟩:∃ p,n.ports[j]=p:=⟨_,rfl⟩
  rw[hp]at e1 hcand hpc
  refine oO ?_
  refine⟨E,by omega,by omega,?_⟩
  rw[e1]
  conv=>whnf
  refine c0 hfar F154 ?_
  refine oO ?_
  refine⟨fun h=>?_,fun h=>?_⟩
  ·refine oO ?_
   refine⟨fun h2=>?_,fun h2=>?_⟩
   ·have hk0:0≤k:=of_decide_eq_true h2
    have hk1:=hfl hk0
    rw[if_pos (by simp only[Bool.and_eq_true,decide_eq_true_eq];exact⟨h,hk0⟩),Ae (l:=n.ports) (i:=k) q_]at hcand
    have hpd:=M8 hr (i:=k.toNat) q_
    obtain ⟨q,hq⟩:∃ q,n.ports[k.toNat]'q_=q:=⟨_,rfl⟩
    rw[hq]at hcand hpd
    have hcb:=hb (costs[q.dev.toNat]'q_) (List.getElem_mem _)
    rw[Ae (l:=roots) (i:=q.dev) q_,Ae (l:=costs) (i:=q.dev) q_,Ae (l:=ranks) (i:=q.dev) q_]at hcand
    refine oO ?_
    refine⟨E,hk0,by omega,?_⟩
    rw[hq]
    conv=>whnf
    refine⟨z_,?_⟩
    refine⟨by omega,by omega,?_⟩
    conv=>whnf
    refine⟨z_,?_⟩
    refine⟨by omega,by omega,?_⟩
    conv=>whnf
    refine iW ?_
    refine⟨z_,?_⟩
    refine⟨by omega,by omega,?_⟩
    conv=>whnf
    refine Bm (Ag Γ.toTy 72 E E E E E (.row E) (.lit (l:=[(⟨roots[q.dev.toNat]'q_,costs[q.dev.toNat]'q_+p.cost,ranks[q.dev.toNat]'q_,k,j⟩:Vec)]) E E) y_ (by simp;omega) (by simp;omega)) z_ E ?_
    refine oD ?_
    refine kW ?_
    refine iW ?_
    refine Av [(1000,72)] hlt ⟨⟨E,E,E,E,E,E,E,E,E,E,E,E,Y⟩,⟨.inl (congrArg (Ob.row 5 Mz) ?_),E,Y⟩,E,E⟩
    rw[hsucc,hcand]
    rfl
   ·have hk0:¬ 0≤k:=of_decide_eq_false h2
    rw[if_neg (by simp only[Bool.and_eq_true,decide_eq_true_eq];exact fun hh=>hk0 hh.2)]at hcand
    refine oO ?_
    refine iW ?_
    refine Av [] hlt ⟨⟨E,E,E,E,E,E,E,E,E,E,E,E,Y⟩,⟨.inl (congrArg (Ob.row 5 Mz) ?_),E,Y⟩,E,E⟩
    rw[hsucc,hcand]
    simp
  ·rw[if_neg (by rw[h];simp)]at hcand
   refine oF ?_
   refine iW ?_
   refine Av [] hlt ⟨⟨E,E,E,E,E,E,E,E,E,E,E,E,Y⟩,⟨.inl (congrArg (Ob.row 5 Mz) ?_),E,Y⟩,E,E⟩
   rw[hsucc,hcand]
   simp
 ·have hjl:j=n.ports.length:=by
   have:¬ j<n.ports.length:=by simpa using h
   omega
  subst hjl
  have hbl:=U5 n up ranks roots costs dev n.ports.length
  have hbi:Sh n up ranks roots costs dev=if !(L5 (Lo n up ranks roots costs dev n.ports.length)).2 || nth roots dev == nth ranks dev then -1 else (L5 (Lo n up ranks roots costs dev n.ports.length)).1.own:=rfl
  rw[Ae q_,Ae q_]at hbi
  have hls:=leastS (Lo n up ranks roots costs dev n.ports.length) (by unfold Ak;omega)
  generalize L5 (Lo n up ranks roots costs dev n.ports.length)=r at hls hbi
  obtain ⟨v,ok⟩:=r
  simp only at hls hbi
  rw[hbi]
  refine oO ?_
  refine Ah 1000 E ?_
  refine c0 hls F221 ?_
  refine oO ?_
  (repeat' (first | (refine⟨fun h=>?_,fun h=>?_⟩<;>(repeat (first | simp only[beq_iff_eq]at h | simp only[beq_eq_false_iff_ne]at h | simp only[Bool.not_eq_true']at h | simp only[Bool.not_eq_false']at h))<;>((first|refine rg ?_|refine rd z_ ?_);(conv=>whnf))) | (refine Ap rfl (.cons .tmp .nil) ?_ rfl) | (refine⟨z_,?_⟩;((conv=>whnf);repeat((refine aT ?_);(refine oO ?_)))) | (refine⟨by (omega),by (omega),?_⟩;((conv=>whnf)))))
  all_goals (refine congrArg Aa ?_;clear hF hls hbi;grind)
theorem best_lt {n:Net} {up:List Bool} {ranks roots costs:List Int} {dev:Int} (h:0≤Sh n up ranks roots costs dev):Sh n up ranks roots costs dev<n.ports.length:=by
 have hmem:=@leastR_mem (Lo n up ranks roots costs dev n.ports.length)
 unfold Sh at *
 simp only at *
 split at h
 ·omega
 ·rename_i hc
  rw[if_neg hc]
  simp only[Bool.or_eq_true,Bool.not_eq_true',not_or]at hc
  have h2:=hmem (by simpa using hc.1)
  obtain ⟨i,hi,he⟩:=List.mem_filterMap.1 h2
  have hi:=List.mem_range.1 hi
  unfold Aaa at he
  simp only at he
  split at he
  ·have e:=congrArg Vec.own (Option.some.inj he)
   simp only at e
   omega
  ·cases he
def Ald (n:Net) (up:List Bool) (ranks costs:List Int) (i:Nat):Int :=
 if Df n up i<0 then 0 else if K6 n ranks costs i (Df n up i).toNat then 2 else 3
def Ic (n:Net) (up:List Bool) (ranks costs:List Int) (j:Nat):List Int:=(List.range n.ports.length).map fun i=>if i<j then Ald n up ranks costs i else 0
theorem Qy (n:Net) (up:List Bool) (ranks costs:List Int) (j:Nat):(Ic n up ranks costs j).length=n.ports.length:=by simp[Ic]
theorem Afi (n:Net) (up:List Bool) (ranks costs:List Int):Ic n up ranks costs 0=List.replicate n.ports.length 0:=by
 rw[Ic]
 exact List.ext_getElem y_ y_
theorem Afj (n:Net) (up:List Bool) (ranks costs:List Int) (j:Nat) (hj:j<n.ports.length):Ic n up ranks costs (j+1)=(Ic n up ranks costs j).set j (Ald n up ranks costs j):=by
 refine List.ext_getElem (by simp[Ic]) (fun i h1 h2=>?_)
 rw[List.getElem_set]
 simp only[Ic,List.getElem_map,List.getElem_range]
 rcases Nat.lt_trichotomy i j with h | h | h
 ·rw[if_pos q_,if_neg q_,if_pos h]
 ·subst h;rw[if_pos q_,if_pos rfl]
 ·rw[if_neg q_,if_neg q_,if_neg q_]
theorem Afk (n:Net) (up:List Bool) (ranks costs:List Int) (j:Nat) (h:Ald n up ranks costs j=0):Ic n up ranks costs (j+1)=Ic n up ranks costs j:=by
 simp only[Ic]
 refine List.map_congr_left (fun i _=>?_)
 by_cases hij:i<j
 ·rw[if_pos q_,if_pos hij]
 ·by_cases he:i=j
  ·subst he;rw[if_pos q_,if_neg hij,h]
  ·rw[if_neg q_,if_neg hij]
def Kr (n:Net) (up:List Bool) (ranks roots costs:List Int):Nat→List Int
 | 0=>Ic n up ranks costs n.ports.length
 | d+1=>if 0≤Sh n up ranks roots costs d then (Kr n up ranks roots costs d).set (Sh n up ranks roots costs d).toNat 1 else Kr n up ranks roots costs d
theorem Ik (n:Net) (up:List Bool) (ranks roots costs:List Int):∀ d,(Kr n up ranks roots costs d).length=n.ports.length
 | 0=>Qy n up ranks costs _
 | d+1=>by
  rw[Kr]
  split
  ·rw[List.length_set,Ik]
  ·rw[Ik]
theorem rolesS (n:Net) (up:List Bool) (ranks roots costs:List Int) (hr:Ac n=true) (hu:up.length=n.links.length) (hcost:Dg n=true) (hrk:ranks.length=n.devices.length) (hro:roots.length=n.devices.length) (hc:costs.length=n.devices.length)
  (hb:∀ c∈costs,0≤c∧c<1000000000) :
  Sy.Spec Tryz.prog 94 [M2 n up ranks roots costs] [] (.sl 1 Aa (Kr n up ranks roots costs n.devices.length)) []:=cT F94 Tryz.ntmps94 fun F hF=>by
 have hf:=Ee hr
 conv=>whnf
 refine Af (Bp Γ.toTy (d:=14) (n:=n.ports.length) Aa 0 E E E E E E E E q_ q_ E E E) E E ?_
 rw[← Afi n up ranks costs]
 refine oO ?_
 refine A3 n.ports.length (fun j=>[(0,M2 n up ranks roots costs),(3,.osl 14),(20,Aa n.ports.length),(21,Aa j)]) (fun j=>[(14,.row 1 Aa (Ic n up ranks costs j))]) []
  ⟨⟨rfl,rfl,rfl,rfl,rfl,rfl,rfl,rfl,trivial⟩,⟨.inl rfl,rfl,trivial⟩,rfl,rfl⟩ ?_
 intro j hj
 refine oO ?_
 refine⟨fun h=>?_,fun h=>?_⟩
 ·have hlt:j<n.ports.length:=by simpa using h
  have hfar:=farS n up ranks (.sl 1 Aa roots) (.sl 1 Aa costs) rfl j hr hu hlt
  have hfl:=Zt (up:=up) hr hlt
  have hlen:=Qy n up ranks costs j
  have hrole:Ald n up ranks costs j=if Df n up j<0 then 0 else if K6 n ranks costs j (Df n up j).toNat then 2 else 3:=rfl
  have hsucc:=Afj n up ranks costs j hlt
  have hsame:=Afk n up ranks costs j
  generalize Df n up j=k at *
  refine oO ?_
  refine c0 hfar F154 ?_
  refine oO ?_
  refine⟨fun h=>?_,fun h=>?_⟩
  ·have hk:k<0:=of_decide_eq_true h
   rw[if_pos hk]at hrole
   refine oO ?_
   refine iW ?_
   exact Av [] hlt ⟨⟨E,E,E,E,E,E,E,E,Y⟩,⟨.inl (congrArg (Ob.row 1 Aa) (hsame hrole)),E,Y⟩,E,E⟩
  have hk:¬ k<0:=of_decide_eq_false h
  rw[if_neg hk]at hrole
  obtain ⟨m,rfl⟩:∃ m:Nat,k=m:=⟨k.toNat,by omega⟩
  have hah:=Ail n up ranks roots costs j m hr hrk hc hlt q_
  rw[Int.toNat_natCast]at hrole
  refine oO ?_
  refine c0 hah F155 ?_
  refine oO ?_
  refine⟨fun h=>?_,fun h=>?_⟩
  ·rw[h,if_pos rfl]at hrole
   rw[hrole]at hsucc
   refine oO ?_
   refine⟨by omega,by omega,?_⟩
   conv=>whnf
   refine⟨E,by omega,2,E,E,?_⟩
   conv=>whnf
   refine iW ?_
   exact Av [] hlt ⟨⟨E,E,E,E,E,E,E,E,Y⟩,⟨.inl (congrArg (Ob.row 1 Aa) hsucc),E,Y⟩,E,E⟩
  ·rw[h]at hrole
   simp only[Bool.false_eq_true,if_false]at hrole
   rw[hrole]at hsucc
   refine oO ?_
   refine⟨by omega,by omega,?_⟩
   conv=>whnf
   refine⟨E,by omega,3,E,E,?_⟩
   conv=>whnf
   refine iW ?_
   exact Av [] hlt ⟨⟨E,E,E,E,E,E,E,E,Y⟩,⟨.inl (congrArg (Ob.row 1 Aa) hsucc),E,Y⟩,E,E⟩
 have hjl:j=n.ports.length:=by
  have:¬ j<n.ports.length:=by simpa using h
  omega
 subst hjl
 refine oO ?_
 refine A3 n.devices.length (fun d=>[(0,M2 n up ranks roots costs),(3,.osl 14),(47,Aa n.devices.length),(48,Aa d)]) (fun d=>[(14,.row 1 Aa (Kr n up ranks roots costs d))]) []
  ⟨⟨rfl,rfl,rfl,rfl,rfl,rfl,rfl,rfl,trivial⟩,⟨.inl rfl,rfl,trivial⟩,rfl,rfl⟩ ?_
 clear hj h
 intro d hdle
 refine oO ?_
 refine⟨fun h=>?_,fun h=>?_⟩
 ·have hlt:d<n.devices.length:=by simpa using h
  have hbs:=bestS n up ranks roots costs d hr hu hcost hrk hro hc hb q_
  have hbl:=@best_lt n up ranks roots costs d
  have hlen:=Ik n up ranks roots costs d
  have hsucc:Kr n up ranks roots costs (d+1)=if 0≤Sh n up ranks roots costs d then (Kr n up ranks roots costs d).set (Sh n up ranks roots costs d).toNat 1 else Kr n up ranks roots costs d:=rfl
  generalize Sh n up ranks roots costs d=k at *
  refine oO ?_
  refine c0 hbs F156 ?_
  refine oO ?_
  refine⟨fun h=>?_,fun h=>?_⟩
  ·have hk:0≤k:=of_decide_eq_true h
   rw[if_pos hk]at hsucc
   refine oO ?_
   refine⟨hk,by omega,?_⟩
   conv=>whnf
   refine⟨E,by omega,1,E,E,?_⟩
   conv=>whnf
   refine iW ?_
   exact Av [] hlt ⟨⟨E,E,E,E,E,E,E,E,Y⟩,⟨.inl (congrArg (Ob.row 1 Aa) hsucc),E,Y⟩,E,E⟩
  ·have hk:¬ 0≤k:=of_decide_eq_false h
   rw[if_neg hk]at hsucc
   refine oO ?_
   refine iW ?_
   exact Av [] hlt ⟨⟨E,E,E,E,E,E,E,E,Y⟩,⟨.inl (congrArg (Ob.row 1 Aa) hsucc),E,Y⟩,E,E⟩
 have hdl:d=n.devices.length:=by
  have:¬ d<n.devices.length:=by simpa using h
  omega
 subst hdl
 refine oO ?_
 refine Ah 14 E ?_
 exact dN
def Abp (n:Net) (up:List Bool) (ranks:List Int) (roots costs:List Int):Obs:=[(0,.box (Qw n up ranks (.osl 1) (.osl 2))),(1,.row 1 Aa roots),(2,.row 1 Aa costs)]
theorem farR (n:Net) (up:List Bool) (ranks roots costs:List Int) (i:Nat) (hr:Ac n=true) (hu:up.length=n.links.length) (hi:i<n.ports.length) :
  Sy.Spec Tryz.prog 154 [.ptr 0 0,Aa i] (Abp n up ranks roots costs) (Aa (Df n up i)) (Abp n up ranks roots costs):=cT F154 Tryz.ntmps154 fun F hF=>by
 have hpl:=Qb hr hi
 have hf:=Ee hr
 have e1:n.ports[(i:Int).toNat]'q_=n.ports[i]:=rfl
 have hfar:Df n up i=if n.ports[i].link<0 || !(up.getD n.ports[i].link.toNat false) then -1 else (nth n.links n.ports[i].link).a+(nth n.links n.ports[i].link).b-i:=by
  rw[Df,Ba hi]
 generalize hp:n.ports[i]=p at *
 have hle:=fun h=>Lf hr (i:=p.link.toNat) h
 conv=>whnf
 refine⟨E,by omega,by omega,?_⟩
 rw[e1]
 conv=>whnf
 (repeat' (first | (refine⟨fun h=>?_,fun h=>?_⟩<;>(repeat (first | simp only[decide_eq_true_eq]at h | simp only[decide_eq_false_iff_not]at h | simp only[Bool.not_eq_true']at h | simp only[Bool.not_eq_false']at h))<;>((first|refine rg ?_|refine rd z_ ?_);(conv=>whnf))) | (refine⟨z_,?_⟩;((conv=>whnf);repeat((refine aT ?_);(refine oO ?_)))) | (refine⟨by (first | omega | ((have hq:=hle q_;unfold I64;omega))),by (first | omega | ((have hq:=hle q_;unfold I64;omega))),?_⟩;((conv=>whnf))) | refine done rfl (.cons .tmp .nil) [] (Abp n up ranks roots costs) (fun _ h=>h) ?_ rfl ⟨trivial,⟨.inl rfl,rfl,.inl rfl,rfl,.inl rfl,rfl,trivial⟩,rfl,rfl⟩))
 all_goals (refine congrArg Aa ?_;rw[hfar])
 ·simp_all
 ·have h1:up.getD p.link.toNat false=false:=by rw[Ba q_];assumption
  rw[h1];simp
 ·have h1:up.getD p.link.toNat false=true:=by rw[Ba q_];assumption
  rw[h1,Ae q_]
  simp_all
def C9 (n:Net) (up:List Bool) (x:Item) (q:List Item) (i:Nat):List Item :=
 if (n.ports.getD i default).dev=x.dev∧0≤Df n up i then Q1 q ⟨x.root,x.cost+(nth n.ports (Df n up i)).cost,(nth n.ports (Df n up i)).dev⟩ else q
def Lx (n:Net) (up:List Bool) (s:List Item × List Int × List Int):List Item × List Int × List Int :=
 let x:=(C2 s.1).getLast?.getD default
 let q:=(C2 s.1).dropLast
 if 0≤nth s.2.1 x.dev then (q,s.2) else ((List.range n.ports.length).foldl (C9 n up x) q,s.2.1.set x.dev.toNat x.root,s.2.2.set x.dev.toNat x.cost)
def E3 (n:Net) (up:List Bool):Nat→List Item × List Int × List Int→List Item × List Int × List Int
 | 0,s=>s
 | f+1,s=>if s.1=[] then s else E3 n up f (Lx n up s)
end Go.Sy.YtcflgpijohhfbaaGreat
namespace Go.Sy.YtcflgpijohhfbaaGreat
theorem Sm (q:List Item) (i j:Nat) (hi:i<q.length) (hj:j<q.length):(Dz q i j).Perm q:=by
 rw[Dz,Ba hi,Ba hj]
 exact List.set_set_perm hi hj
theorem Aev:∀ (f:Nat) (q:List Item) (j:Nat),j<q.length→(upF f q j).Perm q
 | 0,_,_,_=>.refl _
 | f+1,q,j,hj=>by
  rw[upF]
  split
  ·exact .refl _
  ·split
   ·exact(Aev f _ _ (by rw[Ax];omega)).trans (Sm q _ _ q_ hj)
   ·exact .refl _
theorem Zz:∀ (f:Nat) (q:List Item) (i n:Nat),i<q.length→n≤q.length→(Dv f q i n).1.Perm q
 | 0,_,_,_,_,_=>.refl _
 | f+1,q,i,n,hi,hn=>by
  rw[Dv]
  split
  ·rename_i h
   have hc:=Ln q i n h
   split
   ·exact(Zz f _ _ n (by rw[Ax];omega) (by rw[Ax];exact hn)).trans (Sm q _ _ hi q_)
   ·exact .refl _
  ·exact .refl _
theorem Lz (q:List Item) (x:Item):(Q1 q x).Perm (x::q) :=
 (Aev _ _ _ y_).trans (List.perm_append_comm (l₁:=q) (l₂:=[x]))
theorem Je (q:List Item) (x:Item):(Q1 q x).length=q.length+1:=by rw[Q1,X5];simp
theorem Qc (q:List Item) (hq:q≠[]):(C2 q).Perm q:=by
 have h0:0<q.length:=List.length_pos_iff.2 hq
 exact(Zz _ _ _ _ (by rw[Ax];exact h0) (by rw[Ax];omega)).trans (Sm q _ _ h0 q_)
def Ke (q:List Item) (n:Nat):Prop:=∀ c,0<c→c<n→c<q.length→B0 (q.getD c default) (q.getD ((c-1) / 2) default)=false
theorem L7 {x y z:Item} (h1:B0 y x=false) (h2:B0 z y=false):B0 z x=false:=by
 unfold B0 at *
 grind
theorem Ajw {q:List Item} {n:Nat} (h:Ke q n) (hn:n≤q.length):∀ c,c<n→B0 (q.getD c default) (q.getD 0 default)=false:=by
 intro c
 induction c using Nat.strongRecOn with
 | ind c ih =>
  intro hc
  rcases Nat.eq_zero_or_pos c with h0 | h0
  ·subst h0;unfold B0;grind
  ·have h1:=h c h0 hc q_
   have h2:=ih ((c-1) / 2) q_ q_
   exact L7 h2 h1
theorem D8 (q:List Item) (i j c:Nat) (hi:i<q.length) (hj:j<q.length):(Dz q i j).getD c default=if c=j then q.getD i default else if c=i then q.getD j default else q.getD c default:=by
 rw[Dz]
 simp only[List.getD_eq_getElem?_getD,List.getElem?_set,List.length_set]
 by_cases h1:c=j
 ·subst h1;simp[hj]
 ·rw[if_neg (Ne.symm h1),if_neg h1]
  by_cases h2:c=i
  ·subst h2;simp[hi]
  ·rw[if_neg (Ne.symm h2),if_neg h2]
theorem L8 {x y:Item} (h:B0 x y=true):B0 y x=false:=by
 unfold B0 at *
 grind
structure UpInv (q:List Item) (j n:Nat):Prop where
 heap:∀ c,0<c→c<n→c≠j→B0 (q.getD c default) (q.getD ((c-1) / 2) default)=false
 over:∀ c,0<c→c<n→(c-1) / 2=j→0<j→B0 (q.getD c default) (q.getD ((j-1) / 2) default)=false
theorem Aew (n:Nat):∀ (f:Nat) (q:List Item) (j:Nat),j≤f→j<n→n≤q.length→UpInv q j n→Ke (upF f q j) n
 | 0,q,j,hf,hj,hn,hI=>by
  have:j=0:=by omega
  subst this
  exact fun c h0 hc _=>hI.heap c h0 hc q_
 | f+1,q,j,hf,hj,hn,hI=>by
  rw[upF]
  split
  ·rename_i h0
   subst h0
   exact fun c h0 hc _=>hI.heap c h0 hc q_
  ·rename_i h0
   split
   ·rename_i hlt
    have hp:(j-1) / 2<j:=by omega
    refine Aew n f _ _ q_ q_ (by rw[Ax];exact hn) ⟨fun c hc0 hcn hcp=>?_,fun c hc0 hcn hpar hp0=>?_⟩
    ·rw[D8 _ _ _ _ q_ q_,D8 _ _ _ _ q_ q_]
     by_cases hcj:c=j
     ·subst hcj
      rw[if_pos rfl,if_neg q_,if_pos rfl]
      exact L8 hlt
     ·rw[if_neg hcj,if_neg hcp]
      by_cases hpj:(c-1) / 2=j
      ·rw[if_pos hpj]
       exact hI.over c hc0 hcn hpj q_
      ·rw[if_neg hpj]
       by_cases hpp:(c-1) / 2=(j-1) / 2
       ·rw[if_pos hpp]
        have:=hI.heap c hc0 hcn hcj
        rw[hpp]at this
        exact L7 (L8 hlt) this
       ·rw[if_neg hpp]
        exact hI.heap c hc0 hcn hcj
    ·rw[D8 _ _ _ _ q_ q_,D8 _ _ _ _ q_ q_]
     have hpI:=hI.heap ((j-1) / 2) hp0 q_ q_
     rw[if_neg (show ((j-1) / 2-1) / 2≠j by omega),if_neg (show ((j-1) / 2-1) / 2≠(j-1) / 2 by omega)]
     by_cases hcj:c=j
     ·rw[if_pos hcj];exact hpI
     ·rw[if_neg hcj,if_neg q_]
      have:=hI.heap c hc0 hcn hcj
      rw[hpar]at this
      exact L7 hpI this
   ·rename_i hlt
    intro c hc0 hcn _
    by_cases hcj:c=j
    ·subst hcj;simpa using hlt
    ·exact hI.heap c hc0 hcn hcj
theorem Lh {q r:List Item} {c:Nat} (h:c<q.length):(q++r).getD c default=q.getD c default:=by
 simp[List.getD_eq_getElem?_getD,List.getElem?_append_left h]
theorem Yr (q:List Item) (x:Item) (h:Ke q q.length):Ke (Q1 q x) (Q1 q x).length:=by
 rw[Je]
 refine Aew (q.length+1) _ _ _ (Nat.le_refl _) q_ y_ ⟨fun c hc0 hcn hcj=>?_,fun c hc0 hcn hpar hp0=>by omega⟩
 rw[Lh q_,Lh q_]
 exact h c hc0 q_ q_
structure DownInv (q:List Item) (i n:Nat):Prop where
 heap:∀ c,0<c→c<n→(c-1) / 2≠i→B0 (q.getD c default) (q.getD ((c-1) / 2) default)=false
 over:∀ c,0<c→c<n→(c-1) / 2=i→0<i→B0 (q.getD c default) (q.getD ((i-1) / 2) default)=false
theorem Aoy (q:List Item) (i n c:Nat) (_h:2 * i+1<n) (hc0:0<c) (hc:c<n) (hp:(c-1) / 2=i):B0 (q.getD c default) (q.getD (Du q i n) default)=false:=by
 have hcc:c=2 * i+1∨c=2 * i+2:=by omega
 unfold Du
 split
 ·rename_i hh
  rcases hcc with rfl | rfl
  ·exact L8 hh.2
  ·unfold B0;grind
 ·rename_i hh
  rcases hcc with rfl | rfl
  ·unfold B0;grind
  ·cases hlt:B0 (q.getD (2 * i+2) default) (q.getD (2 * i+1) default) with
   | false=>rfl
   | true=>exact absurd ⟨hc,hlt⟩ hh
theorem Z0 (n:Nat):∀ (f:Nat) (q:List Item) (i:Nat),n≤f+i→i<q.length→n≤q.length→DownInv q i n→Ke (Dv f q i n).1 n
 | 0,q,i,hf,hi,hn,hI=>fun c hc0 hc _=>hI.heap c hc0 hc q_
 | f+1,q,i,hf,hi,hn,hI=>by
  rw[Dv]
  split
  ·rename_i h
   have hcl:=Ln q i n h
   have hpar:(Du q i n-1) / 2=i:=by unfold Du;split<;>omega
   have hle:=fun c=>Aoy q i n c h
   generalize Du q i n=k at *
   split
   ·rename_i hlt
    refine Z0 n f _ _ q_ (by rw[Ax];omega) (by rw[Ax];exact hn) ⟨fun c hc0 hcn hck=>?_,fun c hc0 hcn hcp hk0=>?_⟩
    ·rw[D8 _ _ _ _ hi q_,D8 _ _ _ _ hi q_,if_neg hck]
     by_cases hc1:c=k
     ·subst hc1
      rw[if_pos rfl,if_pos hpar]
      exact L8 hlt
     ·rw[if_neg hc1]
      by_cases hc2:c=i
      ·subst hc2
       rw[if_pos rfl,if_neg q_]
       exact hI.over k q_ hcl.1 hpar hc0
      ·rw[if_neg hc2]
       by_cases hc3:(c-1) / 2=i
       ·rw[if_pos hc3];exact hle c hc0 hcn hc3
       ·rw[if_neg hc3];exact hI.heap c hc0 hcn hc3
    ·rw[D8 _ _ _ _ hi q_,D8 _ _ _ _ hi q_]
     rw[if_neg q_,if_neg q_,hpar,if_neg q_,if_pos rfl]
     have:=hI.heap c hc0 hcn q_
     rwa [hcp]at this
   ·rename_i hlt
    intro c hc0 hcn _
    by_cases hc3:(c-1) / 2=i
    ·rw[hc3]
     exact L7 (by simpa using hlt) (hle c hc0 hcn hc3)
    ·exact hI.heap c hc0 hcn hc3
  ·exact fun c hc0 hc _=>hI.heap c hc0 hc q_
theorem Zy (n:Nat):∀ (f:Nat) (q:List Item) (i c:Nat),i<n→n≤q.length→n≤c→(Dv f q i n).1.getD c default=q.getD c default
 | 0,_,_,_,_,_,_=>rfl
 | f+1,q,i,c,hi,hn,hc=>by
  rw[Dv]
  split
  ·rename_i h
   have hcl:=Ln q i n h
   split
   ·rw[Zy n f _ _ c q_ (by rw[Ax];exact hn) hc,D8 _ _ _ _ q_ q_,if_neg q_,if_neg q_]
   ·rfl
  ·rfl
theorem Afz (q:List Item) (hq:q≠[]):(C2 q).getLast (Dx hq)=q.getD 0 default:=by
 have h0:0<q.length:=List.length_pos_iff.2 hq
 rw[List.getLast_eq_getElem,← Ba (show (C2 q).length-1<(C2 q).length by rw[D2];omega),D2]
 by_cases h1:q.length=1
 ·have:C2 q=q:=by
   obtain ⟨x,rfl⟩:=List.length_eq_one_iff.1 h1
   rfl
  rw[this,h1]
 ·rw[C2,Zy _ _ _ _ _ q_ (by rw[Ax];omega) (Nat.le_refl _),D8 _ _ _ _ h0 q_,if_pos rfl]
theorem Anj (q:List Item) (hq:q≠[]):(C2 q).dropLast++[q.getD 0 default]=C2 q:=by
 rw[← Afz q hq];exact List.dropLast_concat_getLast (Dx hq)
theorem Aqi (q:List Item) (hq:q≠[]):(q.getD 0 default::(C2 q).dropLast).Perm q :=
 ((List.perm_append_comm (l₁:=[q.getD 0 default]) (l₂:=(C2 q).dropLast)).trans (by rw[Anj q hq])).trans (Qc q hq)
theorem Aqj (q:List Item) (hq:q≠[]) (h:Ke q q.length):Ke (C2 q).dropLast (C2 q).dropLast.length:=by
 have h0:0<q.length:=List.length_pos_iff.2 hq
 have hd:(C2 q).dropLast.length=q.length-1:=by rw[List.length_dropLast,D2]
 have hh:Ke (C2 q) (q.length-1):=by
  rw[C2]
  refine Z0 (q.length-1) _ _ _ q_ (by rw[Ax];exact h0) (by rw[Ax];omega) ⟨fun c hc0 hcn hp=>?_,fun c hc0 hcn hp h=>by omega⟩
  rw[D8 _ _ _ _ h0 q_,D8 _ _ _ _ h0 q_,if_neg q_,if_neg q_,if_neg q_,if_neg hp]
  exact h c hc0 q_ q_
 intro c hc0 hcn _
 rw[hd]at hcn
 have hl:=D2 q
 have e:∀ k,k<q.length-1→(C2 q).dropLast.getD k default=(C2 q).getD k default:=fun k hk=>by
  rw[Ba (show k<(C2 q).dropLast.length by omega),Ba (show k<(C2 q).length by omega),List.getElem_dropLast]
 rw[e c hcn,e _ q_]
 exact hh c hc0 hcn q_
theorem Ank (q:List Item) (h:Ke q q.length):∀ x∈q,B0 x (q.getD 0 default)=false:=fun x hx=>by
 obtain ⟨c,hc,rfl⟩:=List.getElem_of_mem hx
 have:=Ajw h (Nat.le_refl _) c hc
 rwa [Ba hc]at this
def D4 (ranks:List Int) (j:Nat):List Item:=(List.range j).foldl (fun q (i:Nat)=>Q1 q ⟨ranks.getD i 0,0,i⟩) []
theorem Iq (ranks:List Int) (j:Nat):D4 ranks (j+1)=Q1 (D4 ranks j) ⟨ranks.getD j 0,0,j⟩:=by
 rw[D4,List.range_succ,List.foldl_append];rfl
theorem Kq (ranks:List Int):∀ j,(D4 ranks j).length=j
 | 0=>rfl
 | j+1=>by rw[Iq,Je,Kq ranks j]
def T7 (roots:List Int):Nat:=roots.countP (fun r=>decide (r<0))
def reachM (s:List Item × List Int × List Int):Nat:=41 * T7 s.2.1+s.1.length
structure ReachInv (n:Net) (s:List Item × List Int × List Int):Prop where
 rootsL:s.2.1.length=n.devices.length
 costsL:s.2.2.length=n.devices.length
 items:∀ x∈s.1,0≤x.dev∧x.dev<n.devices.length∧0≤x.root∧0≤x.cost∧x.cost+65535 * T7 s.2.1≤65535 * n.devices.length
 few:s.1.length+40 * T7 s.2.1≤1000
theorem Aq3 (roots:List Int):T7 roots≤roots.length:=List.countP_le_length
theorem Anz {roots:List Int} {i:Nat} {v:Int} (h:i<roots.length) (h0:roots[i]<0) (hv:0≤v):T7 (roots.set i v)+1=T7 roots:=by
 have h1:0<roots.countP (fun r=>decide (r<0)):=List.countP_pos_iff.2 ⟨roots[i],List.getElem_mem h,by simpa using h0⟩
 have hv':¬ v<0:=by omega
 rw[T7,T7,List.countP_set h]
 simp only[h0,hv',decide_true,decide_false,if_true,Bool.false_eq_true,if_false]
 omega
theorem Adc (n:Net) (up:List Bool) (x:Item) (hr:Ac n=true) (hcost:Dg n=true) {m:Nat} (hx:0≤x.root∧0≤x.cost∧x.cost+65535 * (m+1)≤65535 * n.devices.length) (q:List Item)
  (hq:∀ y∈q,0≤y.dev∧y.dev<n.devices.length∧0≤y.root∧0≤y.cost∧y.cost+65535 * m≤65535 * n.devices.length) (i:Nat) (hi:i<n.ports.length) :
  (∀ y∈C9 n up x q i,0≤y.dev∧y.dev<n.devices.length∧0≤y.root∧0≤y.cost∧y.cost+65535 * m≤65535 * n.devices.length)∧(C9 n up x q i).length≤q.length+1:=by
 rw[C9]
 split
 ·rename_i h
  have hlt:=Zt hr hi h.2
  have hk:(Df n up i).toNat<n.ports.length:=by omega
  have hd:=M8 hr hk
  have hpc:1≤n.ports[(Df n up i).toNat].cost∧n.ports[(Df n up i).toNat].cost≤65535:=by
   simp only[Dg,Bool.not_eq_true',List.any_eq_false]at hcost
   have:=hcost _ (List.getElem_mem hk)
   simp only[Kn,Bool.or_eq_true,decide_eq_true_eq,not_or]at this
   omega
  have e:nth n.ports (Df n up i)=n.ports[(Df n up i).toNat]:=Ae (l:=n.ports) (i:=Df n up i) q_
  rw[e]
  refine⟨fun y hy=>?_,by rw[Je];omega⟩
  rcases List.mem_cons.1 ((Lz q _).mem_iff.1 hy) with rfl | hy
  ·simp only
   omega
  ·exact hq y hy
 ·exact⟨hq,by omega⟩
theorem Yo (n:Net) (up:List Bool) (x:Item) (hr:Ac n=true) (hcost:Dg n=true) {m:Nat} (hx:0≤x.root∧0≤x.cost∧x.cost+65535 * (m+1)≤65535 * n.devices.length) (q:List Item)
  (hq:∀ y∈q,0≤y.dev∧y.dev<n.devices.length∧0≤y.root∧0≤y.cost∧y.cost+65535 * m≤65535 * n.devices.length):∀ i,i≤n.ports.length →
  (∀ y∈(List.range i).foldl (C9 n up x) q,0≤y.dev∧y.dev<n.devices.length∧0≤y.root∧0≤y.cost∧y.cost+65535 * m≤65535 * n.devices.length)∧((List.range i).foldl (C9 n up x) q).length≤q.length+i
 | 0,_=>⟨hq,by simp⟩
 | i+1,hi=>by
  obtain ⟨h1,h2⟩:=Yo n up x hr hcost hx q hq i q_
  rw[List.range_succ,List.foldl_append]
  obtain ⟨h3,h4⟩:=Adc n up x hr hcost hx _ h1 i q_
  exact⟨h3,by simp only[List.foldl_cons,List.foldl_nil];omega⟩
theorem Y7 {q:List Item} (hq:q≠[]):(C2 q).getLast?.getD default=(C2 q).getLast (Dx hq):=by
 rw[List.getLast?_eq_some_getLast (Dx hq)];rfl
theorem Js (n:Net) (up:List Bool) (hr:Ac n=true) (hcost:Dg n=true) (s:List Item × List Int × List Int) (hI:ReachInv n s) (hne:s.1≠[]):ReachInv n (Lx n up s)∧reachM (Lx n up s)<reachM s:=by
 have hf:=Ee hr
 have hx:=hI.items _ ((Qc s.1 hne).mem_iff.1 (List.getLast_mem (Dx hne)))
 have hd:∀ y∈(C2 s.1).dropLast,y∈s.1:=fun y hy=>(Qc s.1 hne).mem_iff.1 ((List.dropLast_sublist _).subset hy)
 have h0:0<s.1.length:=List.length_pos_iff.2 hne
 have hdl:(C2 s.1).dropLast.length+1=s.1.length:=by rw[List.length_dropLast,D2];omega
 have hfew:=hI.few
 rw[Lx,Y7 hne]
 generalize (C2 s.1).getLast (Dx hne)=x at *
 split
 ·exact⟨⟨hI.rootsL,hI.costsL,fun y hy=>hI.items y (hd y hy),by simp only;omega⟩,by unfold reachM;simp only;omega⟩
 ·rename_i hneg
  have hk:x.dev.toNat<s.2.1.length:=by rw[hI.rootsL];omega
  rw[Ae (l:=s.2.1) (i:=x.dev) (by rw[hI.rootsL];omega)]at hneg
  have hm:=Anz hk q_ hx.2.2.1
  obtain ⟨h1,h2⟩:=Yo n up x hr hcost (m:=T7 (s.2.1.set x.dev.toNat x.root)) ⟨hx.2.2.1,hx.2.2.2.1,by have:=hx.2.2.2.2;omega⟩ (C2 s.1).dropLast (fun y hy=>by have:=hI.items y (hd y hy);omega) n.ports.length (Nat.le_refl _)
  exact⟨⟨by simp only[List.length_set];exact hI.rootsL,by simp only[List.length_set];exact hI.costsL,h1,by simp only;omega⟩,by unfold reachM;simp only;omega⟩
theorem Wk (n:Net) (up:List Bool) (hr:Ac n=true) (hcost:Dg n=true):∀ (f g:Nat) (s:List Item × List Int × List Int),ReachInv n s→reachM s≤f→reachM s≤g→E3 n up f s=E3 n up g s
 | 0,0,_,_,_,_=>rfl
 | 0,g+1,s,_,h,_=>by
  have:s.1=[]:=List.eq_nil_of_length_eq_zero (by unfold reachM at h;omega)
  rw[E3,E3,if_pos this]
 | f+1,0,s,_,_,h=>by
  have:s.1=[]:=List.eq_nil_of_length_eq_zero (by unfold reachM at h;omega)
  rw[E3,E3,if_pos this]
 | f+1,g+1,s,hI,h1,h2=>by
  rw[E3,E3]
  split
  ·rfl
  ·rename_i hne
   obtain ⟨h3,h4⟩:=Js n up hr hcost s hI hne
   exact Wk n up hr hcost f g _ h3 q_ q_
def I2 (n:Net) (up:List Bool) (s:List Item × List Int × List Int):List Item × List Int × List Int:=E3 n up (reachM s) s
theorem Aix (n:Net) (up:List Bool) (s:List Item × List Int × List Int) (h:s.1=[]):I2 n up s=s:=by
 rw[I2]
 cases reachM s with
 | zero=>rfl
 | succ m=>rw[E3,if_pos h]
theorem Afs (n:Net) (up:List Bool) (hr:Ac n=true) (hcost:Dg n=true) (s:List Item × List Int × List Int) (hI:ReachInv n s) (hne:s.1≠[]):I2 n up s=I2 n up (Lx n up s):=by
 obtain ⟨h3,h4⟩:=Js n up hr hcost s hI hne
 rw[I2,I2]
 obtain ⟨m,hm⟩:∃ m,reachM s=m+1:=⟨reachM s-1,by omega⟩
 rw[hm,E3,if_neg hne]
 exact Wk n up hr hcost _ _ _ h3 q_ (Nat.le_refl _)
theorem Wg (ranks:List Int) (m:Nat) (hrr:∀ r∈ranks,0≤r):∀ j,j≤ranks.length→∀ y∈D4 ranks j,0≤y.dev∧y.dev<m+ranks.length∧0≤y.root∧y.cost=0
 | 0,_,y,hy=>by simp[D4]at hy
 | j+1,hj,y,hy=>by
  rw[Iq]at hy
  rcases List.mem_cons.1 ((Lz _ _).mem_iff.1 hy) with rfl | hy
  ·have h1:=hrr (ranks[j]'q_) (List.getElem_mem _)
   have h2:(0:Int)≤(j:Int)∧(j:Int)<m+ranks.length:=by omega
   exact⟨h2.1,h2.2,by rw[Ba (show j<ranks.length by omega)];exact h1,E⟩
  ·exact Wg ranks m hrr j q_ y hy
theorem Abo (n:Net) (ranks roots costs:List Int) (hr:Ac n=true) (hrk:ranks.length=n.devices.length) (hro:roots.length=n.devices.length) (hc:costs.length=n.devices.length) (hrr:∀ r∈ranks,0≤r):ReachInv n (D4 ranks ranks.length,roots,costs):=by
 have hf:=Ee hr
 have hm:=Aq3 roots
 refine⟨hro,hc,fun y hy=>?_,by simp only[Kq];omega⟩
 have:=Wg ranks 0 hrr _ (Nat.le_refl _) y hy
 simp only
 omega
def Le2 (r c r' c':Int):Prop:=r<r'∨(r=r'∧c≤c')
theorem Aoa {x y:Item} (h:B0 y x=false):Le2 x.root x.cost y.root y.cost:=by
 simp only[B0,Bool.or_eq_false_iff,decide_eq_false_iff_not,Bool.and_eq_false_iff,beq_eq_false_iff_ne]at h
 unfold Le2
 omega
theorem An9 {a b c d e f:Int} (h1:Le2 a b c d) (h2:Le2 c d e f):Le2 a b e f:=by
 unfold Le2 at *
 omega
theorem Agr {a b c d m:Int} (h1:Le2 a b c d) (hm:0≤m):Le2 a b c (d+m):=by
 unfold Le2 at *
 omega
def Abg (n:Net) (up:List Bool) (i j:Nat):Prop:=i<n.ports.length∧Df n up i=j
theorem On {n:Net} {up:List Bool} (hr:Ac n=true) {i j:Nat} (h:Abg n up i j):j<n.ports.length:=by
 have:=Zt (up:=up) hr h.1 (by rw[h.2];omega)
 rw[h.2]at this
 omega
theorem Aca {n:Net} {up:List Bool} (hr:Ac n=true) {i j:Nat} (h:Abg n up i j) :
  ∃ k:Nat,k<n.links.length∧(nth n.ports i).link=k∧(nth n.ports j).link=k∧up.getD k false=true∧(((nth n.links k).a=i∧(nth n.links k).b=j)∨((nth n.links k).a=j∧(nth n.links k).b=i))∧Eo n i≠Eo n j:=by
 have hj:=On hr h
 obtain ⟨hi,hf⟩:=h
 have hp:=Lw hr hi
 have hpl:=Qb hr hi
 simp only[I7,Bool.and_eq_true,Bool.or_eq_true,beq_iff_eq]at hp
 have hp:=hp.2
 have e:nth n.ports i=n.ports[i]:=Ae (l:=n.ports) (i:=(i:Int)) (by simpa using hi)
 unfold Df at hf
 rw[Ba hi]at hf
 simp only at hf
 split at hf
 ·omega
 ·rename_i hc
  simp only[Bool.or_eq_true,decide_eq_true_eq,not_or,Bool.not_eq_true',Bool.not_eq_false]at hc
  rcases hp with hp | hp
  ·omega
  ·have hl:n.ports[i].link.toNat<n.links.length:=by omega
   have hlk:=Yl hr hl
   have he:=Lf hr hl
   have ek:((n.ports[i].link.toNat:Nat):Int)=n.ports[i].link:=by omega
   refine⟨n.ports[i].link.toNat,hl,by rw[e];omega,?_⟩
   simp only[Og,Bool.and_eq_true,beq_iff_eq,bne_iff_ne]at hlk
   obtain ⟨⟨⟨_,hne⟩,h1⟩,h2⟩:=hlk
   rw[ek]
   rw[Ae (l:=n.links) (i:=n.ports[i].link) q_]at hf hp ⊢
   generalize n.links[n.ports[i].link.toNat]=l at *
   rcases hp.2 with ha | hb
   ·have hb:l.b=j:=by omega
    rw[ha,hb]at hne
    rw[hb]at h2
    exact⟨by omega,by simpa using hc.2,.inl ⟨ha,hb⟩,hne⟩
   ·have ha:l.a=j:=by omega
    rw[ha,hb]at hne
    rw[ha]at h1
    exact⟨by omega,by simpa using hc.2,.inr ⟨ha,hb⟩,fun h=>hne h.symm⟩
theorem Agz {n:Net} {up:List Bool} (hr:Ac n=true) {i j:Nat} (h:Abg n up i j):Abg n up j i:=by
 have hj:=On hr h
 obtain ⟨k,hk,_,h2,h3,h4,_⟩:=Aca hr h
 refine⟨hj,?_⟩
 unfold Df
 have e:n.ports.getD j default=nth n.ports j:=rfl
 rw[e]
 simp only[h2,Int.toNat_natCast,h3]
 rw[if_neg y_]
 omega
theorem Qd {n:Net} (hr:Ac n=true) {i:Nat} (hi:i<n.ports.length):0≤Eo n i∧Eo n i<n.devices.length:=by
 rw[Eo,Ae (l:=n.ports) (i:=(i:Int)) (by simpa using hi)]
 exact M8 hr hi
def Der (n:Net) (up:List Bool) (K R C:Int→Int) (r c d:Int):Prop :=
 (r=K d∧c=0)∨∃ i j:Nat,Abg n up i j∧Eo n i=d∧0≤R (Eo n j)∧r=R (Eo n j)∧c=C (Eo n j)+T0 n i
structure Dij (n:Net) (up:List Bool) (K:Int→Int) (q:List Item) (R C:Int→Int):Prop where
 heap:Ke q q.length
 items:∀ x∈q,Der n up K R C x.root x.cost x.dev
 done:∀ d:Int,0≤d→d<n.devices.length→0≤R d→Der n up K R C (R d) (C d) d
 own:∀ d:Int,0≤d→d<n.devices.length→R d<0→⟨K d,0,d⟩∈q
 push:∀ i j:Nat,Abg n up i j→R (Eo n i)<0→0≤R (Eo n j)→⟨R (Eo n j),C (Eo n j)+T0 n i,Eo n i⟩∈q
 low:∀ d:Int,0≤d→d<n.devices.length→0≤R d→∀ x∈q,Le2 (R d) (C d) x.root x.cost
 self:∀ d:Int,0≤d→d<n.devices.length→0≤R d→Le2 (R d) (C d) (K d) 0
 tri:∀ i j:Nat,Abg n up i j→0≤R (Eo n i)→0≤R (Eo n j)→Le2 (R (Eo n i)) (C (Eo n i)) (R (Eo n j)) (C (Eo n j)+T0 n i)
theorem Ym (n:Net) (up:List Bool) (x:Item) (q:List Item) (y:Item):∀ m,y∈(List.range m).foldl (C9 n up x) q↔y∈q∨∃ i,i<m∧Eo n i=x.dev∧0≤Df n up i∧y=⟨x.root,x.cost+(nth n.ports (Df n up i)).cost,(nth n.ports (Df n up i)).dev⟩
 | 0=>by simp
 | m+1=>by
  rw[List.range_succ,List.foldl_append]
  simp only[List.foldl_cons,List.foldl_nil]
  rw[C9]
  have ih:=Ym n up x q y m
  have e:(n.ports.getD m default).dev=Eo n m:=rfl
  rw[e]
  split
  ·rename_i h
   rw[(Lz _ _).mem_iff,List.mem_cons,ih]
   constructor
   ·rintro (h1 | h1 | ⟨i,h1,h2⟩)
    ·exact .inr ⟨m,by omega,h.1,h.2,h1⟩
    ·exact .inl h1
    ·exact .inr ⟨i,by omega,h2⟩
   ·rintro (h1 | ⟨i,h1,h2,h3,h4⟩)
    ·exact .inr (.inl h1)
    ·by_cases hm:i=m
     ·subst hm;exact .inl h4
     ·exact .inr (.inr ⟨i,by omega,h2,h3,h4⟩)
  ·rename_i h
   rw[ih]
   constructor
   ·rintro (h1 | ⟨i,h1,h2⟩)
    ·exact .inl h1
    ·exact .inr ⟨i,by omega,h2⟩
   ·rintro (h1 | ⟨i,h1,h2,h3,h4⟩)
    ·exact .inl h1
    ·by_cases hm:i=m
     ·subst hm;exact absurd ⟨h2,h3⟩ h
     ·exact .inr ⟨i,by omega,h2,h3,h4⟩
theorem Wj (n:Net) (up:List Bool) (x:Item) (q:List Item) (h:Ke q q.length):∀ m,Ke ((List.range m).foldl (C9 n up x) q) ((List.range m).foldl (C9 n up x) q).length
 | 0=>h
 | m+1=>by
  rw[List.range_succ,List.foldl_append]
  simp only[List.foldl_cons,List.foldl_nil]
  have ih:=Wj n up x q h m
  rw[C9]
  split
  ·exact Yr _ _ ih
  ·exact ih
theorem Z2 {n:Net} {up:List Bool} {K R C R' C':Int→Int} {r c d:Int} (h:Der n up K R C r c d) (hs:∀ e,0≤R e→R' e=R e∧C' e=C e):Der n up K R' C' r c d:=by
 rcases h with h | ⟨i,j,h1,h2,h3,h4,h5⟩
 ·exact .inl h
 ·obtain ⟨e1,e2⟩:=hs _ h3
  exact .inr ⟨i,j,h1,h2,by rw[e1];exact h3,by rw[e1];exact h4,by rw[e2];exact h5⟩
theorem Asb {n:Net} {up:List Bool} {K R C:Int→Int} {q q':List Item} {x:Item} (h:Dij n up K q R C) (hp:(x::q').Perm q) (hh:Ke q' q'.length) (hx:0≤R x.dev):Dij n up K q' R C:=by
 have hm:∀ y,y∈q↔y=x∨y∈q':=fun y=>by rw[← hp.mem_iff,List.mem_cons]
 refine⟨hh,fun y hy=>h.items y ((hm y).2 (.inr hy)),h.done,fun d h0 h1 h2=>?_,fun i j hij h1 h2=>?_,fun d h0 h1 h2 y hy=>h.low d h0 h1 h2 y ((hm y).2 (.inr hy)),h.self,h.tri⟩
 ·rcases (hm _).1 (h.own d h0 h1 h2) with e | e
  ·rw[← e]at hx;simp only at hx;omega
  ·exact e
 ·rcases (hm _).1 (h.push i j hij h1 h2) with e | e
  ·rw[← e]at hx;simp only at hx;omega
  ·exact e
theorem Asa {n:Net} {up:List Bool} {K R C R' C':Int→Int} {q q':List Item} {x:Item} (hr:Ac n=true) (hcost:Dg n=true) (h:Dij n up K q R C) (hp:(x::q').Perm q) (hh:Ke q' q'.length)
  (hmin:∀ y∈q,B0 y x=false) (hx:R x.dev<0) (hx0:0≤x.root) (_hxd:0≤x.dev∧x.dev<n.devices.length)
  (hR:∀ e,R' e=if e=x.dev then x.root else R e) (hC:∀ e,C' e=if e=x.dev then x.cost else C e) :
  Dij n up K ((List.range n.ports.length).foldl (C9 n up x) q') R' C':=by
 have hm:∀ y,y∈q↔y=x∨y∈q':=fun y=>by rw[← hp.mem_iff,List.mem_cons]
 have hn:=fun y=>Ym n up x q' y n.ports.length
 have hs:∀ e,0≤R e→R' e=R e∧C' e=C e:=fun e he=>by
  have:e≠x.dev:=fun h=>by rw[h]at he;omega
  rw[hR,hC,if_neg this,if_neg this]
  exact⟨E,E⟩
 have hRd:R' x.dev=x.root:=by rw[hR,if_pos rfl]
 have hCd:C' x.dev=x.cost:=by rw[hC,if_pos rfl]
 have hxq:x∈q:=(hm x).2 (.inl rfl)
 have hle:∀ y∈q,Le2 x.root x.cost y.root y.cost:=fun y hy=>Aoa (hmin y hy)
 have hnew:∀ y,y∈(List.range n.ports.length).foldl (C9 n up x) q'↔y∈q'∨∃ i j:Nat,Abg n up i j∧Eo n i=x.dev∧y=⟨x.root,x.cost+T0 n j,Eo n j⟩:=fun y=>by
  rw[hn y]
  constructor
  ·rintro (h1 | ⟨i,h1,h2,h3,h4⟩)
   ·exact .inl h1
   ·obtain ⟨j,hj⟩:∃ j:Nat,Df n up i=j:=⟨(Df n up i).toNat,by omega⟩
    rw[hj]at h4
    exact .inr ⟨i,j,⟨h1,hj⟩,h2,h4⟩
  ·rintro (h1 | ⟨i,j,h1,h2,h3⟩)
   ·exact .inl h1
   ·refine .inr ⟨i,h1.1,h2,by rw[h1.2];omega,?_⟩
    rw[h1.2]
    exact h3
 refine⟨Wj n up x q' hh _,fun y hy=>?_,fun d h0 h1 h2=>?_,fun d h0 h1 h2=>?_,fun i j hij h1 h2=>?_,fun d h0 h1 h2 y hy=>?_,fun d h0 h1 h2=>?_,fun i j hij h1 h2=>?_⟩
 ·rcases (hnew y).1 hy with hy | ⟨i,j,h1,h2,rfl⟩
  ·exact Z2 (h.items y ((hm y).2 (.inr hy))) hs
  ·exact .inr ⟨j,i,Agz hr h1,E,by rw[h2,hRd];exact hx0,by rw[h2,hRd],by rw[h2,hCd]⟩
 ·by_cases hd:d=x.dev
  ·subst hd
   rw[hRd,hCd]
   exact Z2 (h.items x hxq) hs
  ·rw[hR,if_neg hd]at h2
   obtain ⟨e1,e2⟩:=hs d h2
   rw[e1,e2]
   exact Z2 (h.done d h0 h1 h2) hs
 ·have hd:d≠x.dev:=fun e=>by rw[e,hRd]at h2;omega
  rw[hR,if_neg hd]at h2
  refine(hnew _).2 (.inl ?_)
  rcases (hm _).1 (h.own d h0 h1 h2) with e | e
  ·exact absurd (congrArg Item.dev e) hd
  ·exact e
 ·have hd:Eo n i≠x.dev:=fun e=>by rw[e,hRd]at h1;omega
  rw[hR,if_neg hd]at h1
  by_cases hj:Eo n j=x.dev
  ·rw[hj,hRd,hCd]
   exact(hnew _).2 (.inr ⟨j,i,Agz hr hij,hj,E⟩)
  ·rw[hR,if_neg hj]at h2
   obtain ⟨e1,e2⟩:=hs _ h2
   rw[e1,e2]
   refine(hnew _).2 (.inl ?_)
   rcases (hm _).1 (h.push i j hij h1 h2) with e | e
   ·exact absurd (congrArg Item.dev e) hd
   ·exact e
 ·have hdx:Le2 (R' d) (C' d) x.root x.cost:=by
   by_cases hd:d=x.dev
   ·subst hd;rw[hRd,hCd];exact .inr ⟨rfl,Int.le_refl _⟩
   ·rw[hR,if_neg hd]at h2
    obtain ⟨e1,e2⟩:=hs d h2
    rw[e1,e2]
    exact h.low d h0 h1 h2 x hxq
  rcases (hnew y).1 hy with hy | ⟨i,j,h3,_,rfl⟩
  ·exact An9 hdx (hle y ((hm y).2 (.inr hy)))
  ·exact Agr hdx (by have:=Af4 hcost (On hr h3);omega)
 ·by_cases hd:d=x.dev
  ·subst hd
   rw[hRd,hCd]
   exact hle _ (h.own _ h0 h1 hx)
  ·rw[hR,if_neg hd]at h2
   obtain ⟨e1,e2⟩:=hs d h2
   rw[e1,e2]
   exact h.self d h0 h1 h2
 ·have hj:=On hr hij
  have hpc:=Af4 hcost hij.1
  have hne:=(Aca hr hij).choose_spec.2.2.2.2.2
  by_cases hd:Eo n i=x.dev
  ·rw[hd,hRd,hCd]
   have hjd:Eo n j≠x.dev:=fun e=>hne (by rw[hd,e])
   rw[hR,if_neg hjd]at h2
   obtain ⟨e1,e2⟩:=hs _ h2
   rw[e1,e2]
   exact hle _ (h.push i j hij (by rw[hd];exact hx) h2)
  ·rw[hR,if_neg hd]at h1
   obtain ⟨e1,e2⟩:=hs _ h1
   rw[e1,e2]
   by_cases hjd:Eo n j=x.dev
   ·rw[hjd,hRd,hCd]
    have hdl:=Qd hr hij.1
    exact Agr (h.low _ hdl.1 hdl.2 h1 x hxq) q_
   ·rw[hR,if_neg hjd]at h2
    obtain ⟨e3,e4⟩:=hs _ h2
    rw[e3,e4]
    exact h.tri i j hij h1 h2
def atI (l:List Int) (e:Int):Int:=if e<0 then -1 else nth l e
theorem Kc {l:List Int} {e:Int} (h:0≤e):atI l e=nth l e:=by rw[atI,if_neg q_]
theorem Al9 {l:List Int} {d v:Int} (h0:0≤d) (h1:d<l.length) (e:Int):atI (l.set d.toNat v) e=if e=d then v else atI l e:=by
 by_cases he:e<0
 ·rw[atI,if_pos he,if_neg q_,atI,if_pos he]
 ·rw[atI,if_neg he,atI,if_neg he,nth,nth,List.getElem?_set]
  by_cases hd:e=d
  ·subst hd
   rw[if_pos rfl,if_pos rfl,if_pos q_]
   rfl
  ·rw[if_neg q_,if_neg hd]
structure DijS (n:Net) (up:List Bool) (ranks:List Int) (s:List Item × List Int × List Int):Prop where
 inv:ReachInv n s
 dij:Dij n up (atI ranks) s.1 (atI s.2.1) (atI s.2.2)
 bound:∀ c∈s.2.2,0≤c∧c≤1000000
theorem Aiy (n:Net) (up:List Bool) (ranks:List Int) (hr:Ac n=true) (hcost:Dg n=true) (s:List Item × List Int × List Int) (hI:DijS n up ranks s) (hne:s.1≠[]):DijS n up ranks (Lx n up s):=by
 have hf:=Ee hr
 have h1:=(Js n up hr hcost s hI.inv hne).1
 have hrest:=Aqi s.1 hne
 have hheap:=Aqj s.1 hne hI.dij.heap
 have hleast:=Ank s.1 hI.dij.heap
 have hx:=hI.inv.items _ (hrest.mem_iff.1 (List.mem_cons_self ..))
 have hrl:=hI.inv.rootsL
 have hcl:=hI.inv.costsL
 have hd:=hI.dij
 have hb:=hI.bound
 rw[Lx,Y7 hne,Afz s.1 hne]at *
 generalize s.1.getD 0 default=x at *
 try simp only at *
 have ea:nth s.2.1 x.dev=atI s.2.1 x.dev:=(Kc hx.1).symm
 rw[ea];rw[ea]at h1
 split
 ·rename_i hc
  rw[if_pos hc]at h1
  exact⟨h1,Asb hd hrest hheap hc,hb⟩
 ·rename_i hc
  rw[if_neg hc]at h1
  refine⟨h1,Asa hr hcost hd hrest hheap hleast q_ hx.2.2.1 ⟨hx.1,hx.2.1⟩ (Al9 hx.1 q_) (Al9 hx.1 q_),fun c hc=>?_⟩
  rcases List.mem_or_eq_of_mem_set hc with h | h
  ·exact hb c h
  ·omega
theorem Yp (n:Net) (up:List Bool) (ranks:List Int) (hr:Ac n=true) (hcost:Dg n=true):∀ (f:Nat) (s:List Item × List Int × List Int),DijS n up ranks s→reachM s≤f→DijS n up ranks (E3 n up f s)∧(E3 n up f s).1=[]
 | 0,s,h,hf=>⟨h,List.eq_nil_of_length_eq_zero (by unfold reachM at hf;rw[E3];omega)⟩
 | f+1,s,h,hf=>by
  rw[E3]
  split
  ·rename_i he;exact⟨h,he⟩
  ·rename_i hne
   exact Yp n up ranks hr hcost f _ (Aiy n up ranks hr hcost s h hne) (by have:=(Js n up hr hcost s h.inv hne).2;omega)
structure Solved (n:Net) (up:List Bool) (ranks roots costs:List Int):Prop where
 rootsL:roots.length=n.devices.length
 costsL:costs.length=n.devices.length
 bound:∀ c∈costs,0≤c∧c≤1000000
 root:∀ d:Int,0≤d→d<n.devices.length→0≤nth roots d
 self:∀ d:Int,0≤d→d<n.devices.length→Le2 (nth roots d) (nth costs d) (nth ranks d) 0
 tri:∀ i j:Nat,Abg n up i j→Le2 (nth roots (Eo n i)) (nth costs (Eo n i)) (nth roots (Eo n j)) (nth costs (Eo n j)+T0 n i)
 der:∀ d:Int,0≤d→d<n.devices.length→(nth roots d=nth ranks d∧nth costs d=0)∨∃ i j:Nat,Abg n up i j∧Eo n i=d∧nth roots d=nth roots (Eo n j)∧nth costs d=nth costs (Eo n j)+T0 n i
theorem Amy (n:Net) (up:List Bool) (ranks:List Int) (hr:Ac n=true) (s:List Item × List Int × List Int) (h:DijS n up ranks s) (he:s.1=[]):Solved n up ranks s.2.1 s.2.2:=by
 have hd:=h.dij
 rw[he]at hd
 have h0:∀ d:Int,0≤d→d<n.devices.length→0≤atI s.2.1 d:=fun d h1 h2=>by
  by_cases hc:0≤atI s.2.1 d
  ·exact hc
  ·have:=hd.own d h1 h2 q_
   simp at this
 refine⟨h.inv.rootsL,h.inv.costsL,h.bound,fun d h1 h2=>?_,fun d h1 h2=>?_,fun i j hij=>?_,fun d h1 h2=>?_⟩
 ·have:=h0 d h1 h2
  rwa [Kc h1]at this
 ·have:=hd.self d h1 h2 (h0 d h1 h2)
  simpa only [Kc h1] using this
 ·have hi:=Qd hr hij.1
  have hj:=Qd hr (On hr hij)
  have:=hd.tri i j hij (h0 _ hi.1 hi.2) (h0 _ hj.1 hj.2)
  simpa only [Kc hi.1,Kc hj.1] using this
 ·rcases hd.done d h1 h2 (h0 d h1 h2) with h3 | ⟨i,j,h3,h4,_,h5,h6⟩
  ·simp only[Kc h1]at h3
   exact .inl h3
  ·have hj:=Qd hr (On hr h3)
   simp only[Kc h1,Kc hj.1]at h5 h6
   exact .inr ⟨i,j,h3,h4,h5,h6⟩
theorem Vq (ranks:List Int) (y:Item):∀ j,y∈D4 ranks j↔∃ i,i<j∧y=⟨ranks.getD i 0,0,i⟩
 | 0=>by simp[D4]
 | j+1=>by
  rw[Iq,(Lz _ _).mem_iff,List.mem_cons,Vq ranks y j]
  constructor
  ·rintro (h | ⟨i,h1,h2⟩)
   ·exact⟨j,by omega,h⟩
   ·exact⟨i,by omega,h2⟩
  ·rintro ⟨i,h1,h2⟩
   by_cases h:i=j
   ·subst h;exact .inl h2
   ·exact .inr ⟨i,by omega,h2⟩
theorem Ya (ranks:List Int):∀ j,Ke (D4 ranks j) (D4 ranks j).length
 | 0=>fun c _ h2 _=>by simp[D4]at h2
 | j+1=>by
  rw[Iq]
  exact Yr _ _ (Ya ranks j)
theorem Aay {v:Int} {m:Nat} {d:Int} (h1:d<m) (h0:0≤d):nth (List.replicate m v) d=v:=by
 rw[Ae (by simp;omega)];simp
theorem Amw (n:Net) (up:List Bool) (ranks:List Int) (hr:Ac n=true) (hrk:ranks.length=n.devices.length) (hrr:∀ r∈ranks,0≤r) :
  DijS n up ranks (D4 ranks ranks.length,List.replicate n.devices.length (-1),List.replicate n.devices.length 0):=by
 have hneg:∀ d:Int,0≤d→d<n.devices.length→atI (List.replicate n.devices.length (-1)) d=-1:=fun d h0 h1=>by rw[Kc h0,Aay h1 h0]
 refine⟨Abo n ranks _ _ hr hrk y_ y_ hrr,⟨Ya ranks _,fun x hx=>?_,fun d h0 h1 h2=>?_,fun d h0 h1 h2=>?_,fun i j hij h1 h2=>?_,fun d h0 h1 h2=>?_,fun d h0 h1 h2=>?_,fun i j hij h1 h2=>?_⟩,fun c hc=>?_⟩
 ·obtain ⟨i,h1,rfl⟩:=(Vq ranks x _).1 hx
  refine .inl ⟨?_,E⟩
  simp only
  rw[Kc q_,Ae (by simpa using h1),Ba h1]
  rfl
 ·rw[hneg d h0 h1]at h2;omega
 ·refine(Vq ranks _ _).2 ⟨d.toNat,by omega,?_⟩
  rw[Kc h0,Ae q_,Ba q_,Int.toNat_of_nonneg h0]
 ·have hj:=Qd hr (On hr hij)
  rw[hneg _ hj.1 hj.2]at h2;omega
 ·rw[hneg d h0 h1]at h2;omega
 ·rw[hneg d h0 h1]at h2;omega
 ·have hj:=Qd hr (On hr hij)
  rw[hneg _ hj.1 hj.2]at h2;omega
 ·have:=List.eq_of_mem_replicate hc
  omega
def M7 (n:Net) (up:List Bool) (ranks:List Int):List Item × List Int × List Int:=I2 n up (D4 ranks ranks.length,List.replicate n.devices.length (-1),List.replicate n.devices.length 0)
theorem Aap (n:Net) (up:List Bool) (ranks:List Int) (hr:Ac n=true) (hcost:Dg n=true) (hrk:ranks.length=n.devices.length) (hrr:∀ r∈ranks,0≤r):Solved n up ranks (M7 n up ranks).2.1 (M7 n up ranks).2.2:=by
 obtain ⟨h1,h2⟩:=Yp n up ranks hr hcost _ _ (Amw n up ranks hr hrk hrr) (Nat.le_refl _)
 exact Amy n up ranks hr _ h1 h2
end Go.Sy.YtcflgpijohhfbaaGreat
namespace Go.Sy.YtcflgpijohhfbaaGreat
section
variable {n:Net} {up:List Bool} {ranks roots costs:List Int}
def rolesL (n:Net) (up:List Bool) (ranks roots costs:List Int):List Int:=Kr n up ranks roots costs n.devices.length
def Ary (roles:List Int) (l:Link):Bool:=inB [nth roles l.a,nth roles l.b] 1 && inB [nth roles l.a,nth roles l.b] 2
def fwdL (n:Net) (roles:List Int):List Bool:=n.links.map (Ary roles)
end
end Go.Sy.YtcflgpijohhfbaaGreat
namespace Go.Sy.YtcflgpijohhfbaaGreat
open Go.Proofs
theorem G_lit {C:Cx} {k:List KI} {s:SS} (d:Nat) {sz:Nat} {α:Type} (e:α→SV) (l:List α) {svs:List SV} (h:s.h d=.lit sz svs) (hl:l.map e=svs) (hg:G C k ⟨s.σ,upd s.h d (.row sz e l)⟩):G C k s:=fun κ a w hs=>by
 refine hg κ a w ⟨hs.defers,hs.size,hs.inv,hs.ctx,hs.slot,fun j=>?_⟩
 show ObOK κ w j (upd s.h d (.row sz e l) j)
 by_cases hj:j=d
 ·subst hj
  rw[Bi]
  have hob:=hs.obj j
  rw[h]at hob
  have hlen:l.length=svs.length:=by rw[← hl,List.length_map]
  obtain ⟨b,cap,cs,T,fr,e1,e2,e3,e4,e5,e6⟩:=hob
  exact .inr ⟨b,cap,cs,T,fr,by rw[hlen];exact e1,e2,e3,e4,by omega,fun i x hx=>by rw[hlen];exact e6 i x (K8 hl i x hx)⟩
 ·rw[B6 _ _ hj];exact hs.obj j
attribute [local irreducible] Go.Sy.G Go.Sy.DR
set_option maxRecDepth 100000
set_option maxHeartbeats 4000000
theorem Yn (n:Net) (up:List Bool) (x:Item) (q:List Item):∀ i,((List.range i).foldl (C9 n up x) q).length≤q.length+i
 | 0=>by simp
 | i+1=>by
  have:=Yn n up x q i
  rw[List.range_succ,List.foldl_append]
  simp only[List.foldl_cons,List.foldl_nil]
  rw[C9]
  split
  ·rw[Je];omega
  ·omega
theorem reachS (n:Net) (up:List Bool) (ranks roots costs:List Int) (hr:Ac n=true) (hu:up.length=n.links.length) (hcost:Dg n=true) (hrk:ranks.length=n.devices.length) (hro:roots.length=n.devices.length) (hc:costs.length=n.devices.length) (hrr:∀ r∈ranks,0≤r) (D:List Item × List Int × List Int) (hD:I2 n up (D4 ranks ranks.length,roots,costs)=D) :
  Sy.Spec Tryz.prog 153 [.ptr 0 0] (Abp n up ranks roots costs) (.tup []) (Abp n up ranks D.2.1 D.2.2):=cT F153 Tryz.ntmps153 fun F hF=>by
 have hf:=Ee hr
 conv=>whnf
 refine G_lit 10 Bj [] E E ?_
 refine A3 ranks.length (fun j=>[(0,.ptr 0 0),(2,.ptr 11 0),(15,.sl 1 Aa ranks),(16,Aa ranks.length),(17,Aa j)]) (fun j=>[(0,.box (Qw n up ranks (.osl 1) (.osl 2))),(1,.row 1 Aa roots),(2,.row 1 Aa costs),(11,.box [.osl 12]),(12,.row 3 Bj (D4 ranks j))]) [(12,10)]
  ⟨⟨rfl,rfl,rfl,rfl,rfl,rfl,rfl,rfl,rfl,rfl,trivial⟩,⟨.inl rfl,rfl,.inl rfl,rfl,.inl rfl,rfl,.inl rfl,rfl,.inl rfl,rfl,trivial⟩,rfl,rfl⟩ ?_
 intro j hj
 refine oO ?_
 refine⟨fun h=>?_,fun h=>?_⟩
 ·have hlt:j<ranks.length:=by simpa using h
  have e1:ranks[(j:Int).toNat]'q_=ranks[j]:=rfl
  have hpush:=Acb (D4 ranks j) ⟨ranks.getD j 0,0,j⟩ (by rw[Kq];omega)
  have hsucc:=Iq ranks j
  rw[Ba (show j<ranks.length by omega)]at hpush hsucc
  refine oO ?_
  refine⟨by omega,by omega,?_⟩
  conv=>whnf
  refine⟨by omega,?_⟩
  rw[e1]
  conv=>whnf
  refine Af (Ad [(0,11),(1,12),(2,28)] E F218 hpush E ⟨E,E,Y⟩ E ⟨.inl E,.inl E,.inr E,Y⟩) E E ?_
  refine oO ?_
  refine iW ?_
  refine Av [(12,28)] hlt ⟨⟨E,E,E,E,E,E,E,E,E,E,Y⟩,⟨.inl E,E,.inl E,E,.inl E,E,.inl E,E,.inl (congrArg (Ob.row 3 Bj) hsucc),E,Y⟩,E,E⟩
 ·have hjl:j=ranks.length:=by
   have:¬ j<ranks.length:=by simpa using h
   omega
  subst hjl
  refine oO ?_
  refine O6 (α:={s:List Item × List Int × List Int // ReachInv n s∧I2 n up s=D}) (fun p=>[(0,.ptr 0 0),(2,.ptr 11 0)]) (fun p=>[(0,.box (Qw n up ranks (.osl 1) (.osl 2))),(1,.row 1 Aa p.1.2.1),(2,.row 1 Aa p.1.2.2),(11,.box [.osl 12]),(12,.row 3 Bj p.1.1)]) (fun p=>reachM p.1) ⟨(D4 ranks ranks.length,roots,costs),Abo n ranks roots costs hr hrk hro hc hrr,hD⟩ []
   ⟨⟨rfl,rfl,rfl,rfl,trivial⟩,⟨.inl rfl,rfl,.inl rfl,rfl,.inl rfl,rfl,.inl rfl,rfl,.inl rfl,rfl,trivial⟩,rfl,rfl⟩ ?_
  rintro ⟨⟨q,ro,co⟩,hI,hDq⟩
  have hlen:=Vt q
  have hdn:=Aix n up (q,ro,co)
  have hds:=Afs n up hr hcost (q,ro,co) hI
  dsimp only at hdn hds ⊢
  refine oO ?_
  refine Af (Eu [12] E F219 hlen (.cons (.row E E) .nil) E E) E E ?_
  refine oO ?_
  refine⟨fun h2=>?_,fun h2=>?_⟩
  ·have hne:q≠[]:=fun e=>by subst e;simp at h2
   have hpop:=Aro q hne (by have:=hI.few;simp only at this;omega)
   have hx:=hI.items _ ((Qc q hne).mem_iff.1 (List.getLast_mem (Dx hne)))
   have hst:Lx n up (q,ro,co)=if 0≤nth ro ((C2 q).getLast (Dx hne)).dev then ((C2 q).dropLast,ro,co) else ((List.range n.ports.length).foldl (C9 n up ((C2 q).getLast (Dx hne))) (C2 q).dropLast,ro.set ((C2 q).getLast (Dx hne)).dev.toNat ((C2 q).getLast (Dx hne)).root,co.set ((C2 q).getLast (Dx hne)).dev.toNat ((C2 q).getLast (Dx hne)).cost):=by
    rw[Lx,Y7 hne]
   have hr1:=Js n up hr hcost (q,ro,co) hI hne
   have hD1:=hds hne
   rw[hDq]at hD1
   rw[hst]at hr1 hD1
   generalize (C2 q).getLast (Dx hne)=x at *
   have hroL:=hI.rootsL
   have hcoL:=hI.costsL
   dsimp only at hroL hcoL
   rw[Ae (l:=ro) (i:=x.dev) q_]at hr1 hD1
   refine oO ?_
   refine Af (Ad [(0,11),(1,12),(2,38)] E F220 hpop E ⟨E,E,Y⟩ E ⟨.inl E,.inl E,.inr E,Y⟩) E E ?_
   refine oO ?_
   refine Af (W0 Γ.toTy E E E E) E E ?_
   (refine rg ?_;(conv=>whnf);refine aF ?_;refine oD ?_)
   have hx1:=hx.1
   have hx2:=hx.2.1
   refine⟨by omega,by omega,?_⟩
   conv=>whnf
   refine⟨E,by omega,?_⟩
   conv=>whnf
   refine kW ?_
   refine⟨fun h3=>?_,fun h3=>?_⟩
   ·have h30:0≤ro[x.dev.toNat]'q_:=of_decide_eq_true h3
    rw[if_pos h30]at hr1 hD1
    refine oO ?_
    exact Si (α:={s:List Item × List Int × List Int // ReachInv n s∧I2 n up s=D}) (L:=fun p=>[(0,.ptr 0 0),(2,.ptr 11 0)]) (O:=fun p=>[(0,.box (Qw n up ranks (.osl 1) (.osl 2))),(1,.row 1 Aa p.1.2.1),(2,.row 1 Aa p.1.2.2),(11,.box [.osl 12]),(12,.row 3 Bj p.1.1)]) (μ:=fun p=>reachM p.1) (x:=⟨(q,ro,co),hI,hDq⟩)
     ⟨((C2 q).dropLast,ro,co),hr1.1,hD1.symm⟩ [(12,38)] hr1.2
     ⟨⟨rfl,rfl,rfl,rfl,trivial⟩,⟨.inl rfl,rfl,.inl rfl,rfl,.inl rfl,rfl,.inl rfl,rfl,.inl rfl,rfl,trivial⟩,rfl,rfl⟩
   ·have h30:¬ 0≤ro[x.dev.toNat]'q_:=of_decide_eq_false h3
    rw[if_neg h30]at hr1 hD1
    refine oO ?_
    refine⟨by omega,by omega,?_⟩
    conv=>whnf
    refine⟨by omega,by omega,?_⟩
    conv=>whnf
    refine⟨x.root,E,E,?_⟩
    conv=>whnf
    refine⟨by omega,by omega,E,by omega,x.cost,E,E,?_⟩
    conv=>whnf
    refine kW ?_
    generalize ro.set x.dev.toNat x.root=ro' at *
    generalize co.set x.dev.toNat x.cost=co' at *
    refine A3 n.ports.length (fun j=>[(0,.ptr 0 0),(2,.ptr 11 0),(5,.ptr 5 0),(77,.sl 7 Au n.ports),(78,Aa n.ports.length),(79,Aa j)]) (fun j=>[(0,.box (Qw n up ranks (.osl 1) (.osl 2))),(1,.row 1 Aa ro'),(2,.row 1 Aa co'),(5,.box [Aa x.root,Aa x.cost,Aa x.dev]),(11,.box [.osl 12]),(12,.row 3 Bj ((List.range j).foldl (C9 n up x) (C2 q).dropLast))]) [(12,38)]
     ⟨⟨rfl,rfl,rfl,rfl,rfl,rfl,rfl,rfl,rfl,rfl,rfl,rfl,trivial⟩,⟨.inl rfl,rfl,.inl rfl,rfl,.inl rfl,rfl,.inl rfl,rfl,.inl rfl,rfl,.inl rfl,rfl,trivial⟩,rfl,rfl⟩ ?_
    intro j hj
    refine oO ?_
    refine⟨fun h4=>?_,fun h4=>?_⟩
    ·have hlt:j<n.ports.length:=by simpa using h4
     have e1:n.ports[(j:Int).toNat]'q_=n.ports[j]:=rfl
     have hfar:=farR n up ranks ro' co' j hr hu hlt
     have hql:(C2 q).dropLast.length≤q.length:=by rw[List.length_dropLast,D2];omega
     have hlenQ:=Yn n up x (C2 q).dropLast j
     have hfew:=hI.few
     dsimp only at hfew
     have hsucc:(List.range (j+1)).foldl (C9 n up x) (C2 q).dropLast=C9 n up x ((List.range j).foldl (C9 n up x) (C2 q).dropLast) j:=by
      rw[List.range_succ,List.foldl_append];rfl
     generalize (List.range j).foldl (C9 n up x) (C2 q).dropLast=Q at *
     rw[C9,Ba hlt]at hsucc
     refine oO ?_
     refine⟨by omega,by omega,?_⟩
     conv=>whnf
     refine⟨by omega,?_⟩
     rw[e1]
     conv=>whnf
     refine Af (Ad [] E F154 hfar E ⟨E,E,E,Y⟩ E ⟨.inl E,.inl E,.inl E,Y⟩) E E ?_
     refine oO ?_
     refine⟨fun h5=>?_,fun h5=>?_⟩
     ·refine oO ?_
      refine⟨fun h6=>?_,fun h6=>?_⟩
      ·have hk0:0≤Df n up j:=of_decide_eq_true h6
       have hk1:=Zt (up:=up) hr hlt hk0
       rw[if_pos ⟨by simpa using h5,hk0⟩,Ae (l:=n.ports) (i:=Df n up j) q_]at hsucc
       have hpc:1≤(n.ports[(Df n up j).toNat]'q_).cost∧(n.ports[(Df n up j).toNat]'q_).cost≤65535:=by
        simp only[Dg,Bool.not_eq_true',List.any_eq_false]at hcost
        have:=hcost _ (List.getElem_mem (show (Df n up j).toNat<n.ports.length by omega))
        simp only[Kn,Bool.or_eq_true,decide_eq_true_eq,not_or]at this
        omega
       have hxc:=hx.2.2.2
       have hpush:=Acb Q ⟨x.root,x.cost+(n.ports[(Df n up j).toNat]'q_).cost,(n.ports[(Df n up j).toNat]'q_).dev⟩ q_
       refine oO ?_
       refine⟨E,hk0,by omega,?_⟩
       conv=>whnf
       refine iW ?_
       refine⟨E,hk0,by omega,?_⟩
       conv=>whnf
       refine Bm (Ad [(0,11),(1,12),(2,123)] E F218 hpush E ⟨E,E,Y⟩ E ⟨.inl E,.inl E,.inr E,Y⟩) z_ E ?_
       refine oD ?_
       refine kW ?_
       refine iW ?_
       refine Av [(12,123)] hlt ⟨⟨E,E,E,E,E,E,E,E,E,E,E,E,Y⟩,⟨.inl E,E,.inl E,E,.inl E,E,.inl E,E,.inl E,E,.inl (congrArg (Ob.row 3 Bj) hsucc),E,Y⟩,E,E⟩
      ·rw[if_neg (fun hh=>(of_decide_eq_false h6) hh.2)]at hsucc
       refine oO ?_
       refine iW ?_
       refine Av [] hlt ⟨⟨E,E,E,E,E,E,E,E,E,E,E,E,Y⟩,⟨.inl E,E,.inl E,E,.inl E,E,.inl E,E,.inl E,E,.inl (congrArg (Ob.row 3 Bj) hsucc),E,Y⟩,E,E⟩
     ·rw[if_neg (fun hh=>absurd hh.1 (by simpa using h5))]at hsucc
      refine oF ?_
      refine iW ?_
      refine Av [] hlt ⟨⟨E,E,E,E,E,E,E,E,E,E,E,E,Y⟩,⟨.inl E,E,.inl E,E,.inl E,E,.inl E,E,.inl E,E,.inl (congrArg (Ob.row 3 Bj) hsucc),E,Y⟩,E,E⟩
    ·have hjl:j=n.ports.length:=by
      have:¬ j<n.ports.length:=by simpa using h4
      omega
     subst hjl
     refine oO ?_
     exact Si (α:={s:List Item × List Int × List Int // ReachInv n s∧I2 n up s=D}) (L:=fun p=>[(0,.ptr 0 0),(2,.ptr 11 0)]) (O:=fun p=>[(0,.box (Qw n up ranks (.osl 1) (.osl 2))),(1,.row 1 Aa p.1.2.1),(2,.row 1 Aa p.1.2.2),(11,.box [.osl 12]),(12,.row 3 Bj p.1.1)]) (μ:=fun p=>reachM p.1) (x:=⟨(q,ro,co),hI,hDq⟩)
      ⟨((List.range n.ports.length).foldl (C9 n up x) (C2 q).dropLast,ro',co'),hr1.1,hD1.symm⟩ [] hr1.2
      ⟨⟨rfl,rfl,rfl,rfl,trivial⟩,⟨.inl rfl,rfl,.inl rfl,rfl,.inl rfl,rfl,.inl rfl,rfl,.inl rfl,rfl,trivial⟩,rfl,rfl⟩
  ·have he:q=[]:=List.eq_nil_of_length_eq_zero (by
    have:¬ 0<q.length:=by simpa using h2
    omega)
   have e:D=(q,ro,co):=by rw[← hDq,hdn he]
   rw[e]
   refine oO ?_
   exact A1 E .nil [] (Abp n up ranks ro co) (fun _ h=>h) E E ⟨Y,⟨.inl E,E,.inl E,E,.inl E,E,Y⟩,E,E⟩
end Go.Sy.YtcflgpijohhfbaaGreat
namespace Go.Sy.YtcflgpijohhfbaaGreat
open Go.Proofs
attribute [local irreducible] Go.Sy.G Go.Sy.DR
set_option maxRecDepth 100000
set_option maxHeartbeats 4000000
def okB (n:Net) (up:List Bool):Bool:=decide (up.length=n.links.length) && (Ac n && Dg n)
theorem ok_iff {n:Net} {up:List Bool}:okB n up=true↔up.length=n.links.length∧Ac n=true∧Dg n=true:=by simp[okB]
def Yi (n:Net) (up:List Bool):List Int:=(M7 n up (D0 n)).2.1
def Z4 (n:Net) (up:List Bool):List Int:=(M7 n up (D0 n)).2.2
def Adn (n:Net) (up:List Bool):SV:=M2 n up (D0 n) (Yi n up) (Z4 n up)
theorem Atp (n:Net) (up:List Bool) (hn:n.Fin) (h:okB n up=false):Sy.Spec Tryz.prog 93 [Aj n,.sl 1 Ab up] [] (.tup [.val (.pointer none),Aa 2]) []:=cT F93 Tryz.ntmps93 fun F hF=>by
 have h':¬ (up.length=n.links.length∧Ac n=true∧Dg n=true):=fun hh=>by rw[ok_iff.2 hh]at h;cases h
 conv=>whnf
 (repeat' (first | (refine⟨fun h=>?_,fun h=>?_⟩<;>(repeat (first | simp only[bne_iff_ne]at h | simp only[bne_eq_false_iff_eq]at h | simp only[Bool.not_eq_true']at h | simp only[Bool.not_eq_false']at h))<;>((refine oO ?_);repeat((refine aT ?_);(refine oO ?_)))) | (refine c0 (At n hn) F12 ?_;((refine oO ?_))) | (refine c0 (Ase n hn.ports) F151 ?_;((refine oO ?_))) | refine Ap rfl (.cons .tmp (.cons .tmp .nil)) rfl rfl))
 all_goals exact absurd ⟨by omega,by assumption,by assumption⟩ h'
def Mv (m j:Nat):List Int:=List.replicate j (-1)++List.replicate (m-j) 0
theorem Aj5 (m:Nat):Mv m 0=List.replicate m 0:=by simp[Mv]
theorem Aon (m:Nat):Mv m m=List.replicate m (-1):=by simp[Mv]
theorem Ad6 (m j:Nat) (h:j≤m):(Mv m j).length=m:=by simp[Mv];omega
theorem Aj6 (m j:Nat) (h:j<m):Mv m (j+1)=(Mv m j).set j (-1):=by
 have e:m-j=(m-(j+1))+1:=by omega
 rw[Mv,Mv,e,List.set_append_right _ _ y_,List.length_replicate,Nat.sub_self,List.replicate_succ' (n:=j),List.replicate_succ (n:=m-(j+1))]
 simp
theorem openOK (n:Net) (up:List Bool) (hn:n.Fin) (hu:up.length=n.links.length) (hr:Ac n=true) (hcost:Dg n=true):Sy.Spec Tryz.prog 93 [Aj n,.sl 1 Ab up] [] (.tup [Adn n up,Aa 0]) []:=cT F93 Tryz.ntmps93 fun F hF=>by
 have hf:=Ee hr
 have hrt:=At n hn
 have hct:=Ase n hn.ports
 have hrs:=ranksS n hn
 rw[hr]at hrt
 rw[hcost]at hct
 rw[hr,if_pos rfl]at hrs
 have hrk:=Kt n
 have hrr:∀ r∈D0 n,0≤r:=fun r h=>(Wl n r h).1
 have hsv:Adn n up=M2 n up (D0 n) (M7 n up (D0 n)).2.1 (M7 n up (D0 n)).2.2:=rfl
 rw[hsv]
 generalize D0 n=ranks at *
 have hreach:=fun D hD=>reachS n up ranks (List.replicate n.devices.length (-1)) (List.replicate n.devices.length 0) hr hu hcost hrk y_ y_ hrr D hD
 have hRT:I2 n up (D4 ranks ranks.length,List.replicate n.devices.length (-1),List.replicate n.devices.length 0)=M7 n up ranks:=rfl
 generalize M7 n up ranks=D at *
 have hreach:=hreach D hRT
 clear hRT hsv
 conv=>whnf
 refine⟨fun h=>absurd h (by simp[hu]),fun h=>?_⟩
 refine oO ?_
 refine c0 hrt F12 ?_
 refine oF ?_
 refine c0 hct F151 ?_
 refine oF ?_
 refine cD hrs F152 ?_
 refine oD ?_
 refine Bm (Bp Γ.toTy (d:=31) (n:=n.devices.length) Aa 0 E E E E E E E E q_ q_ E E E) z_ E ?_
 refine oD ?_
 refine Bm (Bp Γ.toTy (d:=35) (n:=n.devices.length) Aa 0 E E E E E E E E q_ q_ E E E) z_ E ?_
 refine oD ?_
 refine kW ?_
 refine A3 n.devices.length (fun j=>[(6,.ptr 37 0),(42,Aa (List.replicate n.devices.length (0:Int)).length),(43,Aa j)]) (fun j=>[(37,.box (Qw n up ranks (.osl 31) (.osl 35))),(31,.row 1 Aa (Mv n.devices.length j)),(35,.row 1 Aa (List.replicate n.devices.length 0))]) []
  ⟨⟨rfl,rfl,rfl,rfl,rfl,rfl,trivial⟩,⟨.inl rfl,rfl,.inl (by rw[Aj5];rfl),rfl,.inl rfl,rfl,trivial⟩,rfl,rfl⟩ ?_
 intro j hj
 have hlen:=Ad6 n.devices.length j hj
 refine oO ?_
 refine⟨fun h=>?_,fun h=>?_⟩
 ·have hlt:j<n.devices.length:=by simpa using h
  have hsucc:=Aj6 n.devices.length j hlt
  generalize Mv n.devices.length j=u at *
  refine oO ?_
  refine⟨by omega,by omega,?_⟩
  conv=>whnf
  refine⟨E,by omega,-1,E,E,?_⟩
  conv=>whnf
  refine iW ?_
  exact Av [] hlt ⟨⟨E,E,E,E,E,E,Y⟩,⟨.inl E,E,.inl (congrArg (Ob.row 1 Aa) hsucc),E,.inl E,E,Y⟩,E,E⟩
 have hjl:j=n.devices.length:=by
  have:¬ j<n.devices.length:=by simpa using h
  omega
 subst hjl
 have hall:=Aon n.devices.length
 rw[← hall]at hreach
 refine oO ?_
 refine Af (Ad [(0,37),(1,31),(2,35)] E F153 hreach E ⟨E,E,E,Y⟩ E ⟨.inl E,.inl E,.inl E,Y⟩) E E ?_
 refine Ah 31 E ?_
 refine Ah 35 E ?_
 refine Aw 37 12 (.agg (Qw n up ranks (.sl 1 Aa D.2.1) (.sl 1 Aa D.2.2))) E E E ?_
 refine oO ?_
 exact dN
theorem Ae0 {n:Net} {up:List Bool} (h:okB n up=true):Solved n up (D0 n) (Yi n up) (Z4 n up):=by
 obtain ⟨hu,hr,hcost⟩:=ok_iff.1 h
 exact Aap n up (D0 n) hr hcost (Kt n) (fun r h=>(Wl n r h).1)
def Ada (n:Net) (up:List Bool):List Int:=rolesL n up (D0 n) (Yi n up) (Z4 n up)
def fwdT (n:Net) (up:List Bool):List Bool:=fwdL n (Ada n up)
theorem Aao (n:Net) (up:List Bool):(Ada n up).length=n.ports.length:=Ik ..
theorem Ajc (n:Net) (up:List Bool) (h:okB n up=true):Sy.Spec Tryz.prog 94 [Adn n up] [] (.sl 1 Aa (Ada n up)) []:=by
 obtain ⟨hu,hr,hcost⟩:=ok_iff.1 h
 have S:=Ae0 h
 exact rolesS n up (D0 n) (Yi n up) (Z4 n up) hr hu hcost (Kt n) S.rootsL S.costsL (fun c hc=>by have:=S.bound c hc;omega)
theorem Zo (n:Net) (up:List Bool) (hn:n.Fin) (h:okB n up=false):Sy.Spec Tryz.prog 58 [Aj n,.sl 1 Ab up] [] (.tup [.sl 1 Ab [],Aa 2]) []:=cT F58 Tryz.ntmps58 fun F hF=>by
 conv=>whnf
 refine c0 (Atp n up hn h) F93 ?_
 refine oT ?_
 refine Ao 4 1 Ab E ?_
 exact dN
def Xp (n:Net) (roles:List Int) (j:Nat):List Bool:=(n.links.take j).map (Ary roles)++List.replicate (n.links.length-j) false
theorem Aoj (n:Net) (roles:List Int):Xp n roles 0=List.replicate n.links.length false:=by simp[Xp]
theorem Arx (n:Net) (roles:List Int):Xp n roles n.links.length=fwdL n roles:=by simp[Xp,fwdL]
theorem Ag2 (n:Net) (roles:List Int) (j:Nat) (h:j≤n.links.length):(Xp n roles j).length=n.links.length:=by simp[Xp];omega
theorem Aok (n:Net) (roles:List Int) (j:Nat) (h:j<n.links.length):Xp n roles (j+1)=(Xp n roles j).set j (Ary roles n.links[j]):=by
 have e:n.links.length-j=(n.links.length-(j+1))+1:=by omega
 have el:((n.links.take j).map (Ary roles)).length=j:=by simp;omega
 rw[Xp,Xp,List.set_append_right _ _ q_,el,Nat.sub_self,List.take_succ_eq_append_getElem h,List.map_append,e,List.replicate_succ,List.set_cons_zero]
 simp
theorem Ach (n:Net) (up:List Bool) (hn:n.Fin) (h:okB n up=true):Sy.Spec Tryz.prog 58 [Aj n,.sl 1 Ab up] [] (.tup [.sl 1 Ab (fwdT n up),Aa 0]) []:=cT F58 Tryz.ntmps58 fun F hF=>by
 obtain ⟨hu,hr,hcost⟩:=ok_iff.1 h
 have hf:=Ee hr
 have ho:=openOK n up hn hu hr hcost
 have hro:=Ajc n up h
 have hrl:=Aao n up
 rw[fwdT]
 generalize Ada n up=roles at *
 unfold Adn at ho hro
 generalize D0 n=ranks at *
 generalize Yi n up=roots at *
 generalize Z4 n up=costs at *
 conv=>whnf
 refine c0 ho F93 ?_
 refine oF ?_
 refine c0 hro F94 ?_
 refine oO ?_
 refine Af (Bp Γ.toTy (d:=27) (n:=n.links.length) Ab false E E E E E E E E q_ q_ E E E) E E ?_
 rw[← Aoj n roles]
 refine oO ?_
 refine A3 n.links.length (fun j=>[(8,.sl 1 Aa roles),(9,.osl 27),(29,.sl 3 Bl n.links),(30,Aa n.links.length),(31,Aa j)]) (fun j=>[(27,.row 1 Ab (Xp n roles j))]) []
  ⟨⟨rfl,rfl,rfl,rfl,rfl,rfl,rfl,rfl,rfl,rfl,trivial⟩,⟨.inl rfl,rfl,trivial⟩,rfl,rfl⟩ ?_
 intro j hj
 have hall:=Arx n roles
 refine oO ?_
 refine⟨fun h=>?_,fun h=>?_⟩
 ·have hlt:j<n.links.length:=by simpa using h
  have he:=Lf hr hlt
  have e1:n.links[(j:Int).toNat]'q_=n.links[j]:=rfl
  have hlen:=Ag2 n roles j hj
  have hsucc:=Aok n roles j hlt
  generalize Xp n roles j=u at *
  generalize n.links[j]=l at *
  rw[Ary,Ae (l:=roles) (i:=l.a) q_,Ae (l:=roles) (i:=l.b) q_]at hsucc
  refine oO ?_
  refine⟨E,by omega,by omega,?_⟩
  rw[e1]
  conv=>whnf
  refine⟨E,by omega,by omega,?_⟩
  conv=>whnf
  refine⟨E,by omega,by omega,?_⟩
  conv=>whnf
  refine kW ?_
  have hA:0≤l.a∧l.a<roles.length:=by omega
  have hB:0≤l.b∧l.b<roles.length:=by omega
  obtain ⟨x,hx⟩:∃ x,roles[l.a.toNat]'q_=x:=⟨_,rfl⟩
  obtain ⟨y,hy⟩:∃ y,roles[l.b.toNat]'q_=y:=⟨_,rfl⟩
  rw[hx,hy]at hsucc
  refine Ahz 46 (e:=Aa) (l:=[x,y]) E (by rw[← hx,← hy];rfl) ?_
  refine Ah 46 E ?_
  refine c0 (C0 [x,y] 1 (by unfold Ak;simp)) F14 ?_
  refine oO ?_
  refine⟨fun h1=>?_,fun h1=>?_⟩
  ·rw[h1,Bool.true_and]at hsucc
   refine oO ?_
   refine c0 (C0 [x,y] 2 (by unfold Ak;simp)) F14 ?_
   refine oO ?_
   refine⟨by omega,by omega,?_⟩
   conv=>whnf
   refine⟨E,by omega,inB [x,y] 2,E,E,?_⟩
   conv=>whnf
   refine iW ?_
   exact Av [] hlt ⟨⟨E,E,E,E,E,E,E,E,E,E,Y⟩,⟨.inl (congrArg (Ob.row 1 Ab) hsucc),E,Y⟩,E,E⟩
  ·rw[h1,Bool.false_and]at hsucc
   refine oO ?_
   refine⟨by omega,by omega,?_⟩
   conv=>whnf
   refine⟨E,by omega,false,E,E,?_⟩
   conv=>whnf
   refine iW ?_
   exact Av [] hlt ⟨⟨E,E,E,E,E,E,E,E,E,E,Y⟩,⟨.inl (congrArg (Ob.row 1 Ab) hsucc),E,Y⟩,E,E⟩
 have hjl:j=n.links.length:=by
  have:¬ j<n.links.length:=by simpa using h
  omega
 subst hjl
 rw[← hall]
 refine oO ?_
 refine Ah 27 E ?_
 exact dN
end Go.Sy.YtcflgpijohhfbaaGreat
namespace Go.Sy.YtcflgpijohhfbaaGreat
open Go.Proofs
structure MacM where
 up:List Bool
 tables:List (List EntryM)
 queues:List (List QueuedM)
 now:Int
 injected:Int
 drops:Nat→Int
def Cg (m:MacM) (e:Int):MacM:=⟨m.up,m.tables,m.queues,m.now,m.injected,fun i=>if i=e.toNat then m.drops i+1 else m.drops i⟩
def queueL (m:MacM) (dom:Int):List QueuedM:=(m.queues[dom.toNat]?).getD []
def tableL (m:MacM) (dom:Int):List EntryM:=(m.tables[dom.toNat]?).getD []
def Am5 (m:MacM) (dom:Int) (l:List QueuedM):MacM:=⟨m.up,m.tables,m.queues.set dom.toNat l,m.now,m.injected,m.drops⟩
def E2 (m:MacM) (dom:Int) (t:List EntryM):MacM:=⟨m.up,m.tables.set dom.toNat t,m.queues,m.now,m.injected,m.drops⟩
def comeM (m:MacM) (dom:Int) (q:QueuedM) (e:Int):MacM :=
 if e≠0 then Cg m e else if (pushT (queueL m dom) q).2=true then Am5 m dom (pushT (queueL m dom) q).1 else Cg m 3
def takeM (m:MacM) (dom at_:Int):MacM × QueuedM × Bool :=
 if Ai dom m.queues.length=false then (m,noQ,false)
 else (Am5 m dom (takeT (queueL m dom) at_).2.1,(takeT (queueL m dom) at_).1,(takeT (queueL m dom) at_).2.2)
def injectT (n:Net) (m:MacM) (port:Int) (b:List UInt8):MacM :=
 if Ai port n.ports.length=false∨0≤(nth n.ports port).link then m
 else comeM ⟨m.up,m.tables,m.queues,m.now,m.injected+1,m.drops⟩ (enterT n port b).1 ⟨port,0,m.injected+1,(enterT n port b).2.1⟩ (enterT n port b).2.2
def goesM (n:Net) (m:MacM) (o:OutM) (origin:Int):MacM × List SeenM :=
 if o.kind=1 then (m,[⟨o.port,origin,o.bytes⟩])
 else if o.kind=2 then (comeM m (linkT n o.port o.bytes).2.1 ⟨(linkT n o.port o.bytes).1,0,origin,(linkT n o.port o.bytes).2.2.1⟩ (linkT n o.port o.bytes).2.2.2,[])
 else if o.kind=3 then (comeM m (comeT n o.bytes).2.1 ⟨-1,(comeT n o.bytes).1,origin,(comeT n o.bytes).2.2.1⟩ (comeT n o.bytes).2.2.2,[])
 else if o.kind=4 then (comeM m o.domain ⟨-2,0,origin,o.frame⟩ 0,[])
 else (Cg m o.error,[])
def Bz (n:Net) (m:MacM) (origin:Int):List OutM→MacM × List SeenM
 | []=>(m,[])
 | o::l=>((Bz n (goesM n m o origin).1 origin l).1,(goesM n m o origin).2++(Bz n (goesM n m o origin).1 origin l).2)
def Li (n:Net) (up:List Bool):List Bool:=if okB n up=true then fwdT n up else []
def Af2 (n:Net) (m:MacM) (dom:Int) (q:QueuedM):List EntryM × List OutM × Int:=bridgeT n (Li n m.up) (tableL m dom) dom q m.now
def Tz (m:MacM) (dom:Int) (r:List EntryM × List OutM × Int):MacM :=
 if r.2.2=2 then Cg m 2 else if r.2.2≠0 then Cg (E2 m dom r.1) r.2.2 else E2 m dom r.1
def pickT (n:Net) (m:MacM) (dom at_:Int):MacM × List SeenM :=
 if (takeM m dom at_).2.2=false then ((takeM m dom at_).1,[])
 else Bz n (Tz (takeM m dom at_).1 dom (Af2 n (takeM m dom at_).1 dom (takeM m dom at_).2.1)) (takeM m dom at_).2.1.origin (Af2 n (takeM m dom at_).1 dom (takeM m dom at_).2.1).2.1
def Qv (m:MacM):MacM :=
 let now:=min (m.now+1) 1099511627776
 ⟨m.up,m.tables.map (fun t=>ageT t now),m.queues,now,m.injected,m.drops⟩
def doT (n:Net) (m:MacM) (x:StepM):MacM × List SeenM :=
 if x.kind=1 then (injectT n m x.port x.bytes,[])
 else if x.kind=2 then pickT n m x.domain x.at_
 else if x.kind=3 then ((takeM m x.domain x.at_).1,[])
 else if x.kind=4 then (Qv m,[])
 else if x.kind=5 then ((if x.up.length=n.links.length then ⟨x.up,m.tables,m.queues,m.now,m.injected,m.drops⟩ else m),[])
 else (m,[])
def newT (n:Net):MacM:=⟨List.replicate n.links.length true,List.replicate n.domains.length [],List.replicate n.domains.length [],0,0,fun _=>0⟩
def Bu (e:Int):Prop:=0≤e∧e<64
def DomIn (n:Net) (d:Int):Prop:=0≤d∧d.toNat<n.domains.length
theorem Jv {n:Net} {d:Int} (h:Ai d n.domains.length=true):DomIn n d:=by
 have:=B8 h
 unfold DomIn
 omega
theorem Vl (b:List UInt8):Bu (takeF b).2:=by
 unfold takeF Bu
 repeat' split
 all_goals (dsimp only;omega)
theorem Ah7 (f:FrameM):Bu (stripT f).2.2.2:=by
 unfold stripT Bu
 repeat' split
 all_goals (dsimp only;omega)
theorem Zu (n:Net) (port:Int) (b:List UInt8):Bu (enterT n port b).2.2:=by
 have h1:=Vl b
 have h2:=Ah7 (takeF b).1
 have h3:∀ f tg v,Bu (J8 n port f tg v).2.2:=fun f tg v=>by
  unfold J8 Bu
  repeat' split
  all_goals (dsimp only;omega)
 unfold enterT
 split
 ·unfold Bu;dsimp only;omega
 split
 ·exact h1
 split
 ·split
  ·exact h2
  ·exact h3 _ _ _
 ·exact h3 _ _ _
theorem An5 (n:Net) (port:Int) (b:List UInt8):Bu (linkT n port b).2.2.2:=by
 unfold linkT
 split
 ·unfold Bu;dsimp only;omega
 ·exact Zu _ _ _
theorem Aji (n:Net) (port dom:Int) (f:FrameM):Bu (leaveT n port dom f).2:=by
 unfold leaveT
 split
 ·unfold Bu;dsimp only;omega
 split
 ·unfold Bu;dsimp only;omega
 split
 ·unfold Bu;dsimp only;omega
 split
 ·unfold Bu;dsimp only;omega
 split
 ·show Bu (tagT f (nth n.domains dom).vlan).2
  unfold tagT Bu
  repeat' split
  all_goals (dsimp only;omega)
 ·unfold Bu;dsimp only;omega
theorem Amg (a b:Nat) (v:Int) (f:FrameM):Bu (wrapT a b v f).2:=by
 unfold wrapT Bu
 repeat' split
 all_goals (dsimp only;omega)
theorem An0 (n:Net) (dom peer:Int) (f:FrameM):Bu (meshT n dom peer f).2:=by
 unfold meshT
 split
 ·unfold Bu;dsimp only;omega
 split
 ·unfold Bu;dsimp only;omega
 ·exact Amg _ _ _ _
theorem Wv (b:List UInt8):Bu (ipTakeT b).2:=by
 unfold ipTakeT Bu
 repeat' split
 all_goals (dsimp only;omega)
theorem Acz (b:List UInt8):Bu (udpTakeT b).2.2.2:=by
 unfold udpTakeT Bu
 repeat' split
 all_goals (dsimp only;omega)
theorem Aph (b:List UInt8):Bu (vniT b).2.2:=by
 unfold vniT Bu
 repeat' split
 all_goals (dsimp only;omega)
theorem Ai8 (b:List UInt8):Bu (outerT b).2:=by
 unfold outerT
 split
 ·exact Vl _
 split
 ·unfold Bu;dsimp only;omega
 split
 ·exact Wv _
 ·unfold Bu;dsimp only;split<;>omega
theorem Ajt (b:List UInt8):Bu (Kz b).2.2:=by
 unfold Kz
 split
 ·exact Acz _
 split
 ·unfold Bu;dsimp only;omega
 split
 ·exact Aph _
 split
 ·exact Vl _
 split
 ·unfold Bu;dsimp only;omega
 ·unfold Bu;dsimp only;omega
theorem Aey (b:List UInt8):Bu (B5 b).2.2.2.2:=by
 unfold B5
 split
 ·exact Ai8 _
 split
 ·exact Ajt _
 ·unfold Bu;dsimp only;omega
theorem Aov (n:Net) (b:List UInt8):Bu (comeT n b).2.2.2:=by
 unfold comeT
 split
 ·unfold Bu;dsimp only;omega
 split
 ·exact Aey _
 split
 ·unfold Bu;dsimp only;omega
 split
 ·unfold Bu;dsimp only;omega
 ·unfold Bu;dsimp only;omega
theorem Arm (n:Net) (irb:Int) (f:FrameM):Bu (hopT n irb f).2.2:=by
 unfold hopT
 split
 ·unfold Bu;dsimp only;omega
 split
 ·unfold Bu;dsimp only;omega
 split
 ·exact Wv _
 split
 ·unfold Bu;dsimp only;omega
 split
 ·unfold Bu;dsimp only;omega
 split
 ·unfold Bu;dsimp only;omega
 ·unfold Bu;dsimp only;omega
theorem Ahm (n:Net) (fw:List Bool) (t:List EntryM) (dom:Int) (q:QueuedM) (now:Int):Bu (bridgeT n fw t dom q now).2.2:=by
 unfold bridgeT
 split
 ·unfold Bu;dsimp only;omega
 split
 ·split
  ·exact Arm _ _ _
  ·unfold Bu;dsimp only;omega
 ·unfold Bu;dsimp only;omega
theorem Al5 {n:Net} {dev v:Int} (h:Di n dev v=true):DomIn n (Ej n dev v):=by
 have h1:0≤Ej n dev v:=by simpa [Di] using h
 have h2:Ej n dev v<n.domains.length:=Em _ _
 exact⟨h1,by omega⟩
theorem Api {n:Net} (hb:Ac n=true) {port:Int} (hp:Ai port n.ports.length=true) {tg:Bool} {vid:Int} (h:(vlanT (nth n.ports port) tg vid).2=true):DomIn n (Ej n (nth n.ports port).dev (vlanT (nth n.ports port) tg vid).1):=by
 have hk:=B8 hp
 have hk2:port.toNat<n.ports.length:=by omega
 simp only[Ac,Bool.and_eq_true]at hb
 have hpb:=allB_iff.1 hb.1.1.1.1.1.2 _ hk2
 rw[Ae hk2]at h ⊢
 generalize n.ports[port.toNat]=p at *
 simp only[I7,Bool.and_eq_true]at hpb
 obtain ⟨⟨⟨⟨⟨⟨⟨⟨g1,g2⟩,g3⟩,g4⟩,g5⟩,g6⟩,g7⟩,g8⟩,g9⟩:=hpb
 unfold vlanT at h ⊢
 split
 ·rw[if_pos (by assumption)]at h
  have h1:p.native≠0:=by simpa using h
  have h2:0≤p.native:=by simpa using g2
  refine Al5 ?_
  have h3:decide (0<p.native)=true:=by simp;omega
  rw[h3,Bool.true_and]at g8
  simpa using g8
 ·rw[if_neg (by assumption)]at h
  split
  ·rename_i h4
   have h5:vid∈p.tagged:=inB_mem.1 h4
   obtain ⟨i,hi,rfl⟩:=List.mem_iff_getElem.1 h5
   exact Al5 (allB_iff.1 g7 i hi)
  ·rw[if_neg (by assumption)]at h
   cases h
theorem Zv {n:Net} {port:Int} {b:List UInt8} (h:(enterT n port b).2.2=0):DomIn n (enterT n port b).1:=by
 unfold enterT at h ⊢
 split
 ·rw[if_pos (by assumption)]at h;cases h
 rename_i hc
 rw[if_neg hc]at h
 have hp:Ai port n.ports.length=true:=by cases hx:Ai port n.ports.length;exact absurd (.inl hx) hc;rfl
 have hb:Ac n=true:=by cases hx:Ac n;exact absurd (.inr hx) hc;rfl
 have key:∀ f tg v,(J8 n port f tg v).2.2=0→DomIn n (J8 n port f tg v).1:=fun f tg v h=>by
  unfold J8 at h ⊢
  split
  ·rw[if_pos (by assumption)]at h;cases h
  rw[if_neg (by assumption)]at h
  split
  ·rw[if_pos (by assumption)]at h;cases h
  rename_i h5
  show DomIn n (B1 n _ _)
  rw[B1,if_pos hb]
  exact Api hb hp (by simpa using h5)
 split
 ·rename_i h2
  rw[if_pos h2]at h
  exact absurd h h2
 rename_i h2
 rw[if_neg h2]at h
 split
 ·rename_i h3
  rw[if_pos h3]at h
  split
  ·rename_i h4
   rw[if_pos h4]at h
   exact absurd h h4
  ·rename_i h4
   rw[if_neg h4]at h
   exact key _ _ _ h
 ·rename_i h3
  rw[if_neg h3]at h
  exact key _ _ _ h
theorem An6 {n:Net} {port:Int} {b:List UInt8} (h:(linkT n port b).2.2.2=0):DomIn n (linkT n port b).2.1:=by
 unfold linkT at h ⊢
 split
 ·rw[if_pos (by assumption)]at h;cases h
 ·rename_i h2
  rw[if_neg h2]at h
  exact Zv h
theorem Af3 {n:Net} (hb:Ac n=true) {dom:Nat} (hd:dom<n.domains.length) {k:Int} (hk:k∈n.domains[dom].peers):DomIn n k:=by
 simp only[Ac,Bool.and_eq_true]at hb
 have:=allB_iff.1 hb.1.1.1.1.1.1.2 _ hd
 obtain ⟨i,hi,rfl⟩:=List.mem_iff_getElem.1 hk
 have h2:=allB_iff.1 this i hi
 simp only[Wo,Bool.and_eq_true]at h2
 exact Jv h2.1.1.1.1.1.1.1.1.1
theorem Ar4 {n:Net} (hb:Ac n=true) {src dst:Nat} {vni:Int} (h:¬ (endsT n src dst vni).1<0):DomIn n (endsT n src dst vni).1∧DomIn n (endsT n src dst vni).2:=by
 unfold endsT at h ⊢
 dsimp only at h ⊢
 split
 ·rw[if_pos (by assumption)]at h;exact absurd j_ h
 rename_i h1
 rw[if_neg h1]at h
 split
 ·rw[if_pos (by assumption)]at h;exact absurd j_ h
 rename_i h2
 have hd:=Em (fun d:Domain=>decide (d.dev=B9 (fun d:Device=>decide (d.vtep=(dst:Int))) n.devices) && decide (d.vni=vni)) n.domains
 generalize B9 (fun d:Domain=>decide (d.dev=B9 (fun d:Device=>decide (d.vtep=(dst:Int))) n.devices) && decide (d.vni=vni)) n.domains=dom at *
 have hd2:dom.toNat<n.domains.length:=by omega
 have hi:=Em (fun k:Int=>decide (I6 n k=(src:Int))) (nth n.domains dom).peers
 generalize B9 (fun k:Int=>decide (I6 n k=(src:Int))) (nth n.domains dom).peers=i at *
 rw[Ae hd2]at hi ⊢
 have hi2:i.toNat<(n.domains[dom.toNat]).peers.length:=by omega
 refine⟨?_,⟨by dsimp only;omega,hd2⟩⟩
 show DomIn n (nth (n.domains[dom.toNat]).peers i)
 rw[Ae hi2]
 exact Af3 hb hd2 (List.getElem_mem hi2)
theorem Acp {n:Net} {b:List UInt8} (h:(comeT n b).2.2.2=0):DomIn n (comeT n b).1∧DomIn n (comeT n b).2.1:=by
 unfold comeT at h ⊢
 split
 ·rw[if_pos (by assumption)]at h;cases h
 rename_i hb
 rw[if_neg hb]at h
 split
 ·rename_i h2
  rw[if_pos h2]at h;exact absurd h h2
 rename_i h2
 rw[if_neg h2]at h
 split
 ·rw[if_pos (by assumption)]at h;cases h
 rename_i h3
 rw[if_neg h3]at h
 split
 ·rw[if_pos (by assumption)]at h;cases h
 exact Ar4 (by simpa using hb) h3
theorem Arn {n:Net} {irb:Int} {f:FrameM} (hin:∀ (d:Int),(lookT n irb d).2=true→0≤(lookT n irb d).1∧(lookT n irb d).1.toNat<n.irbs.length) (h:(hopT n irb f).2.2=0):DomIn n (hopT n irb f).1:=by
 unfold hopT at h ⊢
 split
 ·rw[if_pos (by assumption)]at h;cases h
 rename_i h1
 rw[if_neg h1]at h
 split
 ·rw[if_pos (by assumption)]at h;cases h
 rename_i h2
 rw[if_neg h2]at h
 split
 ·rename_i h3
  rw[if_pos h3]at h;exact absurd h h3
 rename_i h3
 rw[if_neg h3]at h
 split
 ·rw[if_pos (by assumption)]at h;cases h
 rename_i h4
 rw[if_neg h4]at h
 split
 ·rw[if_pos (by assumption)]at h;cases h
 rename_i h5
 rw[if_neg h5]at h
 split
 ·rw[if_pos (by assumption)]at h;cases h
 have hl:=hin ((ipTakeT f.body).1.dst:Int) (by simpa using h5)
 have hb:Ac n=true:=by cases hx:Ac n;exact absurd (.inr hx) h1;rfl
 have:=(Dp hb hl.2).1
 show DomIn n (nth n.irbs _).domain
 rw[Ae hl.2]
 exact this
end Go.Sy.YtcflgpijohhfbaaGreat
namespace Go.Sy.YtcflgpijohhfbaaGreat
open Go.Proofs
attribute [local irreducible] Go.Sy.G Go.Sy.DR
set_option maxRecDepth 100000
set_option maxHeartbeats 4000000
theorem Sw (l:List Device) (p:Device→Bool) (f:FuncId) (first cap:List SV) (hc:(SV.clo (.func f) first cap).inn []=true) (hf:∀ x∈l,Ek Tryz.prog f (first++[Aq x]++cap) (Ab (p x))) (hl:Ak l) :
  Sy.Spec Tryz.prog 202 [.sl 5 Aq l,.clo (.func f) first cap] [] (Aa (B9 p l)) []:=cT F202 Tryz.ntmps202 fun F hF=>by
 unfold Ak at hl
 have hin:∀ x:Device,By [] (first++[Aq x]++cap)=true:=fun x=>Cj hc rfl
 refine fW ?_
 refine Be l.length (fun j=>Hk (fun _ x=>!(p x)) l j) (fun j=>[(0,.sl 5 Aq l),(1,.clo (.func f) first cap),(7,Aa l.length),(8,Aa j)]) (fun _=>[]) [] (Bk _ _) ⟨⟨E,E,A5 _,hc,E,E,E,E,Y⟩,Y,E,E⟩ ?_
 intro j hj hI
 refine fU ?_
 refine⟨fun h=>?_,fun h=>?_⟩
 ·have h:=of_decide_eq_true h
  have hj2:j<l.length:=by omega
  refine fU ?_
  refine⟨E,by omega,by omega,?_⟩
  refine fW ?_
  refine Dq (hf l[j] (List.getElem_mem hj2)) E E E (by simp only[hin];rfl) E E ?_
  refine fU ?_
  refine⟨fun h2=>?_,fun h2=>?_⟩
  ·refine fU ?_
   refine Ap E (.cons .tmp .nil) (congrArg Aa ?_) E
   exact Cm hj2 (fun i hi hij=>by simpa using hI i hi hij) h2
  ·refine fU ?_
   refine iL ?_
   refine fW ?_
   exact Bb [] hI hj2 (Bf hI hj2 (by simp[h2])) ⟨⟨E,E,A5 _,hc,E,E,E,E,Y⟩,Y,E,E⟩
 ·have h:=of_decide_eq_false h
  refine fU ?_
  refine Ap E (.cons .tmp .nil) (congrArg Aa ?_) E
  exact Cy (fun i hi=>by simpa using hI i hi q_)
theorem Ad9 {n:Net} (hb:Ac n=true) {d:Int} (hd:DomIn n d):0≤(n.domains[d.toNat]'hd.2).dev∧(n.domains[d.toNat]'hd.2).dev.toNat<n.devices.length:=by
 simp only[Ac,Bool.and_eq_true]at hb
 have:=Ahr hb.1.1.1.1.1.1.1.2 hd.2
 have:=B8 this
 omega
theorem Aep {n:Net} (hb:Ac n=true) {d:Int} (hd:DomIn n d):I6 n d=(n.devices[(n.domains[d.toNat]'hd.2).dev.toNat]'(Ad9 hb hd).2).vtep:=by
 rw[I6,Ae hd.2,Ae (Ad9 hb hd).2]
theorem Aeo {n:Net} (hm:n.Num) (hb:Ac n=true) {d:Int} (hd:DomIn n d):0≤I6 n d∧I6 n d<4294967296:=by
 rw[Aep hb hd]
 exact hm.vtep _ (List.getElem_mem _)
theorem Su (n:Net) (hb:Ac n=true) (d:Int) (hd:DomIn n d):Sy.Spec Tryz.prog 236 [Aj n,Aa d] [] (A4 (I6 n d)) []:=cT F236 Tryz.ntmps236 fun F hF=>by
 have hv:=Aep hb hd
 have h2:=Ad9 hb hd
 obtain ⟨x,hx⟩:∃ x,n.domains[d.toNat]'hd.2=x:=⟨_,rfl⟩
 rw[hx]at h2
 simp only[hx]at hv
 obtain ⟨y,hy⟩:∃ y,n.devices[x.dev.toNat]'h2.2=y:=⟨_,rfl⟩
 rw[hy]at hv
 rw[hv]
 conv=>whnf
 refine⟨E,hd.1,hd.2,?_⟩
 rw[hx]
 conv=>whnf
 refine⟨E,h2.1,h2.2,?_⟩
 rw[hy]
 conv=>whnf
 refine kW ?_
 exact dN
theorem Ajj (n:Net) (hn:n.Fin) (hm0:n.Num) (dom peer:Int) (f:FrameM) (h:FrameOK f) :
  Sy.Spec Tryz.prog 169 [Aj n,Aa dom,Aa peer,Ce f] [] (.tup [.sl 1 Al (meshT n dom peer f).1,Aa (meshT n dom peer f).2]) []:=cT F169 Tryz.ntmps169 fun F hF=>by
 have hres:=meshT.eq_1 n dom peer f
 generalize meshT n dom peer f=res at *
 have hr:=At n hn
 have hpS:=Kj peer n.domains.length
 have hdS:=Kj dom n.domains.length
 conv=>whnf
 refine Aw 4 8 (Aj n) E E E ?_
 refine Aw 7 4 (Ce f) E E E ?_
 refine oO ?_
 refine c0 hpS F232 ?_
 cases hpl:Ai peer n.domains.length
 ·rw[if_pos (.inl hpl)]at hres
  subst hres
  (refine oT ?_;refine bT ?_;refine bT ?_)
  refine Ao 8 1 Al E ?_
  exact dN
 refine oF ?_
 refine c0 hdS F232 ?_
 cases hdl:Ai dom n.domains.length
 ·rw[if_pos (.inr (.inl hdl))]at hres
  subst hres
  (refine oT ?_;refine bT ?_)
  refine Ao 8 1 Al E ?_
  exact dN
 refine oF ?_
 refine c0 hr F12 ?_
 cases hbn:Ac n
 ·rw[if_pos (.inr (.inr hbn))]at hres
  subst hres
  refine oT ?_
  refine Ao 8 1 Al E ?_
  exact dN
 rw[if_neg (by simp[hbn,hpl,hdl])]at hres
 have hd:=Jv hdl
 have hp:=Jv hpl
 have hd0:=hd.1
 have hkd:=hd.2
 have e2:nth n.domains dom=n.domains[dom.toNat]:=Ae hkd
 have hpe:=hn.peers _ (List.getElem_mem hkd)
 have va:=Aeo hm0 hbn hd
 have vb:=Aeo hm0 hbn hp
 have qa:=Su n hbn dom hd
 have qb:=Su n hbn peer hp
 generalize I6 n dom=a at *
 generalize I6 n peer=c at *
 obtain ⟨a,rfl⟩:=Int.eq_ofNat_of_zero_le va.1
 obtain ⟨c,rfl⟩:=Int.eq_ofNat_of_zero_le vb.1
 rw[Int.toNat_natCast,Int.toNat_natCast]at hres
 obtain ⟨d,hdd⟩:∃ d,n.domains[dom.toNat]'hkd=d:=⟨_,rfl⟩
 rw[hdd]at e2 hpe
 rw[e2]at hres
 have qc:=C0 d.peers peer hpe
 have qw:=As4 a c d.vni f q_ q_ h
 refine oF ?_
 refine⟨E,hd0,hkd,?_⟩
 rw[hdd]
 conv=>whnf
 refine c0 qc F14 ?_
 cases hi:inB d.peers peer
 ·rw[if_pos hi]at hres
  subst hres
  refine oT ?_
  refine Ao 8 1 Al E ?_
  exact dN
 rw[if_neg (by rw[hi];decide)]at hres
 subst hres
 refine oF ?_
 refine cD qa F236 ?_
 refine oD ?_
 refine cD qb F236 ?_
 refine oD ?_
 refine⟨E,hd0,hkd,?_⟩
 rw[hdd]
 conv=>whnf
 refine cD qw F235 ?_
 refine oD ?_
 refine kW ?_
 exact dN
theorem endsC1 (dst:Int) (d:Device):Sy.Spec Tryz.prog 293 [Aq d,.ref 1 (A4 dst) 0] [] (Ab (decide (d.vtep=dst))) []:=cT F293 Tryz.ntmps293 fun F hF=>by
 conv=>whnf
 refine Ap E (.cons .tmp .nil) (congrArg Ab ?_) E
 rw[Bool.eq_iff_iff]
 simp
theorem endsC2 (dev vni:Int) (d:Domain):Sy.Spec Tryz.prog 294 [An d,.ref 1 (Aa dev) 0,.ref 1 (Aa vni) 0] [] (Ab (decide (d.dev=dev) && decide (d.vni=vni))) []:=cT F294 Tryz.ntmps294 fun F hF=>by
 conv=>whnf
 refine⟨fun h=>?_,fun h=>?_⟩
 ·have h1:d.dev=dev:=by simpa using h
  refine oO ?_
  refine Ap E (.cons .tmp .nil) (congrArg Ab ?_) E
  rw[decide_eq_true h1,Bool.true_and,Bool.eq_iff_iff]
  simp
 ·have h1:¬ d.dev=dev:=by simpa using h
  refine oO ?_
  refine Ap E (.cons .tmp .nil) (congrArg Ab ?_) E
  rw[decide_eq_false h1,Bool.false_and]
theorem endsC3 (n:Net) (hb:Ac n=true) (src:Int) (k:Int) (hk:DomIn n k):Sy.Spec Tryz.prog 296 [Aa k,.ref 8 (Aj n) 0,.ref 1 (A4 src) 0] [] (Ab (decide (I6 n k=src))) []:=cT F296 Tryz.ntmps296 fun F hF=>by
 have q:=Su n hb k hk
 conv=>whnf
 refine cD q F236 ?_
 refine oD ?_
 refine kW ?_
 refine Ap E (.cons .tmp .nil) (congrArg Ab ?_) E
 rw[Bool.eq_iff_iff]
 simp
theorem endsS (n:Net) (hn:n.Fin) (hb:Ac n=true) (src dst:Nat) (vni:Int) :
  Sy.Spec Tryz.prog 239 [Aj n,A4 src,A4 dst,Aa vni] [] (.tup [Aa (endsT n src dst vni).1,Aa (endsT n src dst vni).2]) []:=cT F239 Tryz.ntmps239 fun F hF=>by
 have hres:=endsT.eq_1 n src dst vni
 dsimp only at hres
 generalize endsT n src dst vni=res at *
 have q1:=Sw n.devices (fun d=>decide (d.vtep=(dst:Int))) 293 [] [.ref 1 (A4 dst) 0] rfl (fun d _=>⟨⟨_,_,F293⟩,endsC1 dst d⟩) hn.devices
 generalize B9 (fun d:Device=>decide (d.vtep=(dst:Int))) n.devices=dev at *
 have q2:=Dn n.domains (fun d=>decide (d.dev=dev) && decide (d.vni=vni)) 294 [] [.ref 1 (Aa dev) 0,.ref 1 (Aa vni) 0] rfl (fun d _=>⟨⟨_,_,F294⟩,endsC2 dev vni d⟩) hn.domains
 have hlt:=Em (fun d:Domain=>decide (d.dev=dev) && decide (d.vni=vni)) n.domains
 generalize B9 (fun d:Domain=>decide (d.dev=dev) && decide (d.vni=vni)) n.domains=dom at *
 refine fW ?_
 refine Aw 4 8 (Aj n) E E E ?_
 refine Aw 5 1 (A4 src) E E E ?_
 refine Aw 6 1 (A4 dst) E E E ?_
 refine Aw 7 1 (Aa vni) E E E ?_
 refine fU ?_
 refine c0 q1 F202 ?_
 refine fU ?_
 refine Aw 10 1 (Aa dev) E E E ?_
 refine fU ?_
 refine c0 q2 F139 ?_
 refine fU ?_
 refine⟨fun h=>?_,fun h=>?_⟩
 ·rw[if_pos (.inl (of_decide_eq_true h))]at hres
  subst hres
  refine fU ?_
  exact dN
 have h1:=of_decide_eq_false h
 clear h
 refine fU ?_
 refine⟨fun h=>?_,fun h=>?_⟩
 ·rw[if_pos (.inr (of_decide_eq_true h))]at hres
  subst hres
  refine fU ?_
  exact dN
 have h2:=of_decide_eq_false h
 clear h
 rw[if_neg (fun h=>h.elim h1 h2)]at hres
 have hd0:0≤dom:=by omega
 have hkd:dom.toNat<n.domains.length:=by omega
 have e2:nth n.domains dom=n.domains[dom.toNat]:=Ae hkd
 have hpe:=hn.peers _ (List.getElem_mem hkd)
 have hpin:∀ k∈(n.domains[dom.toNat]'hkd).peers,DomIn n k:=fun k hk=>Af3 hb hkd hk
 obtain ⟨d,hdd⟩:∃ d,n.domains[dom.toNat]'hkd=d:=⟨_,rfl⟩
 rw[hdd]at e2 hpe hpin
 rw[e2]at hres
 have q3:=J2 d.peers (fun k=>decide (I6 n k=(src:Int))) 296 [] [.ref 8 (Aj n) 0,.ref 1 (A4 src) 0] rfl (fun k hk=>⟨⟨_,_,F296⟩,endsC3 n hb src k (hpin k hk)⟩) hpe
 have hlt2:=Em (fun k:Int=>decide (I6 n k=(src:Int))) d.peers
 generalize B9 (fun k:Int=>decide (I6 n k=(src:Int))) d.peers=i at *
 refine fU ?_
 refine⟨E,hd0,hkd,?_⟩
 rw[hdd]
 refine fW ?_
 refine c0 q3 F295 ?_
 refine fU ?_
 refine⟨fun h=>?_,fun h=>?_⟩
 ·rw[if_pos (of_decide_eq_true h)]at hres
  subst hres
  refine fU ?_
  exact dN
 have h3:=of_decide_eq_false h
 clear h
 rw[if_neg h3]at hres
 have hki:i.toNat<d.peers.length:=by omega
 rw[Ae hki]at hres
 subst hres
 refine fU ?_
 refine⟨E,by omega,hki,?_⟩
 refine fW ?_
 exact dN
theorem Ajl (n:Net) (hn:n.Fin) (b:List UInt8) (hb:b.length<100000) :
  Sy.Spec Tryz.prog 173 [Aj n,.sl 1 Al b] [] (.tup [Aa (comeT n b).1,Aa (comeT n b).2.1,Ce (comeT n b).2.2.1,Aa (comeT n b).2.2.2]) []:=cT F173 Tryz.ntmps173 fun F hF=>by
 have hres:=comeT.eq_1 n b
 generalize comeT n b=res at *
 have hr:=At n hn
 refine fW ?_
 refine Aw 2 8 (Aj n) E E E ?_
 refine fU ?_
 refine c0 hr F12 ?_
 cases hbn:Ac n
 ·rw[if_pos hbn]at hres
  subst hres
  refine fU ?_
  refine Am 6 zF E vL ?_
  exact dN
 rw[if_neg (by rw[hbn];decide)]at hres
 have q1:=Amj b hb
 have huo:=X6 b
 generalize B5 b=u at *
 obtain ⟨src,dst,vni,f,e⟩:=u
 dsimp only at hres q1 huo
 have hsrc:=huo.2.2.2.src
 refine fU ?_
 refine c0 q1 F238 ?_
 refine fU ?_
 refine⟨fun h=>?_,fun h=>?_⟩
 ·rw[if_pos (by simpa using h)]at hres
  subst hres
  refine fU ?_
  refine Am 6 zF E vL ?_
  exact dN
 rw[if_neg (by simpa using h)]at hres
 clear h
 have q2:=endsS n hn hbn src dst vni
 generalize endsT n src dst vni=en at *
 obtain ⟨fr,dom⟩:=en
 dsimp only at hres q2
 refine fU ?_
 refine c0 q2 F239 ?_
 refine fU ?_
 refine⟨fun h=>?_,fun h=>?_⟩
 ·rw[if_pos (of_decide_eq_true h)]at hres
  subst hres
  refine fU ?_
  refine Am 6 zF E vL ?_
  exact dN
 rw[if_neg (of_decide_eq_false h)]at hres
 clear h
 have qg:=Jy f.src q_
 refine fU ?_
 refine c0 qg F158 ?_
 cases hg:Hh f.src
 rotate_left
 ·rw[if_pos hg]at hres
  subst hres
  refine fU ?_
  refine Am 6 zF E vL ?_
  exact dN
 rw[if_neg (by rw[hg];decide)]at hres
 subst hres
 refine fU ?_
 refine⟨z_,?_⟩
 refine fW ?_
 exact dN
theorem Auj {n:Net} (hb:Ac n=true) {d:Int} (hd:DomIn n d) (hi:0≤(n.domains[d.toNat]'hd.2).irb) :
  ∃ h:(n.domains[d.toNat]'hd.2).irb.toNat<n.irbs.length,(n.irbs[(n.domains[d.toNat]'hd.2).irb.toNat]'h).domain=d:=by
 simp only[Ac,Bool.and_eq_true]at hb
 have:=allB_iff.1 hb.1.1.1.1.1.1.1.2 _ hd.2
 simp only[Km,Bool.and_eq_true,Bool.or_eq_true,beq_iff_eq]at this
 have h2:=this.1.2
 rcases h2 with h2 | ⟨h2,h3⟩
 ·omega
 ·have h4:=B8 h2
  have h5:(n.domains[d.toNat]'hd.2).irb.toNat<n.irbs.length:=by omega
  rw[Ae h5]at h3
  have:=hd.1
  exact⟨h5,by omega⟩
theorem Aeq (n:Net) (hn:n.Fin) (hm0:n.Num) (dom:Int) (m:Nat) :
  Sy.Spec Tryz.prog 164 [Aj n,Aa dom,A9 m] [] (.tup [Aa (routerT n dom m).1,Ab (routerT n dom m).2]) []:=cT F164 Tryz.ntmps164 fun F hF=>by
 have hres:=routerT.eq_1 n dom m
 generalize routerT n dom m=res at *
 have hr:=At n hn
 conv=>whnf
 refine⟨fun h=>?_,fun h=>?_⟩
 ·have hp:Ai dom n.domains.length=false:=by
   cases hx:Ai dom n.domains.length
   ·rfl
   ·have:=B8 hx;have:=of_decide_eq_true h;omega
  rw[if_pos (.inl hp)]at hres
  subst hres
  (refine oT ?_;refine bT ?_)
  exact dN
 have h0:0≤dom:=qB h
 clear h
 refine oO ?_
 refine⟨fun h=>?_,fun h=>?_⟩
 ·have hp:Ai dom n.domains.length=false:=by
   cases hx:Ai dom n.domains.length
   ·rfl
   ·have:=B8 hx;have:=of_decide_eq_true h;omega
  rw[if_pos (.inl hp)]at hres
  subst hres
  refine oT ?_
  exact dN
 have h1:dom<n.domains.length:=qB h
 clear h
 have hpl:Ai dom n.domains.length=true:=Kg ⟨h0,h1⟩
 refine oO ?_
 refine c0 hr F12 ?_
 cases hbn:Ac n
 ·rw[if_pos (.inr hbn)]at hres
  subst hres
  refine oT ?_
  exact dN
 rw[if_neg (by simp[hbn,hpl])]at hres
 have hd:=Jv hpl
 have e2:nth n.domains dom=n.domains[dom.toNat]'hd.2:=Ae hd.2
 have hir:=Auj hbn hd
 obtain ⟨d,hdd⟩:∃ d,n.domains[dom.toNat]'hd.2=d:=⟨_,rfl⟩
 simp only[hdd]at e2 hir
 rw[e2]at hres
 refine oF ?_
 refine⟨E,hd.1,hd.2,?_⟩
 rw[hdd]
 conv=>whnf
 refine⟨fun h=>?_,fun h=>?_⟩
 ·rw[if_pos (.inl (of_decide_eq_true h))]at hres
  subst hres
  refine oT ?_
  exact dN
 have hi0:0≤d.irb:=qB h
 clear h
 obtain ⟨hi1,hi2⟩:=hir hi0
 have ha:=hm0.addr _ (List.getElem_mem hi1)
 rw[Ae hi1]at hres
 obtain ⟨x,hx⟩:∃ x,n.irbs[d.irb.toNat]'hi1=x:=⟨_,rfl⟩
 rw[hx]at ha hres
 obtain ⟨a,hae⟩:=Int.eq_ofNat_of_zero_le ha.1
 have qh:=Ab9 a q_
 rw[← hae]at qh
 refine oO ?_
 refine⟨E,hi0,hi1,?_⟩
 rw[hx]
 conv=>whnf
 refine c0 qh F27 ?_
 refine oO ?_
 refine⟨fun h=>?_,fun h=>?_⟩
 ·have hne:Iv x.addr≠m:=fun e=>by
   rw[e]at h
   simp at h
  rw[if_pos (.inr hne)]at hres
  subst hres
  refine oO ?_
  exact dN
 ·have heq:Iv x.addr=m:=by
   have:(Iv x.addr:Int)=(m:Int):=by simpa using h
   omega
  rw[if_neg (fun h=>h.elim q_ (fun h2=>h2 heq))]at hres
  subst hres
  refine oO ?_
  exact dN
theorem Aav {n:Net} {i:Int} (h:Ai i n.irbs.length=true):InIrbs n i:=by
 have:=B8 h
 exact⟨this.1,by omega⟩
theorem Aua {p:PacketM} (h:PacketOK p):PacketOK (Ajv p):=⟨h.tos,h.id,by have:=h.ttl;show p.ttl-1≤255;omega,h.proto,h.src,h.dst⟩
theorem Ajr (p:PacketM):ipPutT (Ajv p)=if 1480<p.body.length then ([],14) else (Xl (Ajv p),0):=rfl
theorem Anc (n:Net) (hn:n.Fin) (hm0:n.Num) (irb:Int) (f:FrameM) (hf:FrameOK f) :
  Sy.Spec Tryz.prog 165 [Aj n,Aa irb,Ce f] [] (.tup [Aa (hopT n irb f).1,Ce (hopT n irb f).2.1,Aa (hopT n irb f).2.2]) []:=cT F165 Tryz.ntmps165 fun F hF=>by
 have hres:=hopT.eq_1 n irb f
 generalize hopT n irb f=res at *
 have hr:=At n hn
 have hb:=hf.body
 conv=>whnf
 refine⟨fun h=>?_,fun h=>?_⟩
 ·have hp:Ai irb n.irbs.length=false:=by
   cases hx:Ai irb n.irbs.length
   ·rfl
   ·have:=B8 hx;have:=of_decide_eq_true h;omega
  rw[if_pos (.inl hp)]at hres
  subst hres
  (refine oT ?_;refine bT ?_)
  refine Am 7 zF E vL ?_
  exact dN
 have h0:0≤irb:=qB h
 clear h
 refine oO ?_
 refine⟨fun h=>?_,fun h=>?_⟩
 ·have hp:Ai irb n.irbs.length=false:=by
   cases hx:Ai irb n.irbs.length
   ·rfl
   ·have:=B8 hx;have:=of_decide_eq_true h;omega
  rw[if_pos (.inl hp)]at hres
  subst hres
  refine oT ?_
  refine Am 7 zF E vL ?_
  exact dN
 have h1:irb<n.irbs.length:=qB h
 clear h
 have hpl:Ai irb n.irbs.length=true:=Kg ⟨h0,h1⟩
 refine oO ?_
 refine c0 hr F12 ?_
 cases hbn:Ac n
 ·rw[if_pos (.inr hbn)]at hres
  subst hres
  refine oT ?_
  refine Am 7 zF E vL ?_
  exact dN
 rw[if_neg (by simp[hbn,hpl])]at hres
 refine Aw 3 8 (Aj n) E E E ?_
 refine Aw 5 4 (Ce f) E E E ?_
 refine oF ?_
 refine⟨fun h=>?_,fun h=>?_⟩
 ·rw[if_pos (by have:¬ (f.typ:Int)=2048:=(by simpa using h);omega)]at hres
  subst hres
  refine oO ?_
  refine Am 7 zF E vL ?_
  exact dN
 rw[if_neg (by have:(f.typ:Int)=2048:=(by simpa using h);omega)]at hres
 clear h
 have q1:=Alw f.body q_
 have hok:=@Zc f.body
 generalize ipTakeT f.body=tk at *
 obtain ⟨p,e⟩:=tk
 dsimp only at hres q1 hok
 refine oO ?_
 refine c0 q1 F229 ?_
 refine oO ?_
 by_cases he:e=0
 rotate_left
 ·rw[if_pos he]at hres
  subst hres
  refine⟨fun h=>absurd (show e=0 by simpa using h) he,fun _=>?_⟩
  refine oO ?_
  refine⟨fun _=>?_,fun h=>absurd (show e=0 by simpa using h) he⟩
  refine oO ?_
  refine Am 7 zF E vL ?_
  exact dN
 subst he
 rw[if_neg y_]at hres
 obtain ⟨hpo,hpb⟩:=hok rfl
 have hpt:=hpo.ttl
 have hpd:=hpo.dst
 have q2:=ipHopS p q_ hpt
 (refine⟨fun _=>?_,fun h=>False.elim (absurd h j_)⟩;refine rg ?_;conv=>whnf)
 by_cases ht:p.ttl≤1
 ·rw[if_pos ht]at hres
  subst hres
  rw[hop1,if_pos ht]at q2
  refine c0 q2 F230 ?_
  refine oT ?_
  refine Am 7 zF E vL ?_
  exact dN
 rw[if_neg ht]at hres
 rw[hop1,if_neg ht]at q2
 refine c0 q2 F230 ?_
 have q3:=Alr n hn hbn irb p.dst (Aav hpl)
 have hth:=fun h=>@Oe n irb p.dst h
 generalize lookT n irb p.dst=lk at *
 obtain ⟨to,ok⟩:=lk
 dsimp only at hres q3 hth
 refine oF ?_
 refine c0 q3 F208 ?_
 cases ok
 ·rw[if_pos rfl]at hres
  subst hres
  refine oT ?_
  refine Am 7 zF E vL ?_
  exact dN
 rw[if_neg j_]at hres
 have hto:=hth rfl
 have hpp:=Ajr p
 have q4:=Adx (Ajv p) (Aua hpo) (by show p.body.length<100000;omega)
 rw[hpp]at q4
 clear hpp
 by_cases hl:1480<p.body.length
 ·rw[if_pos hl]at hres q4
  subst hres
  refine oF ?_
  refine c0 q4 F26 ?_
  refine oT ?_
  refine Am 7 zF E vL ?_
  exact dN
 rw[if_neg hl]at hres q4
 have ha:=hm0.addr _ (List.getElem_mem hto.2)
 rw[Ae hto.2]at hres
 obtain ⟨x,hx⟩:∃ x,n.irbs[to.toNat]'hto.2=x:=⟨_,rfl⟩
 rw[hx]at ha hres
 obtain ⟨a,hae⟩:=Int.eq_ofNat_of_zero_le ha.1
 have qh:=Ab9 a q_
 rw[← hae]at qh
 have qd:=Ab9 p.dst hpd
 subst hres
 refine oF ?_
 refine c0 q4 F26 ?_
 refine oF ?_
 refine⟨E,hto.1,hto.2,?_⟩
 rw[hx]
 conv=>whnf
 refine cD qd F27 ?_
 refine oD ?_
 refine⟨E,hto.1,hto.2,?_⟩
 rw[hx]
 conv=>whnf
 refine cD qh F27 ?_
 refine oD ?_
 refine kW ?_
 exact dN
end Go.Sy.YtcflgpijohhfbaaGreat
namespace Go.Sy.YtcflgpijohhfbaaGreat
open Go.Proofs
structure TabOK (t:List EntryM):Prop where
 short:Ak t
 mac:∀ e∈t,e.mac<18446744073709551616
 wh:∀ e∈t,I64 e.where_
structure QueuedOK (q:QueuedM):Prop where
 frame:FrameOK q.frame
 from_:-2≤q.from_∧q.from_<1099511627776
 peer:0≤q.peer∧q.peer<1099511627776
def Hf (l:List QueuedM):Prop:=l.length≤64∧∀ q∈l,QueuedOK q
structure MacOK (n:Net) (m:MacM) (J D:Int):Prop where
 up:m.up.length=n.links.length
 tabs:m.tables.length=n.domains.length
 ques:m.queues.length=n.domains.length
 tab:∀ t∈m.tables,TabOK t
 que:∀ l∈m.queues,Hf l
 now:0≤m.now∧m.now≤1099511627776
 inj:0≤m.injected∧m.injected≤J
 drp:∀ i,0≤m.drops i∧m.drops i≤D
theorem Hn {f:FrameM} (hf:FrameOK f) {a b:Int} (c:Int) (h1:-2≤a∧a<1099511627776) (h2:0≤b∧b<1099511627776):QueuedOK ⟨a,b,c,f⟩:=⟨hf,h1,h2⟩
theorem Aqv:QueuedOK noQ:=⟨Da,by decide,by decide⟩
theorem Vy:TabOK []:=⟨by unfold Ak;decide,fun _ h=>(by cases h),fun _ h=>(by cases h)⟩
theorem Wr:Hf []:=⟨by decide,fun _ h=>(by cases h)⟩
theorem Y3 {α:Type} {l:List α} {i:Nat} {x y:α} (h:y∈l.set i x):y=x∨y∈l:=by
 rcases List.mem_or_eq_of_mem_set h with h | h
 ·exact .inr h
 ·exact .inl h
theorem Zm {α:Type} {l:List α} {i:Nat} {d:α} (h:i<l.length):(l[i]?).getD d∈l:=by
 rw[List.getElem?_eq_getElem h]
 exact List.getElem_mem h
theorem Ey {n:Net} {m:MacM} {J D:Int} (h:MacOK n m J D) (dom:Int):Hf (queueL m dom):=by
 unfold queueL
 by_cases hd:dom.toNat<m.queues.length
 ·exact h.que _ (Zm hd)
 ·rw[List.getElem?_eq_none q_];exact Wr
theorem Vm {n:Net} {m:MacM} {J D:Int} (h:MacOK n m J D) (dom:Int):TabOK (tableL m dom):=by
 unfold tableL
 by_cases hd:dom.toNat<m.tables.length
 ·exact h.tab _ (Zm hd)
 ·rw[List.getElem?_eq_none q_];exact Vy
theorem MacOK.mono {n:Net} {m:MacM} {J D J' D':Int} (h:MacOK n m J D) (h1:J≤J') (h2:D≤D'):MacOK n m J' D' :=
 ⟨h.up,h.tabs,h.ques,h.tab,h.que,h.now,⟨h.inj.1,by have:=h.inj.2;omega⟩,fun i=>⟨(h.drp i).1,by have:=(h.drp i).2;omega⟩⟩
theorem Oz {n:Net} {m:MacM} {J D:Int} (h:MacOK n m J D) (_hD:0≤D) (e:Int):MacOK n (Cg m e) J (D+1):=by
 refine⟨h.up,h.tabs,h.ques,h.tab,h.que,h.now,h.inj,fun i=>?_⟩
 have:=h.drp i
 show 0≤(if i=e.toNat then m.drops i+1 else m.drops i)∧(if i=e.toNat then m.drops i+1 else m.drops i)≤D+1
 split<;>omega
theorem Ala {n:Net} {m:MacM} {J D:Int} (h:MacOK n m J D) (dom:Int) {l:List QueuedM} (hl:Hf l):MacOK n (Am5 m dom l) J D:=by
 refine⟨h.up,h.tabs,by rw[Am5];simp[h.ques],h.tab,fun x hx=>?_,h.now,h.inj,h.drp⟩
 rcases Y3 hx with rfl | hx
 ·exact hl
 ·exact h.que x hx
theorem Ak9 {n:Net} {m:MacM} {J D:Int} (h:MacOK n m J D) (dom:Int) {l:List EntryM} (hl:TabOK l):MacOK n (E2 m dom l) J D:=by
 refine⟨h.up,by rw[E2];simp[h.tabs],h.ques,fun x hx=>?_,h.que,h.now,h.inj,h.drp⟩
 rcases Y3 hx with rfl | hx
 ·exact hl
 ·exact h.tab x hx
theorem Aqg {l:List QueuedM} (hl:Hf l) {q:QueuedM} (hq:QueuedOK q):Hf (pushT l q).1:=by
 unfold pushT
 split
 ·exact hl
 ·refine⟨by simp;omega,fun x hx=>?_⟩
  rcases List.mem_append.1 hx with hx | hx
  ·exact hl.2 x hx
  ·rw[List.mem_singleton.1 hx];exact hq
theorem Apq {l:List QueuedM} (hl:Hf l) (at_:Int):QueuedOK (takeT l at_).1∧Hf (takeT l at_).2.1:=by
 unfold takeT
 split
 ·exact⟨Aqv,hl⟩
 ·rename_i h
  refine⟨hl.2 _ (Zm q_),?_,fun x hx=>hl.2 x (List.mem_of_mem_eraseIdx hx)⟩
  have:=List.length_eraseIdx_le l at_.toNat
  have:=hl.1
  show (l.eraseIdx at_.toNat).length≤64
  omega
theorem U2 {n:Net} {m:MacM} {J D:Int} (h:MacOK n m J D) (hD:0≤D) (dom:Int) {q:QueuedM} (hq:QueuedOK q) (e:Int):MacOK n (comeM m dom q e) J (D+1):=by
 unfold comeM
 split
 ·exact Oz h hD e
 split
 ·exact(Ala h dom (Aqg (Ey h dom) hq)).mono (Int.le_refl _) q_
 ·exact Oz h hD 3
theorem X7 {n:Net} {m:MacM} {J D:Int} (h:MacOK n m J D) (dom at_:Int):MacOK n (takeM m dom at_).1 J D∧QueuedOK (takeM m dom at_).2.1:=by
 unfold takeM
 split
 ·exact⟨h,Aqv⟩
 ·have:=Apq (Ey h dom) at_
  exact⟨Ala h dom this.2,this.1⟩
theorem Aju {n:Net} (hn:n.Fin) {m:MacM} {J D:Int} (h:MacOK n m J D) (_hJ:0≤J) (hD:0≤D) (port:Int) (b:List UInt8):MacOK n (injectT n m port b) (J+1) (D+1):=by
 unfold injectT
 split
 ·exact h.mono q_ q_
 ·rename_i hc
  have hp:Ai port n.ports.length=true:=by cases hx:Ai port n.ports.length;exact absurd (.inl hx) hc;rfl
  have hpi:=B8 hp
  have hs:=hn.ports
  unfold Ak at hs
  have h1:=h.inj
  have hm:MacOK n ⟨m.up,m.tables,m.queues,m.now,m.injected+1,m.drops⟩ (J+1) D:=⟨h.up,h.tabs,h.ques,h.tab,h.que,h.now,(by show 0≤m.injected+1∧m.injected+1≤J+1;omega),h.drp⟩
  exact U2 hm hD _ (Hn (V8 _ _ _) _ q_ q_) _
structure OutOK (n:Net) (o:OutM):Prop where
 kind:1≤o.kind∧o.kind≤5
 bytes:o.bytes.length≤1518
 frame:o.kind=4→FrameOK o.frame∧DomIn n o.domain
 err:o.kind=5→Bu o.error
theorem Anq {n:Net} (hn:n.Fin) (port:Int):-1≤B3 n port∧B3 n port<2147483648:=by
 unfold B3
 split
 ·rename_i h
  obtain ⟨⟨h1,h2⟩,h3,hb⟩:=h
  have hk:port.toNat<n.ports.length:=by omega
  rw[Ae hk]at h3 ⊢
  have hl:=(Ew hb hk h3).1
  rw[Ae hl]
  simp only[Ac,Bool.and_eq_true]at hb
  have hlb:=allB_iff.1 hb.1.1.1.1.2 _ hl
  simp only[Og,Bool.and_eq_true]at hlb
  have ha:=B8 hlb.1.1.1.1
  have hb2:=B8 hlb.1.1.1.2
  have hs:=hn.ports
  unfold Ak at hs
  split<;>omega
 ·omega
theorem Agk {n:Net} (hn:n.Fin) (port:Int) (b:List UInt8):0≤(linkT n port b).1∧(linkT n port b).1<1099511627776:=by
 have:=Anq hn port
 unfold linkT
 split<;>dsimp only<;>omega
theorem Z5 {n:Net} (hn:n.Fin) (b:List UInt8):0≤(comeT n b).1∧(comeT n b).1<1099511627776:=by
 by_cases h:(comeT n b).2.2.2=0
 ·have:=(Acp h).1
  have hs:=hn.domains
  unfold Ak at hs
  unfold DomIn at this
  omega
 ·unfold comeT at h ⊢
  split
  ·decide
  rename_i h1
  rw[if_neg h1]at h
  split
  ·exact⟨Int.le_refl _,by dsimp only;omega⟩
  rename_i h1
  rw[if_neg h1]at h
  split
  ·decide
  rename_i h1
  rw[if_neg h1]at h
  split
  ·decide
  rename_i h1
  rw[if_neg h1]at h
  exact absurd E h
theorem Arv {n:Net} (hn:n.Fin) {m:MacM} {J D:Int} (h:MacOK n m J D) (hD:0≤D) {o:OutM} (ho:OutOK n o) (origin:Int):MacOK n (goesM n m o origin).1 J (D+1):=by
 unfold goesM
 split
 ·exact h.mono (Int.le_refl _) q_
 split
 ·have:=Agk hn o.port o.bytes
  exact U2 h hD _ (Hn (Agl _ _ _) _ q_ q_) _
 split
 ·exact U2 h hD _ (Hn (Ahi _ _) _ q_ (Z5 hn o.bytes)) _
 split
 ·rename_i h4
  exact U2 h hD o.domain (Hn (a:=-2) (b:=0) (ho.frame h4).1 origin j_ j_) 0
 ·exact Oz h hD _
theorem Ot {n:Net} (hn:n.Fin) (origin:Int):∀ (l:List OutM) {m:MacM} {J D:Int},MacOK n m J D→0≤D→(∀ o∈l,OutOK n o)→MacOK n (Bz n m origin l).1 J (D+l.length)
 | [],m,J,D,h,_,_=>by
  rw[Bz]
  exact h.mono (Int.le_refl _) y_
 | o::l,m,J,D,h,hD,ho=>by
  rw[Bz]
  have:=Ot hn origin l (Arv hn h hD (ho o y_) origin) q_ (fun x hx=>ho x (by simp[hx]))
  exact this.mono (Int.le_refl _) (by simp only[List.length_cons];omega)
theorem Agf {n:Net} {o:OutM} {r:List UInt8 × Int} (hk:1≤o.kind∧o.kind≤3) (hr:r.1.length≤1518) (he:Bu r.2):OutOK n (Ua o r):=by
 unfold Ua
 split
 ·exact⟨⟨by dsimp only;omega,by dsimp only;omega⟩,by simp,fun h=>absurd h (by dsimp only;omega),fun _=>he⟩
 ·exact⟨⟨hk.1,by have:=hk.2;dsimp only;omega⟩,hr,fun h=>by have:=hk.2;dsimp only at h;omega,fun h=>by have:=hk.2;dsimp only at h;omega⟩
theorem An8 {t:List EntryM} (h:TabOK t) {m:Nat} (hm:m<18446744073709551616) {wh:Int} (hw:I64 wh) (now:Int):TabOK (learnT t m wh now):=by
 have hs:=h.short
 unfold Ak at hs
 have key:∀ e:EntryM,e∈learnT t m wh now→e∈t∨e=⟨m,wh,now⟩:=fun e he=>by
  unfold learnT at he
  split at he
  ·exact .inl he
  split at he
  ·rcases Y3 he with h | h
   ·exact .inr h
   ·exact .inl h
  ·rcases List.mem_append.1 he with h | h
   ·split at h
    ·exact .inl (List.mem_of_mem_eraseIdx h)
    ·exact .inl h
   ·exact .inr (List.mem_singleton.1 h)
 refine⟨?_,fun e he=>?_,fun e he=>?_⟩
 ·unfold learnT
  split
  ·exact h.short
  rename_i hb
  have h8:t.length≤8:=by
   have:tableB t=true:=by cases hx:tableB t;exact absurd (.inl hx) hb;rfl
   simp only[tableB,Bool.and_eq_true,decide_eq_true_eq]at this
   exact this.1
  split
  ·unfold Ak;simp;omega
  ·unfold Ak
   split
   ·have:=List.length_eraseIdx_le t (oldestU t t.length)
    simp only[List.length_append,List.length_cons,List.length_nil]
    omega
   ·simp only[List.length_append,List.length_cons,List.length_nil]
    omega
 ·rcases key e he with h1 | rfl
  ·exact h.mac e h1
  ·exact hm
 ·rcases key e he with h1 | rfl
  ·exact h.wh e h1
  ·exact hw
theorem Qf {t:List EntryM} (h:TabOK t) {q:QueuedM} (hq:QueuedOK q) (now:Int):TabOK (learnQ t q now):=by
 unfold learnQ
 split
 ·exact h
 ·have hs:=hq.frame.src
  refine An8 h q_ ?_ now
  have h1:=hq.from_
  have h2:=hq.peer
  unfold I64
  split<;>omega
theorem Auw {t:List EntryM} (h:TabOK t) (now:Int):TabOK (ageT t now):=by
 unfold ageT
 split
 ·exact h
 ·have hs:=h.short
  unfold Ak at hs
  refine⟨?_,fun e he=>h.mac e (List.mem_filter.1 he).1,fun e he=>h.wh e (List.mem_filter.1 he).1⟩
  unfold Ak
  exact Nat.lt_of_le_of_lt (List.length_filter_le _ _) hs
theorem Agb (n:Net) (dom:Int):(A6 n dom).length≤n.ports.length:=by
 rw[A6]
 have:=Ez (Mr n (nth n.domains dom)) n.ports.length
 exact this
end Go.Sy.YtcflgpijohhfbaaGreat
