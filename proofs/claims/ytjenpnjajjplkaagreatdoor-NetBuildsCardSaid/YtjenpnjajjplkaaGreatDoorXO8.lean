/-
  Sy43 RB9 RB11 E20 E22 E23 E24 NB14 RL1 RL2 NB15 I22 I23 RL3 E16 E17 E18 E25 E26 E27 E28 E30 E31 D3 D4 RB10 RB12: parts of a proof, joined by program.
-/
import Derived.Test.YtjenpnjajjplkaaGreatDoorXO5
import Derived.Test.YtjenpnjajjplkaaGreatDoorXO6
import Derived.Test.YtjenpnjajjplkaaGreatDoorXO3
import Derived.Test.YtjenpnjajjplkaaGreatDoorXO7
import Derived.Test.YtjenpnjajjplkaaGreatDoorXO4
set_option linter.all false
set_option linter.unusedVariables false
set_option linter.unusedSimpArgs false
set_option linter.deprecated false
namespace Go.Sy
theorem G_rown {C:Cx} {k:List KI} {s:SS} (q i:Nat) {sz:Nat} {α:Type} {e:α→SV} {l:List α} {cl:List SV} (h:s.h q=.row sz e l) (hi:i<l.length) (hb:(e l[i]).boxed=true) (hc:cellsOf (e l[i])=cl)
  (hg:G C k ⟨s.σ,upd s.h q (.rown sz e l i cl)⟩):G C k s:=fun κ a w hs=>by
 have hob:=hs.obj q
 rw[h]at hob
 refine hg κ a w ⟨hs.defers,hs.size,hs.inv,hs.ctx,hs.slot,fun j=>?_⟩
 show ObOK κ w j (upd s.h q (.rown sz e l i cl) j)
 by_cases hj:j=q
 ·subst hj
  rw[Cm]
  obtain ⟨b,cap,cs,T,fr,e1,e2,e3,e4,e5,e6⟩:=hob.rowAt (fun hn=>by subst hn;cases hi)
  obtain ⟨g0,u,g1,g2,g3,g4⟩:=e6 i (e l[i]) ⟨hi,rfl⟩
  subst hc
  refine⟨b,cap,cs,T,fr,e1,e2,e3,e4,e5,fun m x _ hx=>e6 m x hx,hi,u.cells.toList,by simpa using g2,g3,(g1.toRd.cells hb).2,fun m hm=>?_⟩
  rw[g4 m hm]
  simp
 ·rw[Do _ _ hj];exact hs.obj j
theorem Api {C:Cx} {k:List KI} {s:SS} (q c d sz':Nat) {β:Type} (e':β→SV) {sz i:Nat} {α:Type} {e:α→SV} {l:List α} {cl cl':List SV} (hb:s.h q=.rown sz e l i cl) (h:cl[c]? = some (.val (.slice none 0 0)))
  (hc:cl.set c (.osl d)=cl') (hd:s.h d=.fresh) (hqd:Nat.beq q d=false)
  (hg:G C k ⟨s.σ,upd (upd s.h q (.rown sz e l i cl')) d (.row sz' e' [])⟩):G C k s:=fun κ a w hs=>by
 have hne:q≠d:=fun e=>by rw[e,Nat.beq_refl]at hqd;cases hqd
 have hnew:κ d=.new:=by have:=hs.obj d;rwa [hd]at this
 subst hc
 obtain ⟨st,inv⟩:=Jc hs.inv hnew (e:=.nil) (Grew.refl w) (fun b hb=>by cases hb)
 refine hg (En κ d .nil) a w ⟨hs.defers,hs.size,inv,hs.ctx.step inv st,fun j=>Rd.step st _ _ (hs.slot j),fun j=>?_⟩
 show ObOK _ w j (upd (upd s.h q (.rown sz e l i (cl.set c (.osl d)))) d (.row sz' e' []) j)
 by_cases hj:j=d
 ·subst hj;rw[Cm];exact .inl ⟨A9 _ _ _,rfl⟩
 ·rw[Do _ _ hj]
  by_cases hjq:j=q
  ·subst hjq
   rw[Cm]
   have:=ObOK.step st hj _ (hs.obj j)
   rw[hb]at this
   obtain ⟨b,cap,cs,T,fr,e1,e2,e3,e4,e5,e6,e7,us,u1,u2,u3,u4⟩:=this
   refine⟨b,cap,cs,T,fr,e1,e2,e3,e4,e5,e6,e7,us,u1,u2,Wt u3 fun y v hy hv=>?_,u4⟩
   rw[h]at hy
   cases hy
   simp only[Rd]at hv
   simp only[Rd,A9]
   exact hv
  ·rw[Do _ _ hjq];exact ObOK.step st hj _ (hs.obj j)
theorem Aph {C:Cx} {k:List KI} {s:SS} (q c sz':Nat) {β:Type} (e':β→SV) {sz i:Nat} {α:Type} {e:α→SV} {l:List α} {cl cl':List SV} (hb:s.h q=.rown sz e l i cl) (h:cl[c]? = some (.val (.slice none 0 0)))
  (hc:cl.set c (.sl sz' e' [])=cl') (hg:G C k ⟨s.σ,upd s.h q (.rown sz e l i cl')⟩):G C k s:=fun κ a w hs=>by
 subst hc
 refine hg κ a w ⟨hs.defers,hs.size,hs.inv,hs.ctx,hs.slot,fun j=>?_⟩
 show ObOK _ w j (upd s.h q (.rown sz e l i (cl.set c (.sl sz' e' []))) j)
 by_cases hjq:j=q
 ·subst hjq
  rw[Cm]
  have:=hs.obj j
  rw[hb]at this
  obtain ⟨b,cap,cs,T,fr,e1,e2,e3,e4,e5,e6,e7,us,u1,u2,u3,u4⟩:=this
  refine⟨b,cap,cs,T,fr,e1,e2,e3,e4,e5,e6,e7,us,u1,u2,Wt u3 fun y v hy hv=>?_,u4⟩
  rw[h]at hy
  cases hy
  simp only[Rd]at hv
  simp only[Rd,RdD]
  exact .inl ⟨q_,none,0,hv⟩
 ·rw[Do _ _ hjq];exact hs.obj j
theorem Yv {C:Cx} {k:List KI} {s:SS} (q:Nat) {sz i:Nat} {α:Type} {e:α→SV} {l:List α} {cl:List SV} (h:s.h q=.rown sz e l i cl) (z:α) (hb:(e z).boxed=true) (hd:(e z).data=true) (hc:cellsOf (e z)=cl)
  (hg:G C k ⟨s.σ,upd s.h q (.row sz e (l.set i z))⟩):G C k s:=fun κ a w hs=>by
 have hob:=hs.obj q
 rw[h]at hob
 refine hg κ a w ⟨hs.defers,hs.size,hs.inv,hs.ctx,hs.slot,fun j=>?_⟩
 show ObOK κ w j (upd s.h q (.row sz e (l.set i z)) j)
 by_cases hj:j=q
 ·subst hj
  rw[Cm]
  subst hc
  obtain ⟨b,cap,cs,T,fr,e1,e2,e3,e4,e5,e6,e7,us,u1,u2,u3,u4⟩:=hob
  refine .inr ⟨b,cap,cs,T,fr,by simpa using e1,e2,e3,e4,by simpa using e5,fun m x hx=>?_⟩
  obtain ⟨hm,rfl⟩:=hx
  have hm':m<l.length:=by simpa using hm
  refine⟨hm,?_⟩
  by_cases hmi:m=i
  ·subst hmi
   obtain ⟨u,d1,d2⟩:=Rd.of_cells hb u2 u3
   refine⟨u,?_,?_,by rw[d2];exact u2,fun p hp=>?_⟩
   ·have:(l.set m z)[m]=z:=by simp
    rw[this]
    exact Rd.data _ _ hd d1
   ·have:u.cells.toList.length=us.length:=by rw[d2]
    simpa [u1] using this
   ·rw[u4 p hp,← d2];simp
  ·obtain ⟨_,u,g⟩:=e6 m (e l[m]) hmi ⟨hm',rfl⟩
   refine⟨u,?_⟩
   rw[List.getElem_set_ne z_]
   exact g
 ·rw[Do _ _ hj];exact hs.obj j
theorem Ow {P:Program} (Γ:Ty P) {o:Oper} {s:SS} {t:TypeId} {ti:TI} {x:Operand} {k sz i off:Nat} {α:Type} {e:α→SV} {l:List α} {cl:List SV} {y:SV} (h:o.op=.load t x) (hx:ev s x=.rpt k sz i off)
  (ht:Γ.get t=some ti) (hk:s.h k=.rown sz e l i cl) (hy:Ki ti cl off=some y):Good P o s ⟨y,[k],[]⟩ :=
 Good.pure fun κ a w _ hr ho=>by
  have h1:=hr x (by simp[h,Op.operands])
  have h2:=ho k qe
  rw[hk]at h2
  obtain ⟨b,cap,cs,T,fr,e1,e2,e3,e4,e5,e6,e7,us,u1,u2,u3,u4⟩:=h2
  rw[hx]at h1
  simp only[Rd,e1]at h1
  have hc:Qi κ w b (i * sz) cl:=⟨us,u3,u2,fun j hj=>by
   rw[cell_of_row w b _ cs.toArray T fr e2,List.getElem?_toArray,u4 j z_]⟩
  obtain ⟨v,h5,h6⟩:=Kf Γ ht hc hy
  exact⟨v,by simp[execOp,h,h1,Instr.loadAt,Instr.sureAddr,h5],h6⟩
theorem Hl {P:Program} (Γ:Ty P) {o:Oper} {s:SS} {t:TypeId} {ti:TI} {fs:List (Nat × Nat)} {x:Operand} {f fo fn k sz n off i:Nat} {α:Type} {e:α→SV} {l:List α} {cl:List SV} (h:o.op=.fieldAddr t x f)
  (ht:Γ.get t=some ti) (hk:ti.k=.struct fs) (hf:fs[f]? = some (fo,fn)) (hn:fn≠0) (hx:ev s x=.rpt k sz n off) (hq:s.h k=.rown sz e l i cl):Good P o s ⟨.rpt k sz n (off+fo),[k],[]⟩ :=
 E8 Γ h ht hk hf hn (.inr (.inr ⟨k,sz,n,off,hx,fun κ w hob=>by
  rw[hq]at hob
  obtain ⟨b,cap,cs,T,fr,e1,_⟩:=hob
  exact⟨b,_,cap,e1⟩,Y,Y⟩))
theorem Mm {P:Program} (Γ:Ty P) {o:Oper} {s:SS} {t:TypeId} {ti:TI} {x y:Operand} {k sz i off:Nat} {α:Type} {e:α→SV} {l:List α} {cl cl':List SV} (h:o.op=.store t x y) (hx:ev s x=.rpt k sz i off)
  (ht:Γ.get t=some ti) (hk:s.h k=.rown sz e l i cl) (hb:(ev s y).boxed=true) (hn:(cellsOf (ev s y)).length=ti.size) (hoff:off+ti.size≤sz) (hc:setAt cl off (cellsOf (ev s y))=cl') :
  Good P o s ⟨.val undef,[],[(k,.rown sz e l i cl')]⟩:=by
 intro κ a w hinv hr ho N Q hN
 have h1:=hr x (by simp[h,Op.operands])
 have h2:=hr y (by simp[h,Op.operands])
 have h3:=ho k (.inr (by simp[Up.ws]))
 rw[hk]at h3
 subst hc
 obtain ⟨c1,c2⟩:=h2.cells hb
 obtain ⟨d,info,zz,k1,k2,k3,k4,k5,k6⟩:=Γ.ok t ti ht
 obtain ⟨b,cap,cs,T,fr,e1,e2,e3,e4,e5,e6,e7,us,u1,u2,u3,u4⟩:=h3
 have hsz:(a.eval y).cells.size=ti.size:=by rw[← hn,← c2.length];simp
 have hin:i * sz+sz≤cap * sz:=by
  have:(i+1) * sz≤cap * sz:=Nat.mul_le_mul_right sz z_
  rw[Nat.add_mul,Nat.one_mul]at this
  exact this
 obtain ⟨w',f1,f2,f3,f4,f5,f6,f7⟩:=Ls (P:=P) (t:=t) k3 (v:=a.eval y) (o:=i * sz+off) e2 e3 (by rw[hsz,k4]) (by rw[hsz];omega) c1
 obtain ⟨st,inv⟩:=Kb hinv (k:=k) (b:=b) (by rw[e1];rfl) f3 f4 f5 f6 f7
 rw[hx]at h1
 simp only[Rd,e1]at h1
 have hrun:(execOp a.eval o).run P w=.ok .skip w':=by simp[execOp,h,h1,Instr.storeAt,Instr.sureAddr,f1]
 simp only[Oper.wp,hrun,Oper.upon]
 refine hN undef κ w' (st.weaken (by simp[Up.ws])) inv (by simp[Rd]) (fun p hp=>?_)
 simp only[List.mem_singleton]at hp
 subst hp
 have hvl:(a.eval y).cells.toList.length=ti.size:=by simpa using hsz
 have hset:=My cs (a.eval y).cells.toList (i * sz+off)
 refine⟨b,cap,_,T,fr,e1,f2,by rw[Db];exact e3,by rw[Db];exact e4,e5,fun j z hj hz=>?_,e7,setV us off (a.eval y).cells.toList,by rw[Db];exact u1,u2.setV _ c1,(RdL.step st _ _ u3).setAt _ (RdL.step st _ _ c2),fun m hm=>?_⟩
 ·obtain ⟨q0,q,q1,q2,q3,q4⟩:=e6 j z hj hz
  refine⟨q0,q,RdD.keep st.keeps _ _ q1,q2,q3,fun m hm=>?_⟩
  rw[hset _ z_,if_neg,q4 m hm]
  rintro ⟨a1,a2⟩
  rcases Nat.lt_or_gt_of_ne hj with hlt | hgt
  ·have:(j+1) * sz≤i * sz:=Nat.mul_le_mul_right sz z_
   rw[Nat.add_mul,Nat.one_mul]at this
   omega
  ·have:(i+1) * sz≤j * sz:=Nat.mul_le_mul_right sz z_
   rw[Nat.add_mul,Nat.one_mul]at this
   omega
 ·rw[hset _ z_,My _ _ _ _ z_]
  by_cases hm2:off≤m∧m<off+(a.eval y).cells.toList.length
  ·rw[if_pos z_,if_pos hm2]
   congr 1
   omega
  ·rw[if_neg z_,if_neg hm2,u4 m hm]
theorem U4 {P:Program} (Γ:Ty P) {o:Oper} {s:SS} {t:TypeId} {ti:TI} {x y:Operand} {k sz i off:Nat} {α:Type} {e:α→SV} {l:List α} {cl cl':List SV} (h:o.op=.store t x y) (hx:ev s x=.rpt k sz i off)
  (ht:Γ.get t=some ti) (hk:s.h k=.rown sz e l i cl) (hb:(ev s y).boxed=true) (hn:(cellsOf (ev s y)).length=ti.size) (hoff:off+ti.size≤sz) (hc:setAt cl off (cellsOf (ev s y))=cl') :
  GoodX P o s ⟨.val undef,[],[(k,.rown sz e l i cl')]⟩:=by
 refine⟨(Mm Γ h hx ht hk hb hn hoff hc).two,fun hi=>?_,fun _ p hp=>?_⟩
 ·have:J1 o=false:=by simp[J1,h]
  rw[this]at hi
  cases hi
 ·simp only[List.mem_singleton]at hp
  subst hp
  simp only[hk]
  rfl
end Go.Sy
namespace Go.Sy.YtjenpnjajjplkaaGreatDoor
open Go.Proofs
attribute [local irreducible] Go.Sy.G Go.Sy.DR
set_option maxRecDepth 100000
set_option maxHeartbeats 4000000
theorem Ag0 (n:Net) (hn:n.Fin) (hr:Ah n=true) (f:Flood) (hf:f∈n.floods):Sy.Spec Tryz.prog 136 [Aj n,A4 f] [] (Ab (agreesB n f)) []:=cT F136 Tryz.ntmps136 fun F hF=>by
 have hfd:0≤f.dev∧f.dev.toNat<n.devices.length:=by
  obtain ⟨j,hj,rfl⟩:=List.getElem_of_mem hf
  have:=Ab9 hr hj
  simp only[Is,Ap,Bool.and_eq_true,decide_eq_true_eq]at this
  omega
 have hfa:f.addrs.length<2147483648:=hn.addrs f hf
 have hown:(nth n.devices f.dev).vtep=(n.devices[f.dev.toNat]'hfd.2).vtep:=by rw[As hfd.2]
 have q1:=M7 n f.dev f.vni hn.domains
 have hres:=agreesB.eq_1 n f
 have hag:∀ a,agreeA n f a=_:=agreeA.eq_1 n f
 generalize agreesB n f=res at *
 generalize Ia n f.dev f.vni=v0 at *
 by_cases kv:v0<0
 ·have g0:decide (v0<0)=true:=decide_eq_true kv
  have hr0:res=false:=by rw[hres,decide_eq_false (by omega:¬ 0≤v0)];rfl
  subst hr0
  refine T ?_
  refine A6 2 8 (Aj n) Y Y Y ?_
  refine A6 3 4 (A4 f) Y Y Y ?_
  refine C q1 F139 ?_
  exact D
 have g0:decide (v0<0)=false:=decide_eq_false kv
 rw[decide_eq_true (by omega:0≤v0),Bool.true_and]at hres
 refine T ?_
 refine A6 2 8 (Aj n) Y Y Y ?_
 refine A6 3 4 (A4 f) Y Y Y ?_
 refine C q1 F139 ?_
 refine Au (fun j:Nat=>j≤f.addrs.length∧(f.addrs.take j).all (agreeA n f)=true) (fun j=>[(2,.ref 8 (Aj n) 0),(3,.ref 4 (A4 f) 0),(5,Aa j)]) (fun _=>[]) (fun j=>f.addrs.length-j) 0 [] ⟨by omega,by simp⟩ U ?_
 rintro j ⟨hj,hI⟩
 refine T ?_
 refine⟨fun h=>?_,fun h=>?_⟩
 ·have hlt:j<f.addrs.length:=qA h
  have hj0:((j:Nat):Int).toNat<f.addrs.length:=hlt
  clear h
  have qo:=Uu n (f.addrs[((j:Nat):Int).toNat]'hj0) hn.devices
  have hA:=hag (f.addrs[((j:Nat):Int).toNat]'hj0)
  have hsn:(f.addrs.take (j+1)).all (agreeA n f)=agreeA n f (f.addrs[((j:Nat):Int).toNat]'hj0):=by
   rw[List.take_succ_eq_append_getElem hlt,List.all_append,hI,Bool.true_and]
   simp only[List.all_cons,List.all_nil,Bool.and_true]
   rfl
  have hwhole:agreeA n f (f.addrs[((j:Nat):Int).toNat]'hj0)=false→res=false:=fun h=>by
   rw[hres,List.all_eq_false]
   exact⟨_,List.getElem_mem hj0,by rw[h];simp⟩
  have qf:=M7 n (Cz n (f.addrs[((j:Nat):Int).toNat]'hj0)) f.vni hn.domains
  have ql:=Xj n (Cz n (f.addrs[((j:Nat):Int).toNat]'hj0)) f.vni hn.floods
  have hlr:Ee n (Cz n (f.addrs[((j:Nat):Int).toNat]'hj0)) f.vni<0∨∃ k:Nat,Ee n (Cz n (f.addrs[((j:Nat):Int).toNat]'hj0)) f.vni=k∧k<n.floods.length:=by
   by_cases h:Ee n (Cz n (f.addrs[((j:Nat):Int).toNat]'hj0)) f.vni<0
   ·exact .inl h
   ·exact .inr (D2 h)
  generalize Ia n (Cz n (f.addrs[((j:Nat):Int).toNat]'hj0)) f.vni=fv at *
  generalize Ee n (Cz n (f.addrs[((j:Nat):Int).toNat]'hj0)) f.vni=lv at *
  generalize Cz n (f.addrs[((j:Nat):Int).toNat]'hj0)=dv at *
  by_cases k2:(f.addrs[((j:Nat):Int).toNat]'hj0)=0
  ·have g2:((f.addrs[((j:Nat):Int).toNat]'hj0) == 0)=true:=by rw[beq_iff_eq];exact k2
   have g2':((f.addrs[((j:Nat):Int).toNat]'hj0) != 0)=false:=by rw[bne_eq_false_iff_eq];exact k2
   have hr0:res=false:=hwhole (by rw[hA,g2',Bool.false_and,Bool.and_false])
   subst hr0
   refine T ?_
   refine C qo F140 ?_
   exact D
  have g2:((f.addrs[((j:Nat):Int).toNat]'hj0) == 0)=false:=by rw[beq_eq_false_iff_ne];exact k2
  have g2':((f.addrs[((j:Nat):Int).toNat]'hj0) != 0)=true:=by rw[bne_iff_ne];exact k2
  rw[g2',Bool.true_and]at hA
  by_cases k1:dv<0
  ·have g1:decide (dv<0)=true:=decide_eq_true k1
   have hr0:res=false:=hwhole (by rw[hA,decide_eq_false (by omega:¬ 0≤dv)];rfl)
   subst hr0
   refine T ?_
   refine C qo F140 ?_
   exact D
  have g1:decide (dv<0)=false:=decide_eq_false k1
  rw[decide_eq_true (by omega:0≤dv),Bool.true_and]at hA
  by_cases k3:fv<0
  ·have g3:decide (fv<0)=true:=decide_eq_true k3
   have hr0:res=false:=hwhole (by rw[hA,decide_eq_false (by omega:¬ 0≤fv)];rfl)
   subst hr0
   refine T ?_
   refine C qo F140 ?_
   refine C qf F139 ?_
   exact D
  have g3:decide (fv<0)=false:=decide_eq_false k3
  rw[decide_eq_true (by omega:0≤fv),Bool.true_and]at hA
  by_cases k4:lv<0
  ·have g4:decide (lv<0)=true:=decide_eq_true k4
   have hr0:res=false:=hwhole (by rw[hA,decide_eq_false (by omega:¬ 0≤lv)];rfl)
   subst hr0
   refine T ?_
   refine C qo F140 ?_
   refine C qf F139 ?_
   refine C ql F138 ?_
   exact D
  have g4:decide (lv<0)=false:=decide_eq_false k4
  rw[decide_eq_true (by omega:0≤lv),Bool.true_and]at hA
  obtain ⟨m,hm,hml⟩:=hlr.resolve_left k4
  subst hm
  have hm0:((m:Nat):Int).toNat<n.floods.length:=hml
  rw[As hm0,hown]at hA
  have hfar:=hn.addrs _ (List.getElem_mem hm0)
  have qc:=Aa8 (n.floods[((m:Nat):Int).toNat]'hm0).addrs (n.devices[f.dev.toNat]'hfd.2).vtep hfar
  have qcb:=fun b=>Aa8 (n.floods[((m:Nat):Int).toNat]'hm0).addrs b hfar
  cases hc:inB (n.floods[((m:Nat):Int).toNat]'hm0).addrs (n.devices[f.dev.toNat]'hfd.2).vtep with
  | false =>
   rw[hc]at qc
   rw[hc,Bool.false_and]at hA
   have hr0:res=false:=hwhole hA
   subst hr0
   refine T ?_
   refine C qo F140 ?_
   refine C qf F139 ?_
   refine C ql F138 ?_
   refine C ql F138 ?_
   refine C qc F218 ?_
   exact D
  | true =>
  rw[hc]at qc
  rw[hc,Bool.true_and]at hA
  refine T ?_
  refine C qo F140 ?_
  refine C qf F139 ?_
  refine C ql F138 ?_
  refine C ql F138 ?_
  refine C qc F218 ?_
  refine Au (fun k:Nat=>k≤f.addrs.length∧(f.addrs.take k).all (fun b=>b == (f.addrs[((j:Nat):Int).toNat]'hj0) || inB (n.floods[((m:Nat):Int).toNat]'hm0).addrs b)=true) (fun k=>[(2,.ref 8 (Aj n) 0),(3,.ref 4 (A4 f) 0),(5,Aa j),(7,.sl 1 A3 (n.floods[((m:Nat):Int).toNat]'hm0).addrs),(8,Aa k)]) (fun _=>[]) (fun k=>f.addrs.length-k) 0 [] ⟨by omega,by simp⟩ U ?_
  rintro k ⟨hk,hI2⟩
  refine T ?_
  refine⟨fun h=>?_,fun h=>?_⟩
  ·have hlt2:k<f.addrs.length:=qA h
   have hk0:((k:Nat):Int).toNat<f.addrs.length:=hlt2
   clear h
   have qb:=qcb (f.addrs[((k:Nat):Int).toNat]'hk0)
   have hnx:(f.addrs.take (k+1)).all (fun b=>b == (f.addrs[((j:Nat):Int).toNat]'hj0) || inB (n.floods[((m:Nat):Int).toNat]'hm0).addrs b)=((f.addrs[((k:Nat):Int).toNat]'hk0) == (f.addrs[((j:Nat):Int).toNat]'hj0) || inB (n.floods[((m:Nat):Int).toNat]'hm0).addrs (f.addrs[((k:Nat):Int).toNat]'hk0)):=by
    rw[List.take_succ_eq_append_getElem hlt2,List.all_append,hI2,Bool.true_and]
    simp only[List.all_cons,List.all_nil,Bool.and_true]
    rfl
   cases he:((f.addrs[((k:Nat):Int).toNat]'hk0) != (f.addrs[((j:Nat):Int).toNat]'hj0)) with
   | false =>
    have he2:((f.addrs[((k:Nat):Int).toNat]'hk0) == (f.addrs[((j:Nat):Int).toNat]'hj0))=true:=by rw[beq_iff_eq];exact(bne_eq_false_iff_eq.1 he)
    rw[he2,Bool.true_or]at hnx
    refine T ?_
    exact Ae (k+1) [] ⟨hlt2,hnx⟩ z_ U
   | true =>
    have he2:((f.addrs[((k:Nat):Int).toNat]'hk0) == (f.addrs[((j:Nat):Int).toNat]'hj0))=false:=by rw[beq_eq_false_iff_ne];exact(bne_iff_ne.1 he)
    rw[he2,Bool.false_or]at hnx
    cases hb:inB (n.floods[((m:Nat):Int).toNat]'hm0).addrs (f.addrs[((k:Nat):Int).toNat]'hk0) with
    | true =>
     rw[hb]at qb hnx
     refine T ?_
     refine C qb F218 ?_
     exact Ae (k+1) [] ⟨hlt2,hnx⟩ z_ U
    | false =>
     rw[hb]at qb
     have hr0:res=false:=hwhole (by
      rw[hA,List.all_eq_false]
      exact⟨_,List.getElem_mem hk0,by rw[he2,hb];simp⟩)
     subst hr0
     refine T ?_
     refine C qb F218 ?_
     exact D
  ·have hke:k=f.addrs.length:=qB h
   clear h
   rw[hke,List.take_length]at hI2
   rw[hI2]at hA
   rw[hA]at hsn
   refine T ?_
   exact Ae (j+1) [] ⟨hlt,hsn⟩ z_ U
 ·have hje:j=f.addrs.length:=qB h
  clear h
  subst hje
  rw[List.take_length,← hres]at hI
  subst hI
  refine T ?_
  exact D
theorem Am6 (n:Net) (hn:n.Fin):Sy.Spec Tryz.prog 39 [Aj n] [] (.tup [Aj (meshNT n).1,Aa (meshNT n).2.1,Aa (meshNT n).2.2]) []:=cT F39 Tryz.ntmps39 fun F hF=>by
 have qn:=M6 n hn
 have qcopy:=Hp n hn
 have hres:=meshNT.eq_1 n
 generalize meshNT n=res at *
 cases hr:Ah n with
 | false =>
  rw[hr]at qn
  rw[hr,if_pos rfl]at hres
  subst hres
  refine T ?_
  refine C qn F135 ?_
  refine Ag 2 (Bj emptyN) Y (.cons .nil (.cons .nil (.cons .nil (.cons .nil (.cons .nil (.cons .nil (.cons .nil (.cons .nil .nil)))))))) ?_
  refine T ?_
  exact D
 | true =>
 rw[hr]at qn
 rw[hr,if_neg qe]at hres
 have hff:n.floods.length<2147483648:=hn.floods
 have hdd:n.domains.length<2147483648:=hn.domains
 refine T ?_
 refine C qn F135 ?_
 refine A6 1 8 (Aj n) Y Y Y ?_
 refine Au (fun j:Nat=>j≤n.floods.length∧∀ k (hk:k<n.floods.length),k<j→agreesB n n.floods[k]=true) (fun j=>[(1,.ref 8 (Aj n) 0),(2,.ptr 1001 0),(5,Aa j)]) (fun _=>[(1001,.box [.val (.slice none 0 0),.val (.slice none 0 0),.val (.slice none 0 0),.val (.slice none 0 0),.val (.slice none 0 0),.val (.slice none 0 0),.val (.slice none 0 0),.val (.slice none 0 0)])]) (fun j=>n.floods.length-j) 0 [(1001,2)] ⟨by omega,fun k hk h=>by omega⟩ U ?_
 rintro j ⟨hj,hI⟩
 refine T ?_
 refine⟨fun h=>?_,fun h=>?_⟩
 ·have hlt:j<n.floods.length:=qA h
  have hj0:((j:Nat):Int).toNat<n.floods.length:=hlt
  clear h
  have q:=Ag0 n hn hr (n.floods[((j:Nat):Int).toNat]'hj0) (List.getElem_mem hj0)
  cases ha:agreesB n (n.floods[((j:Nat):Int).toNat]'hj0) with
  | false =>
   rw[ha]at q
   rw[Su (p:=fun f=>!(agreesB n f)) hlt (fun k hk hkj=>by simp only[hI k hk hkj];rfl) (by show (!(agreesB n (n.floods[((j:Nat):Int).toNat]'hj0)))=true;rw[ha];rfl)]at hres
   dsimp only at hres
   subst hres
   refine T ?_
   refine C q F136 ?_
   refine Ag 1001 (Bj emptyN) Y (.cons .nil (.cons .nil (.cons .nil (.cons .nil (.cons .nil (.cons .nil (.cons .nil (.cons .nil .nil)))))))) ?_
   refine T ?_
   exact D
  | true =>
   rw[ha]at q
   refine T ?_
   refine C q F136 ?_
   refine Ae (j+1) [] ⟨hlt,fun k hk hkj=>?_⟩ z_ U
   by_cases e:k=j
   ·subst e;exact ha
   ·exact hI k hk z_
 ·have hje:j=n.floods.length:=qB h
  clear h
  have hnone:n.floods.find? (fun f=>!(agreesB n f))=none:=by
   rw[List.find?_eq_none]
   intro x hx
   obtain ⟨k,hk,rfl⟩:=List.getElem_of_mem hx
   rw[hI k hk z_];simp
  rw[hnone]at hres
  dsimp only at hres
  clear hI hj hje hnone
  refine T ?_
  refine X (Af [(0,901),(1,902),(2,903),(3,904),(4,905),(5,906),(6,907),(7,908)] Y F137 qcopy Y W Y V) ?_
  refine Au (fun j:Nat=>j≤n.domains.length) (fun j=>[(1,.ref 8 (Aj n) 0),(2,.ptr 1001 0),(6,.ptr 1006 0),(7,Aa j)]) (fun j=>[(1001,.box [.val (.slice none 0 0),.val (.slice none 0 0),.val (.slice none 0 0),.val (.slice none 0 0),.val (.slice none 0 0),.val (.slice none 0 0),.val (.slice none 0 0),.val (.slice none 0 0)]),(1006,.box [.osl 901,.osl 902,.osl 903,.osl 1004,.osl 905,.osl 906,.osl 907,.osl 908]),(901,.row 5 Az n.devices),(902,.row 7 Bb n.ports),(903,.row 3 B2 n.links),(1004,.row 6 Am (Kr n j)),(905,.row 4 A8 n.statics),(906,.row 4 A4 n.floods),(907,.row 5 Cd n.vrfs),(908,.row 5 Cf n.irbs)]) (fun j=>n.domains.length-j) 0 [(1004,904),(1006,6)] z_ ⟨⟨Y,Y,Y,Y,Y,Y,Y,Y,q_⟩,⟨.inl Y,Y,.inl Y,Y,.inl Y,Y,.inl Y,Y,.inl Y,Y,.inl (congrArg (Ob.row 6 Am) (Z2 n)),Y,.inl Y,Y,.inl Y,Y,.inl Y,Y,.inl Y,Y,q_⟩,Y,Y⟩ ?_
  intro j hj
  have hml:=Aec n hj
  by_cases hlt:j<n.domains.length
  ·have hj0:((j:Nat):Int).toNat<n.domains.length:=hlt
   have g0:decide ((j:Int)<(Kr n j).length)=true:=decide_eq_true z_
   have hjm:((j:Nat):Int).toNat<(Kr n j).length:=by rw[hml];exact hj0
   obtain ⟨m1,m2⟩:=Z3 n hlt hjm
   have hDj:n.domains[j]=(n.domains[((j:Nat):Int).toNat]'hj0):=rfl
   rw[hDj]at m1 m2
   have ql:=Xj n (n.domains[((j:Nat):Int).toNat]'hj0).dev (n.domains[((j:Nat):Int).toNat]'hj0).vni hn.floods
   have hpt:=peersT.eq_1 n (n.domains[((j:Nat):Int).toNat]'hj0)
   have hlr:Ee n (n.domains[((j:Nat):Int).toNat]'hj0).dev (n.domains[((j:Nat):Int).toNat]'hj0).vni<0∨∃ k:Nat,Ee n (n.domains[((j:Nat):Int).toNat]'hj0).dev (n.domains[((j:Nat):Int).toNat]'hj0).vni=k∧k<n.floods.length:=by
    by_cases h:Ee n (n.domains[((j:Nat):Int).toNat]'hj0).dev (n.domains[((j:Nat):Int).toNat]'hj0).vni<0
    ·exact .inl h
    ·exact .inr (D2 h)
   generalize Ee n (n.domains[((j:Nat):Int).toNat]'hj0).dev (n.domains[((j:Nat):Int).toNat]'hj0).vni=lv at *
   generalize hpT:peersT n (n.domains[((j:Nat):Int).toNat]'hj0)=ps at *
   refine G_rown 1004 ((j:Nat):Int).toNat (cl:=[Aa (n.domains[((j:Nat):Int).toNat]'hj0).dev,Aa (n.domains[((j:Nat):Int).toNat]'hj0).vlan,Aa (n.domains[((j:Nat):Int).toNat]'hj0).vni,Aa (n.domains[((j:Nat):Int).toNat]'hj0).irb,Aa (n.domains[((j:Nat):Int).toNat]'hj0).row,.sl 1 Aa (n.domains[((j:Nat):Int).toNat]'hj0).peers]) Y hjm Y (by rw[m1];rfl) ?_
   refine T ?_
   refine X (Ow Γ.toTy Y Y Y Y Y) ?_
   refine X (Hl Γ.toTy Y Y Y Y y_ Y Y) ?_
   refine X (Mm Γ.toTy Y Y Y Y Y Y y_ Y) ?_
   by_cases k1:(n.domains[((j:Nat):Int).toNat]'hj0).vni=0
   ·have g1:((n.domains[((j:Nat):Int).toNat]'hj0).vni == 0)=true:=by rw[beq_iff_eq];exact k1
    rw[if_neg (fun h=>h.1 k1)]at hpt
    subst hpt
    refine C ql F138 ?_
    refine Aph 1004 5 1 Aa Y Y Y ?_
    refine Yv 1004 Y (⟨(n.domains[((j:Nat):Int).toNat]'hj0).dev,(n.domains[((j:Nat):Int).toNat]'hj0).vlan,(n.domains[((j:Nat):Int).toNat]'hj0).vni,(n.domains[((j:Nat):Int).toNat]'hj0).irb,(n.domains[((j:Nat):Int).toNat]'hj0).row,[]⟩:Domain) Y Y Y ?_
    exact Ae (j+1) [] hlt z_ ⟨⟨Y,Y,Y,Y,Y,Y,Y,Y,q_⟩,⟨.inl Y,Y,.inl Y,Y,.inl Y,Y,.inl Y,Y,.inl Y,Y,.inl (congrArg (Ob.row 6 Am) m2.symm),Y,.inl Y,Y,.inl Y,Y,.inl Y,Y,.inl Y,Y,q_⟩,Y,Y⟩
   have g1:((n.domains[((j:Nat):Int).toNat]'hj0).vni == 0)=false:=by rw[beq_eq_false_iff_ne];exact k1
   by_cases k2:lv<0
   ·have g2:decide (lv<0)=true:=decide_eq_true k2
    rw[if_neg (fun h=>by have:=h.2;omega)]at hpt
    subst hpt
    refine C ql F138 ?_
    refine Aph 1004 5 1 Aa Y Y Y ?_
    refine Yv 1004 Y (⟨(n.domains[((j:Nat):Int).toNat]'hj0).dev,(n.domains[((j:Nat):Int).toNat]'hj0).vlan,(n.domains[((j:Nat):Int).toNat]'hj0).vni,(n.domains[((j:Nat):Int).toNat]'hj0).irb,(n.domains[((j:Nat):Int).toNat]'hj0).row,[]⟩:Domain) Y Y Y ?_
    exact Ae (j+1) [] hlt z_ ⟨⟨Y,Y,Y,Y,Y,Y,Y,Y,q_⟩,⟨.inl Y,Y,.inl Y,Y,.inl Y,Y,.inl Y,Y,.inl Y,Y,.inl (congrArg (Ob.row 6 Am) m2.symm),Y,.inl Y,Y,.inl Y,Y,.inl Y,Y,.inl Y,Y,q_⟩,Y,Y⟩
   have g2:decide (lv<0)=false:=decide_eq_false k2
   obtain ⟨m,hm,hmf⟩:=hlr.resolve_left k2
   subst hm
   clear hlr
   have hm0:((m:Nat):Int).toNat<n.floods.length:=hmf
   rw[if_pos ⟨k1,by omega⟩,As hm0]at hpt
   have hfa:=Aih n hr _ (List.getElem_mem hm0)
   refine C ql F138 ?_
   refine Api 1004 5 1200 1 Aa Y Y Y Y Y ?_
   refine A6 8 6 (Am (n.domains[((j:Nat):Int).toNat]'hj0)) Y Y Y ?_
   refine Au (fun k:Nat=>k≤(n.floods[((m:Nat):Int).toNat]'hm0).addrs.length) (fun k=>[(1,.ref 8 (Aj n) 0),(2,.ptr 1001 0),(6,.ptr 1006 0),(7,Aa j),(8,.ref 6 (Am (n.domains[((j:Nat):Int).toNat]'hj0)) 0),(9,Aa m),(10,Aa k)]) (fun k=>[(1001,.box [.val (.slice none 0 0),.val (.slice none 0 0),.val (.slice none 0 0),.val (.slice none 0 0),.val (.slice none 0 0),.val (.slice none 0 0),.val (.slice none 0 0),.val (.slice none 0 0)]),(1006,.box [.osl 901,.osl 902,.osl 903,.osl 1004,.osl 905,.osl 906,.osl 907,.osl 908]),(901,.row 5 Az n.devices),(902,.row 7 Bb n.ports),(903,.row 3 B2 n.links),(1004,.rown 6 Am (Kr n j) ((j:Nat):Int).toNat [Aa (n.domains[((j:Nat):Int).toNat]'hj0).dev,Aa (n.domains[((j:Nat):Int).toNat]'hj0).vlan,Aa (n.domains[((j:Nat):Int).toNat]'hj0).vni,Aa (n.domains[((j:Nat):Int).toNat]'hj0).irb,Aa (n.domains[((j:Nat):Int).toNat]'hj0).row,.osl 1200]),(905,.row 4 A8 n.statics),(906,.row 4 A4 n.floods),(907,.row 5 Cd n.vrfs),(908,.row 5 Cf n.irbs),(1200,.row 1 Aa (((n.floods[((m:Nat):Int).toNat]'hm0).addrs.take k).map (fun a=>Ia n (Cz n a) (n.domains[((j:Nat):Int).toNat]'hj0).vni)))]) (fun k=>(n.floods[((m:Nat):Int).toNat]'hm0).addrs.length-k) 0 [] z_ U ?_
   intro k hk
   refine T ?_
   refine⟨fun h=>?_,fun h=>?_⟩
   ·have hlt2:k<(n.floods[((m:Nat):Int).toNat]'hm0).addrs.length:=qA h
    have hk0:((k:Nat):Int).toNat<(n.floods[((m:Nat):Int).toNat]'hm0).addrs.length:=hlt2
    clear h
    have qo:=Uu n ((n.floods[((m:Nat):Int).toNat]'hm0).addrs[((k:Nat):Int).toNat]'hk0) hn.devices
    have qf:=M7 n (Cz n ((n.floods[((m:Nat):Int).toNat]'hm0).addrs[((k:Nat):Int).toNat]'hk0)) (n.domains[((j:Nat):Int).toNat]'hj0).vni hn.domains
    have hsn:((n.floods[((m:Nat):Int).toNat]'hm0).addrs.take (k+1)).map (fun a=>Ia n (Cz n a) (n.domains[((j:Nat):Int).toNat]'hj0).vni)=((n.floods[((m:Nat):Int).toNat]'hm0).addrs.take k).map (fun a=>Ia n (Cz n a) (n.domains[((j:Nat):Int).toNat]'hj0).vni)++[Ia n (Cz n ((n.floods[((m:Nat):Int).toNat]'hm0).addrs[((k:Nat):Int).toNat]'hk0)) (n.domains[((j:Nat):Int).toNat]'hj0).vni]:=by
     rw[List.take_succ_eq_append_getElem hlt2,List.map_append];rfl
    have hrl:(((n.floods[((m:Nat):Int).toNat]'hm0).addrs.take k).map (fun a=>Ia n (Cz n a) (n.domains[((j:Nat):Int).toNat]'hj0).vni)).length≤16:=by rw[List.length_map,List.length_take];omega
    refine T ?_
    refine Xd (Hl Γ.toTy Y Y Y Y y_ Y Y) ?_
    refine Xd (Ow Γ.toTy Y Y Y Y Y) ?_
    refine C qo F140 ?_
    refine C qf F139 ?_
    refine Xd (Ak Γ.toTy 105 Y Y Y Y Y (.row Y) (.lit (e:=Aa) (l:=[Ia n (Cz n ((n.floods[((m:Nat):Int).toNat]'hm0).addrs[((k:Nat):Int).toNat]'hk0)) (n.domains[((j:Nat):Int).toNat]'hj0).vni]) Y Y) y_ (by simp only[List.length_singleton];omega) (by simp only[List.length_singleton];omega)) ?_
    refine Xd (Hl Γ.toTy Y Y Y Y y_ Y Y) ?_
    refine stepDX (U4 Γ.toTy Y Y Y Y Y Y y_ Y) j_ Y ?_
    refine T ?_
    exact Ae (k+1) [(1200,105)] hlt2 z_ ⟨⟨Y,Y,Y,Y,Y,Y,Y,Y,Y,Y,Y,Y,Y,Y,q_⟩,⟨.inl Y,Y,.inl Y,Y,.inl Y,Y,.inl Y,Y,.inl Y,Y,.inl Y,Y,.inl Y,Y,.inl Y,Y,.inl Y,Y,.inl Y,Y,.inl (congrArg (Ob.row 1 Aa) hsn),Y,q_⟩,Y,Y⟩
   ·have hke:k=(n.floods[((m:Nat):Int).toNat]'hm0).addrs.length:=qB h
    clear h
    rw[hke,List.take_length,← hpt]
    refine Ac 1200 Y ?_
    refine Yv 1004 Y (⟨(n.domains[((j:Nat):Int).toNat]'hj0).dev,(n.domains[((j:Nat):Int).toNat]'hj0).vlan,(n.domains[((j:Nat):Int).toNat]'hj0).vni,(n.domains[((j:Nat):Int).toNat]'hj0).irb,(n.domains[((j:Nat):Int).toNat]'hj0).row,ps⟩:Domain) Y Y Y ?_
    refine T ?_
    exact Ae (j+1) [] hlt z_ ⟨⟨Y,Y,Y,Y,Y,Y,Y,Y,q_⟩,⟨.inl Y,Y,.inl Y,Y,.inl Y,Y,.inl Y,Y,.inl Y,Y,.inl (congrArg (Ob.row 6 Am) m2.symm),Y,.inl Y,Y,.inl Y,Y,.inl Y,Y,.inl Y,Y,q_⟩,Y,Y⟩
  ·have hje:j=n.domains.length:=by omega
   clear hlt
   subst hje
   rw[Aed]
   have hmd:(D7 n).domains.length=n.domains.length:=by simp[D7]
   have g0:decide (((n.domains.length:Nat):Int)<(D7 n).domains.length)=false:=decide_eq_false z_
   have qm:=M6 (D7 n) (Sj hn hr)
   refine T ?_
   refine Ac 901 Y ?_
   refine Ac 902 Y ?_
   refine Ac 903 Y ?_
   refine Ac 1004 Y ?_
   refine Ac 905 Y ?_
   refine Ac 906 Y ?_
   refine Ac 907 Y ?_
   refine Ac 908 Y ?_
   cases hb:Ah (D7 n) with
   | false =>
    rw[hb]at qm
    rw[hb,if_pos rfl]at hres
    subst hres
    refine C qm F135 ?_
    refine Ag 1001 (Bj emptyN) Y (.cons .nil (.cons .nil (.cons .nil (.cons .nil (.cons .nil (.cons .nil (.cons .nil (.cons .nil .nil)))))))) ?_
    refine T ?_
    exact D
   | true =>
    rw[hb]at qm
    rw[hb,if_neg qe]at hres
    subst hres
    refine C qm F135 ?_
    exact D
end Go.Sy.YtjenpnjajjplkaaGreatDoor
namespace Go.Sy.YtjenpnjajjplkaaGreatDoor
open Go.Proofs
attribute [local irreducible] Go.Sy.G Go.Sy.DR
set_option maxRecDepth 20000
set_option maxHeartbeats 4000000
structure Hop where
 (kind port domain addr:Int)
instance:Inhabited Hop:=⟨⟨0,0,0,0⟩⟩
def Ard (n:Net) (d:Int):Prop:=(0≤d∧d<n.domains.length)∧Ah n=true
instance (n:Net) (d:Int):Decidable (Ard n d):=inferInstanceAs (Decidable (_∧_))
def Abr (n:Net) (d p:Int):Option Hop:=if (linkDomT n p (nth n.domains d).vlan).2=true then some ⟨1,p,(linkDomT n p (nth n.domains d).vlan).1,0⟩ else none
def Abl (p:Int):Hop:=⟨2,0,p,0⟩
def Arc (n:Net) (d:Int):List Hop:=(E4 n d).filterMap (Abr n d)++(nth n.domains d).peers.map Abl
def Yc (n:Net) (d:Int):List Hop:=if Ard n d then Arc n d else []
structure Lead where
 (to domain addr:Int)
instance:Inhabited Lead:=⟨⟨0,0,0⟩⟩
def An6 (n:Net) (irb:Int) (i:Nat):Option Lead:=if (Afj n irb i).2=true then some ⟨i,(nth n.irbs i).domain,(Afj n irb i).1⟩ else none
def leadsL (n:Net) (irb:Int) (j:Nat):List Lead:=(List.range j).filterMap (An6 n irb)
def O8 (n:Net) (d:Int):List Lead:=if (0≤d∧d<n.domains.length)∧0≤(nth n.domains d).irb∧Ah n=true then leadsL n (nth n.domains d).irb n.irbs.length else []
structure Fnd where
 (domain kind:Int) (hop:Hop) (ahead:Int)
instance:Inhabited Fnd:=⟨⟨0,0,default,0⟩⟩
structure Srch where
 (m0 m1:List Bool) (list:List Fnd)
def metB (S:Srch) (d k:Int):Bool:=if k=0 then nth S.m0 d else nth S.m1 d
def Aef (S:Srch) (d k:Int) (h:Hop) (ahead:Int):Srch :=
 if k=0 then ⟨S.m0.set d.toNat true,S.m1,S.list++[⟨d,k,h,ahead⟩]⟩ else ⟨S.m0,S.m1.set d.toNat true,S.list++[⟨d,k,h,ahead⟩]⟩
def Ts (S:Srch) (d k:Int) (h:Hop) (ahead:Int):Srch:=if metB S d k=true then S else Aef S d k h ahead
structure Srch.OK (n:Net) (S:Srch):Prop where
 l0:S.m0.length=n.domains.length
 l1:S.m1.length=n.domains.length
 at_:∀ f∈S.list,(0≤f.domain∧f.domain.toNat<n.domains.length)∧(f.kind=0∨f.kind=1)
 len:S.list.length≤S.m0.count true+S.m1.count true
theorem count_set {l:List Bool} {i:Nat} (h:i<l.length) (hi:l[i]=false):(l.set i true).count true=l.count true+1:=by
 rw[List.count_set h,hi]
 simp
theorem Srch.OK.meet {n:Net} {S:Srch} (h:S.OK n) {d k:Int} (hd:0≤d∧d.toNat<n.domains.length) (hk:k=0∨k=1) (hp:Hop) (a:Int):(Ts S d k hp a).OK n:=by
 rw[Ts]
 split
 ·exact h
 rename_i hmt
 have h0:d.toNat<S.m0.length:=by rw[h.l0];exact hd.2
 have h1:d.toNat<S.m1.length:=by rw[h.l1];exact hd.2
 rcases hk with rfl | rfl
 ·rw[metB,if_pos rfl,As h0]at hmt
  rw[Aef,if_pos rfl]
  refine⟨by simp[h.l0],h.l1,fun f hf=>?_,?_⟩
  ·rcases List.mem_append.1 hf with hf | hf
   ·exact h.at_ f hf
   ·rw[List.mem_singleton]at hf
    subst hf
    exact⟨hd,.inl Y⟩
  ·rw[count_set h0 (by simpa using hmt),List.length_append,List.length_singleton]
   have:=h.len
   show _≤_+S.m1.count true
   omega
 ·rw[metB,if_neg y_,As h1]at hmt
  rw[Aef,if_neg y_]
  refine⟨h.l0,by simp[h.l1],fun f hf=>?_,?_⟩
  ·rcases List.mem_append.1 hf with hf | hf
   ·exact h.at_ f hf
   ·rw[List.mem_singleton]at hf
    subst hf
    exact⟨hd,.inr Y⟩
  ·rw[count_set h1 (by simpa using hmt),List.length_append,List.length_singleton]
   have:=h.len
   show _≤S.m0.count true+_
   omega
theorem Lg {n:Net} (h:Ah n=true) {i:Nat} (hi:i<n.ports.length) {v:Int} (hv:C7 n.ports[i] v=true):0≤Ds n n.ports[i].dev v∧(Ds n n.ports[i].dev v).toNat<n.domains.length:=by
 have hp:=Ab8 h hi
 simp only[Jg,Bool.and_eq_true,Bool.not_eq_true']at hp
 simp only[C7,Bool.and_eq_true,bne_iff_ne,Bool.or_eq_true,beq_iff_eq]at hv
 have h0:0≤Ds n n.ports[i].dev v:=by
  rcases hv.2 with h1 | h1
  ·have h2:=hp.1.2
   have h3:=hp.1.1.1.1.1.1.1.2
   rw[h1]at hv ⊢
   have h4:decide (0<n.ports[i].native)=true:=by
    simp only[decide_eq_true_eq]at h3 ⊢
    omega
   rw[h4]at h2
   simpa [Cs] using h2
  ·have h2:=hp.1.1.2
   obtain ⟨x,hx,e⟩:=List.any_eq_true.1 h1
   obtain ⟨j,hj,rfl⟩:=List.mem_iff_getElem.1 hx
   have h3:=allB_iff.1 h2 j hj
   simp only[beq_iff_eq]at e
   rw[e]at h3
   simpa [Cs] using h3
 refine⟨h0,?_⟩
 have:=Abx (fun d:Domain=>d.dev == n.ports[i].dev && d.vlan == v) n.domains
 have e:Ds n n.ports[i].dev v=Dl (fun d:Domain=>d.dev == n.ports[i].dev && d.vlan == v) n.domains:=rfl
 omega
theorem Ji {n:Net} {i v:Int} (h:(linkDomT n i v).2=true):0≤(linkDomT n i v).1∧(linkDomT n i v).1.toNat<n.domains.length:=by
 unfold linkDomT at h ⊢
 split at h
 ·rename_i hc
  rw[if_pos hc]
  have hth:=Ma hc
  unfold crossT at hc hth ⊢
  split at hc
  ·rename_i h1
   rw[if_pos h1]at hth ⊢
   have hb:=(J6 h1.1).2.1
   have h2:=h1.2.2
   rw[T9]at h2 ⊢
   rw[T7,if_pos hb]
   dsimp only at hth ⊢
   rw[As hth.2]at h2 ⊢
   refine Lg hb hth.2 ?_
   simp only[C7,Bool.and_eq_true,bne_iff_ne,Bool.or_eq_true,beq_iff_eq]
   refine⟨h2,?_⟩
   split
   ·exact .inl Y
   ·rename_i h3
    rw[if_neg h3]at h2
    split
    ·rename_i h4
     exact .inr h4
    ·rename_i h4
     rw[if_neg h4]at h2
     exact absurd Y h2
  ·cases hc
 ·cases h
theorem Aig {n:Net} (h:Ah n=true) {i:Nat} (hi:i<n.domains.length) {p:Int} (hp:p∈n.domains[i].peers):0≤p∧p.toNat<n.domains.length:=by
 simp only[Ah,Bool.and_eq_true]at h
 have h1:=allB_iff.1 h.1.1.1.1.1.1.2 i hi
 obtain ⟨j,hj,rfl⟩:=List.mem_iff_getElem.1 hp
 have h2:=allB_iff.1 h1 j hj
 simp only[Od,Ap,Bool.and_eq_true,decide_eq_true_eq]at h2
 omega
theorem Yb {n:Net} {d:Int} {h:Hop} (hh:h∈Yc n d):0≤h.domain∧h.domain.toNat<n.domains.length:=by
 rw[Yc]at hh
 split at hh
 ·rename_i hd
  have hk:d.toNat<n.domains.length:=by have:=hd.1;omega
  rw[Arc,As hk]at hh
  rcases List.mem_append.1 hh with hh | hh
  ·obtain ⟨p,_,hp⟩:=List.mem_filterMap.1 hh
   rw[Abr]at hp
   split at hp
   ·rename_i hl
    simp only[Option.some.injEq]at hp
    subst hp
    exact Ji hl
   ·cases hp
  ·obtain ⟨p,hp,rfl⟩:=List.mem_map.1 hh
   exact Aig hd.2 hk hp
 ·cases hh
theorem W8 {n:Net} {d:Int} {q:Lead} (hq:q∈O8 n d):0≤q.domain∧q.domain.toNat<n.domains.length:=by
 rw[O8]at hq
 split at hq
 ·rename_i hc
  obtain ⟨i,hi,hp⟩:=List.mem_filterMap.1 hq
  rw[An6]at hp
  split at hp
  ·simp only[Option.some.injEq]at hp
   subst hp
   have hi':((i:Nat):Int).toNat<n.irbs.length:=by simpa using hi
   show 0≤(nth n.irbs i).domain∧_
   rw[As hi']
   exact(Ae8 hc.2.2 hi').1
  ·cases hp
 ·cases hq
end Go.Sy.YtjenpnjajjplkaaGreatDoor
namespace Go.Sy
theorem Aom {P:Program} {o:Oper} {s:SS} {x y:Operand} {at_:Array TypeId} {k k':IntKind} {m n:Int} (h:o.op=.call ⟨.builtin .max,#[x,y],at_⟩)
  (hx:ev s x=.val (.int k m)) (hy:ev s y=.val (.int k' n)):Good P o s ⟨.val (.int k (if n>m then n else m)),[],[]⟩ :=
 Good.pure fun κ a w _ hr ho=>by
  have h1:=hr x (by simp[h,Op.operands,Call.operands])
  have h2:=hr y (by simp[h,Op.operands,Call.operands])
  rw[hx]at h1
  rw[hy]at h2
  refine⟨.int k (if n>m then n else m),?_,by simp[Rd]⟩
  simp[execOp,h,resolve,invoke,builtin,Builtin.max_,Builtin.max2,h1.val,h2.val]
end Go.Sy
namespace Go.Sy.YtjenpnjajjplkaaGreatDoor
open Go.Proofs
attribute [local irreducible] Go.Sy.G Go.Sy.DR
set_option maxRecDepth 100000
set_option maxHeartbeats 4000000
theorem Cc {f:List Int} (hf:B3 f) {i:Int} (h0:0≤i) (hi:i.toNat<f.length):0≤nth f i∧nth f i≤i:=by
 rw[As hi]
 have:=hf i.toNat hi
 omega
theorem E9 {f:List Int} (hf:B3 f) {i:Nat} (_hi:i<f.length) {x:Int} (h0:0≤x) (hx:x≤i):B3 (f.set i x):=by
 intro k hk
 rw[List.length_set]at hk
 rw[List.getElem_set]
 split
 ·rename_i e;subst e;exact⟨h0,hx⟩
 ·exact hf k hk
theorem Zo:∀ (m k k':Nat) (f:List Int) (i:Int),B3 f→0≤i→i.toNat<f.length→i.toNat≤m→i.toNat+1≤k→i.toNat+1≤k'→Acv k f i=Acv k' f i
 | m,0,_,_,_,_,_,_,_,h,_=>by omega
 | m,_+1,0,_,_,_,_,_,_,_,h=>by omega
 | m,k+1,k'+1,f,i,hf,h0,hi,hm,h1,h2=>by
  rw[Acv,Acv]
  by_cases e:nth f i=i
  ·rw[if_pos e,if_pos e]
  ·rw[if_neg e,if_neg e]
   obtain ⟨a1,a2⟩:=Cc hf h0 hi
   obtain ⟨b1,b2⟩:=Cc hf a1 (by omega:(nth f i).toNat<f.length)
   match m with
   | 0=>omega
   | m+1 =>
    exact Zo m k k' _ _ (E9 hf hi b1 z_) b1 (by rw[List.length_set];omega) z_ z_ z_
theorem Aax {f:List Int} {i:Int} (h:nth f i=i):E1 f i=(f,i):=by rw[E1,Acv,if_pos h]
theorem Wy {f:List Int} {i:Int} (hf:B3 f) (h0:0≤i) (hi:i.toNat<f.length) (h:nth f i≠i):E1 f i=E1 (f.set i.toNat (nth f (nth f i))) (nth f (nth f i)):=by
 obtain ⟨a1,a2⟩:=Cc hf h0 hi
 obtain ⟨b1,b2⟩:=Cc hf a1 (by omega:(nth f i).toNat<f.length)
 rw[E1,Acv,if_neg h,E1]
 exact Zo i.toNat _ _ _ _ (E9 hf hi b1 z_) b1 (by rw[List.length_set];omega) z_ z_ z_
theorem Iz:∀ (m:Nat) (f:List Int) (i:Int),B3 f→0≤i→i.toNat<f.length→i.toNat≤m→B3 (E1 f i).1∧(E1 f i).1.length=f.length∧0≤(E1 f i).2∧(E1 f i).2≤i
 | m,f,i,hf,h0,hi,hm=>by
  by_cases e:nth f i=i
  ·rw[Aax e];exact⟨hf,rfl,h0,Int.le_refl _⟩
  ·obtain ⟨a1,a2⟩:=Cc hf h0 hi
   obtain ⟨b1,b2⟩:=Cc hf a1 (by omega:(nth f i).toNat<f.length)
   rw[Wy hf h0 hi e]
   match m with
   | 0=>omega
   | m+1 =>
    obtain ⟨c1,c2,c3,c4⟩:=Iz m _ _ (E9 hf hi b1 z_) b1 (by rw[List.length_set];omega:(nth f (nth f i)).toNat<(f.set i.toNat (nth f (nth f i))).length) z_
    exact⟨c1,by rw[c2,List.length_set],c3,by omega⟩
theorem Sm {f:List Int} {a b:Int} (hf:B3 f) (ha:0≤a∧a.toNat<f.length) (hb:0≤b∧b.toNat<f.length):B3 (Iw f a b).1∧(Iw f a b).1.length=f.length:=by
 obtain ⟨a1,a2,a3,a4⟩:=Iz a.toNat f a hf ha.1 ha.2 (Nat.le_refl _)
 obtain ⟨b1,b2,b3,b4⟩:=Iz b.toNat (E1 f a).1 b a1 hb.1 z_ (Nat.le_refl _)
 unfold Iw
 dsimp only
 generalize E1 (E1 f a).1 b=y at *
 generalize E1 f a=x at *
 refine⟨E9 b1 z_ z_ z_,by rw[List.length_set];omega⟩
theorem Dy (k:Nat):B3 (B8 k)∧(B8 k).length=k:=by
 refine⟨fun i hi=>?_,by simp[B8]⟩
 simp[B8]
def alJ (k j:Nat):List Int:=(List.range j).map (fun i:Nat=>(i:Int))++List.replicate (k-j) 0
theorem Ao9 (k:Nat):alJ k 0=List.replicate k 0:=by simp[alJ]
theorem Aqz (k j:Nat) (h:j≤k):(alJ k j).length=k:=by simp[alJ];omega
theorem Apa (k j:Nat) (h:j<k):(alJ k j).set ((j:Nat):Int).toNat (j:Int)=alJ k (j+1):=by
 have hl:((List.range j).map (fun i:Nat=>(i:Int))).length=j:=by simp
 rw[Int.toNat_natCast,alJ,alJ,List.set_append_right _ _ z_,hl,Nat.sub_self,show k-j=(k-(j+1))+1 by omega,List.replicate_succ,List.set_cons_zero,List.range_succ,List.map_append,List.append_assoc]
 rfl
theorem aloneS (k:Nat) (hk:k≤100000):Sy.Spec Tryz.prog 65 [Aa k] [] (.osl 900) [(900,.row 1 Aa (B8 k))]:=cT F65 Tryz.ntmps65 fun F hF=>by
 have hfull:alJ k k=B8 k:=by simp[alJ,B8]
 refine T ?_
 refine X (Yg Γ.toTy (d:=6) (n:=k) Aa 0 Y Y Y Y Y Y Y Y z_ z_ Y Y Y) ?_
 refine T ?_
 refine Au (fun j:Nat=>j≤k) (fun j=>[(3,.osl 1000),(8,Aa k),(9,Aa j)]) (fun j=>[(1000,.row 1 Aa (alJ k j))]) (fun j=>k-j) 0 [(1000,6)] z_ ⟨⟨Y,Y,congrArg Aa (by rw[List.length_replicate]),Y,Y,Y,q_⟩,⟨.inl (congrArg (Ob.row 1 Aa) (Ao9 k)),Y,q_⟩,Y,Y⟩ ?_
 intro j hj
 have hl:=Aqz k j hj
 refine T ?_
 refine⟨fun h=>?_,fun h=>?_⟩
 ·have hlt:j<k:=qA h
  clear h
  have hne:alJ k j≠[]:=fun e=>by rw[e]at hl;simp at hl;omega
  have hnx:=Apa k j hlt
  refine T ?_
  refine⟨(j:Int),Y,Y,?_⟩
  refine T ?_
  exact Ae (j+1) [] hlt z_ ⟨⟨Y,Y,Y,Y,Y,Y,q_⟩,⟨.inl (congrArg (Ob.row 1 Aa) hnx.symm),Y,q_⟩,Y,Y⟩
 ·have hje:j=k:=qB h
  clear h
  subst hje
  rw[hfull]
  refine T ?_
  exact done Y (.cons .tmp .nil) [(900,1000)] [(900,.row 1 Aa (B8 j))] (fun _ h=>h) Y Y U
theorem Aj6 (l:List Int) (h0:0<l.length) (hl:l.length<2147483648):Sy.Spec Tryz.prog 67 [.sl 1 Aa l] [] (Aa (Za l)) []:=cT F67 Tryz.ntmps67 fun F hF=>by
 have f0:decide ((l.length:Int)<1)=false:=decide_eq_false z_
 have hz:(0:Int).toNat<l.length:=h0
 have hst:Za l=Hc (l[(0:Int).toNat]'hz) (l.drop 1):=by rw[Za,As hz]
 refine T ?_
 refine Au (fun x:Nat × Int=>1≤x.1∧x.1≤l.length∧Za l=Hc x.2 (l.drop x.1)) (fun x=>[(0,.sl 1 Aa l),(3,Aa x.2),(4,Aa x.1)]) (fun _=>[]) (fun x=>l.length-x.1) (1,l[(0:Int).toNat]'hz) [] ⟨by omega,by omega,hst⟩ U ?_
 rintro ⟨i,m⟩ ⟨h1,h2,hI⟩
 dsimp only at h1 h2 hI ⊢
 refine T ?_
 refine⟨fun h=>?_,fun h=>?_⟩
 ·have hlt:i<l.length:=qA h
  have hlt0:((i:Nat):Int).toNat<l.length:=hlt
  clear h
  rw[List.drop_eq_getElem_cons hlt,Hc]at hI
  refine T ?_
  refine X (Yf Y Y Y) ?_
  exact Ae (i+1,min m l[i]) [] ⟨by dsimp only;omega,hlt,hI⟩ (by dsimp only;omega) ⟨⟨Y,Y,congrArg Aa (by dsimp only;show min m l[i]=if l[i]<m then l[i] else m;omega),Y,Y,Y,q_⟩,q_,Y,Y⟩
 ·have hie:i=l.length:=qB h
  clear h
  rw[hie,List.drop_length,Hc]at hI
  rw[hI]
  refine T ?_
  exact D
theorem topS (f:List Int) (i:Int) (hf:B3 f) (h0:0≤i) (hi:i.toNat<f.length) (hl:f.length≤100000):Sy.Spec Tryz.prog 169 [.osl 900,Aa i] [(900,.row 1 Aa f)] (Aa (E1 f i).2) [(900,.row 1 Aa (E1 f i).1)]:=cT F169 Tryz.ntmps169 fun F hF=>by
 refine T ?_
 refine Au (fun x:List Int × Int=>B3 x.1∧x.1.length=f.length∧0≤x.2∧x.2.toNat<f.length∧E1 f i=E1 x.1 x.2) (fun x=>[(0,.osl 900),(1,Aa x.2)]) (fun x=>[(900,.row 1 Aa x.1)]) (fun x=>x.2.toNat) (f,i) [] ⟨hf,Y,h0,hi,Y⟩ U ?_
 rintro ⟨g,k⟩ ⟨h1,h2,h3,h4,hI⟩
 dsimp only at h1 h2 h3 h4 hI ⊢
 have hk0:k.toNat<g.length:=by omega
 have hn:=As hk0
 by_cases e:nth g k=k
 ·have hb:(g[k.toNat] == k)=true:=by rw[← hn];exact beq_iff_eq.mpr e
  have hb':(!(g[k.toNat] == k))=false:=by rw[hb];rfl
  rw[hI,Aax e]
  refine T ?_
  exact done Y (.cons .tmp .nil) [(900,900)] [(900,.row 1 Aa g)] (fun _ h=>h) Y Y U
 ·obtain ⟨a1,a2⟩:=Cc h1 h3 hk0
  obtain ⟨b1,b2⟩:=Cc h1 a1 (by omega:(nth g k).toNat<g.length)
  have hk1:(g[k.toNat]'hk0).toNat<g.length:=by omega
  have hn1:nth g (nth g k)=g[(g[k.toNat]'hk0).toNat]'hk1:=by rw[hn];exact As hk1
  have hs:=Wy h1 h3 hk0 e
  have hb:(g[k.toNat] == k)=false:=by rw[← hn];exact beq_eq_false_iff_ne.mpr e
  have hb':(!(g[k.toNat] == k))=true:=by rw[hb];rfl
  refine T ?_
  refine⟨nth g (nth g k),congrArg (fun x=>cellsOf (Aa x)) hn1,Y,?_⟩
  have hk2:k.toNat<(g.set k.toNat (nth g (nth g k))).length:=by rw[List.length_set];exact hk0
  have hn2:(g.set k.toNat (nth g (nth g k)))[k.toNat]'hk2=nth g (nth g k):=List.getElem_set_self _
  refine T ?_
  refine Ae (g.set k.toNat (nth g (nth g k)),nth g (nth g k)) [] ⟨E9 h1 hk0 b1 z_,by dsimp only;rw[List.length_set];exact h2,b1,by dsimp only;omega,by dsimp only;rw[hI,hs]⟩ (by dsimp only;omega) ⟨⟨Y,Y,congrArg Aa hn2.symm,Y,q_⟩,⟨.inl Y,Y,q_⟩,Y,Y⟩
theorem Arb (f:List Int) (a b:Int) (hf:B3 f) (ha:0≤a∧a.toNat<f.length) (hb:0≤b∧b.toNat<f.length) (hl:f.length≤100000):Sy.Spec Tryz.prog 68 [.osl 900,Aa a,Aa b] [(900,.row 1 Aa f)] (Ab (Iw f a b).2) [(900,.row 1 Aa (Iw f a b).1)]:=cT F68 Tryz.ntmps68 fun F hF=>by
 obtain ⟨a1,a2,a3,a4⟩:=Iz a.toNat f a hf ha.1 ha.2 (Nat.le_refl _)
 obtain ⟨b1,b2,b3,b4⟩:=Iz b.toNat (E1 f a).1 b a1 hb.1 z_ (Nat.le_refl _)
 have F1:=topS f a hf ha.1 ha.2 hl
 have F2:=topS (E1 f a).1 b a1 hb.1 z_ z_
 rw[Iw]
 dsimp only
 generalize hy:E1 (E1 f a).1 b=y at *
 generalize hx:E1 f a=x at *
 have hm:(if y.2>x.2 then y.2 else x.2).toNat<y.1.length:=by split<;>omega
 have hm0:0≤(if y.2>x.2 then y.2 else x.2):=by split<;>omega
 have e1:(max x.2 y.2).toNat=(if y.2>x.2 then y.2 else x.2).toNat:=by rw[Int.max_def];split<;>split<;>omega
 have e2:(min x.2 y.2)=(if y.2<x.2 then y.2 else x.2):=by rw[Int.min_def];split<;>split<;>omega
 rw[e1,e2]
 refine T ?_
 refine X (Af [(900,900)] Y F169 F1 Y W Y V) ?_
 refine T ?_
 refine X (Af [(900,900)] Y F169 F2 Y W Y V) ?_
 refine T ?_
 refine X (Aom Y Y Y) ?_
 refine T ?_
 refine X (Yf Y Y Y) ?_
 refine T ?_
 refine⟨_,Y,Y,?_⟩
 refine T ?_
 exact done Y (.cons .tmp .nil) [(900,900)] [(900,.row 1 Aa (y.1.set (if y.2>x.2 then y.2 else x.2).toNat (if y.2<x.2 then y.2 else x.2)))] (fun _ h=>h) Y Y U
theorem Il {n:Net} {i:Nat} {v:Int} (h:(linkDomT n i v).2=true) (hi:i<n.ports.length):C7 n.ports[i] v=true:=by
 have e:nth n.ports ((i:Nat):Int)=n.ports[i]:=As (l:=n.ports) (i:=((i:Nat):Int)) hi
 unfold linkDomT at h
 split at h
 ·rename_i h3
  unfold crossT at h3
  split at h3
  ·rename_i h4
   rw[e]at h4
   exact h4.2.1
  ·cases h3
 ·cases h
theorem Qy {n:Net} (hr:Ah n=true) {f:List Int} {i:Nat} (hi:i<n.ports.length) {v:Int} (hf:B3 f) (hl:n.domains.length≤f.length):B3 (Dg n f i v)∧(Dg n f i v).length=f.length:=by
 unfold Dg
 split
 ·rename_i h
  have h2:=Ji h
  have hm:C7 n.ports[i] v=true:=Il h hi
  have h3:=Lg hr hi hm
  have e:nth n.ports ((i:Nat):Int)=n.ports[i]:=As (l:=n.ports) (i:=((i:Nat):Int)) hi
  rw[e]
  exact Sm hf ⟨h3.1,by omega⟩ ⟨h2.1,by omega⟩
 ·exact⟨hf,Y⟩
theorem Jm {α:Type} {g:List Int→α→List Int} {k:Nat}:∀ {l:List α} {f:List Int},(∀ a∈l,∀ f,B3 f→k≤f.length→B3 (g f a)∧(g f a).length=f.length)→B3 f→k≤f.length→B3 (l.foldl g f)∧(l.foldl g f).length=f.length
 | [],_,_,h,_=>⟨h,rfl⟩
 | a::l,f,hg,h,hk=>by
  obtain ⟨h1,h2⟩:=hg a qe f h hk
  obtain ⟨h3,h4⟩:=Jm (l:=l) (fun b hb=>hg b (by simp[hb])) h1 (by omega:k≤(g f a).length)
  exact⟨h3,by rw[List.foldl_cons,h4,h2]⟩
theorem Om {n:Net} (hr:Ah n=true) {f:List Int} {i:Nat} (hi:i<n.ports.length) (hf:B3 f) (hl:n.domains.length≤f.length):B3 (E5 n f i)∧(E5 n f i).length=f.length :=
 Jm (fun _ _ _ h1 h2=>Qy hr hi h1 h2) hf hl
theorem Abq {n:Net} (hr:Ah n=true) {f:List Int} (hf:B3 f) (hl:n.domains.length≤f.length):B3 (K0 n f)∧(K0 n f).length=f.length :=
 Jm (fun i hi _ h1 h2=>Om hr (by simpa using hi) h1 h2) hf hl
theorem Acf (l:List Int) (hl:l.length<2147483648):Sy.Spec Tryz.prog 159 [.sl 1 Aa l] [] (.osl 0) [(0,.row 1 Aa l)]:=cT F159 Tryz.ntmps159 fun F hF=>by
 ((conv=>whnf);repeat((first|refine aF ?_|refine aT ?_);(first|refine rG Γ hm ?_|refine rD Γ hm j_ ?_);conv=>whnf))
 refine Ic Y (.inl Y) Y Y Y .sl Y Y ?_
 intro b hb
 cases b
 ·((first|refine rG Γ hm ?_|refine rD Γ hm j_ ?_);(conv=>whnf);repeat((first|refine aF ?_|refine aT ?_);(first|refine rG Γ hm ?_|refine rD Γ hm j_ ?_);conv=>whnf))
  refine C0 (Ak Γ.toTy 7 Y Y Y Y Y (.lit (e:=Aa) (l:=[]) Y Y) .sl qe (by simp;omega) (by simp;omega)) Y Y ?_
  ((first|refine rG Γ hm ?_|refine rD Γ hm j_ ?_);(conv=>whnf);repeat((first|refine aF ?_|refine aT ?_);(first|refine rG Γ hm ?_|refine rD Γ hm j_ ?_);conv=>whnf))
  exact done Y (.cons .tmp .nil) [(0,7)] [(0,.row 1 Aa l)] (fun _ h=>h) Y Y ⟨q_,⟨.inl Y,Y,q_⟩,Y,Y⟩
 ·have h0:l=[]:=List.eq_nil_of_length_eq_zero (hb rfl)
  subst h0
  ((first|refine rG Γ hm ?_|refine rD Γ hm j_ ?_);(conv=>whnf);repeat((first|refine aF ?_|refine aT ?_);(first|refine rG Γ hm ?_|refine rD Γ hm j_ ?_);conv=>whnf))
  refine C4 2 1000 1 Aa Y Y ?_
  exact done Y (.cons .tmp .nil) [(0,1000)] [(0,.row 1 Aa [])] (fun _ h=>h) Y Y ⟨q_,⟨.inl Y,Y,q_⟩,Y,Y⟩
theorem Aqg (n:Net) (f:List Int) (hn:n.Fin) (hr:Ah n=true) (hf:B3 f) (hl:n.domains.length≤f.length) (hl2:f.length≤100000):Sy.Spec Tryz.prog 66 [Aj n,.osl 900] [(900,.row 1 Aa f)] (.tup []) [(900,.row 1 Aa (K0 n f))]:=cT F66 Tryz.ntmps66 fun F hF=>by
 have hp:n.ports.length<2147483648:=hn.ports
 refine T ?_
 refine A6 2 8 (Aj n) Y Y Y ?_
 refine T ?_
 refine Dz n.ports.length (fun j=>[(1,.osl 900),(2,.ref 8 (Aj n) 0),(11,.sl 7 Bb n.ports),(12,Aa n.ports.length),(13,Aa j)]) (fun j=>[(900,.row 1 Aa ((List.range j).foldl (E5 n) f))]) [] U ?_
 intro j hj
 refine T ?_
 refine⟨fun h=>?_,fun h=>?_⟩
 ·have hlt:j<n.ports.length:=qA h
  have hj0:((j:Nat):Int).toNat<n.ports.length:=hlt
  clear h
  have htag:n.ports[((j:Nat):Int).toNat].tagged.length<2147483648:=hn.tagged _ (List.getElem_mem hj0)
  have htag2:n.ports[j].tagged.length<2147483648:=htag
  have hnp:nth n.ports ((j:Nat):Int)=n.ports[((j:Nat):Int).toNat]:=As hj0
  obtain ⟨g1,g2⟩:B3 ((List.range j).foldl (E5 n) f)∧((List.range j).foldl (E5 n) f).length=f.length:=Jm (fun i hi _ h1 h2=>Om hr (by have:=List.mem_range.1 hi;omega) h1 h2) hf hl
  refine T ?_
  refine Xd (Af [(0,60)] Y F159 (Acf n.ports[((j:Nat):Int).toNat].tagged htag) Y q_ Y ⟨.inr Y,q_⟩) ?_
  refine T ?_
  refine Xd (Ak Γ.toTy 61 rfl rfl rfl rfl rfl (.row rfl) (.lit (e:=Aa) (l:=[n.ports[((j:Nat):Int).toNat].native]) rfl rfl) (by intro k hk;cases hk;decide) (by simp;omega) (by simp;omega)) ?_
  refine T ?_
  refine A6 5 7 (Bb n.ports[((j:Nat):Int).toNat]) Y Y Y ?_
  have hlen:(n.ports[((j:Nat):Int).toNat].tagged++[n.ports[((j:Nat):Int).toNat].native]).length=n.ports[((j:Nat):Int).toNat].tagged.length+1:=by simp
  refine T ?_
  obtain ⟨vl,hvl⟩:∃ vl,n.ports[((j:Nat):Int).toNat].tagged++[n.ports[((j:Nat):Int).toNat].native]=vl:=⟨_,rfl⟩
  have hvlen:vl.length<2147483649:=by rw[← hvl,hlen];omega
  obtain ⟨fj,hfj⟩:∃ fj,(List.range j).foldl (E5 n) f=fj:=⟨_,rfl⟩
  rw[hfj]at g1 g2
  refine Dz vl.length (fun i=>[(1,.osl 900),(2,.ref 8 (Aj n) 0),(4,Aa j),(5,.ref 7 (Bb n.ports[((j:Nat):Int).toNat]) 0),(11,.sl 7 Bb n.ports),(12,Aa n.ports.length),(13,Aa j),(24,.osl 1000),(25,Aa vl.length),(26,Aa i)])
   (fun i=>[(900,.row 1 Aa ((vl.take i).foldl (fun f v=>Dg n f j v) fj)),(1000,.row 1 Aa vl)]) [(1000,61)] ⟨⟨rfl,rfl,rfl,rfl,rfl,rfl,rfl,rfl,rfl,rfl,rfl,rfl,rfl,rfl,rfl,rfl,congrArg (fun l:List Int=>Aa l.length) hvl.symm,rfl,rfl,rfl,trivial⟩,⟨.inl (congrArg (Ob.row 1 Aa) hfj.symm),rfl,.inl (congrArg (Ob.row 1 Aa) hvl.symm),rfl,trivial⟩,rfl,rfl⟩ ?_
  intro i hi
  refine T ?_
  refine⟨fun h=>?_,fun h=>?_⟩
  ·have hit:i<vl.length:=qA h
   have hi0:((i:Nat):Int).toNat<vl.length:=hit
   clear h
   obtain ⟨e1,e2⟩:B3 ((vl.take i).foldl (fun f v=>Dg n f j v) fj)∧((vl.take i).foldl (fun f v=>Dg n f j v) fj).length=fj.length:=Jm (fun _ _ _ h1 h2=>Qy hr hlt h1 h2) g1 z_
   have hnx:(vl.take (i+1)).foldl (fun f v=>Dg n f j v) fj=Dg n ((vl.take i).foldl (fun f v=>Dg n f j v) fj) j (vl[((i:Nat):Int).toNat]'hi0):=by
    rw[List.take_succ_eq_append_getElem hit,List.foldl_append];rfl
   have q:=Abp n hn j (vl[((i:Nat):Int).toNat]'hi0)
   refine T ?_
   refine C q F167 ?_
   cases hb:(linkDomT n j (vl[((i:Nat):Int).toNat]'hi0)).2
   ·have hz:Dg n ((vl.take i).foldl (fun f v=>Dg n f j v) fj) j (vl[((i:Nat):Int).toNat]'hi0)=(vl.take i).foldl (fun f v=>Dg n f j v) fj:=by rw[Dg,if_neg (by rw[hb];decide)]
    rw[hz]at hnx
    refine T ?_
    exact D3 [] z_ ⟨⟨Y,Y,Y,Y,Y,Y,Y,Y,Y,Y,Y,Y,Y,Y,Y,Y,Y,Y,Y,Y,q_⟩,⟨.inl (congrArg (Ob.row 1 Aa) hnx),Y,.inl Y,Y,q_⟩,Y,Y⟩
   ·have hin:=Ji hb
    have hm:C7 (n.ports[((j:Nat):Int).toNat]'hj0) (vl[((i:Nat):Int).toNat]'hi0)=true:=Il hb hlt
    have hdm:=Lg hr hlt hm
    have q2:=Ja n hn hr (n.ports[((j:Nat):Int).toNat]'hj0).dev (vl[((i:Nat):Int).toNat]'hi0)
    have hz:Dg n ((vl.take i).foldl (fun f v=>Dg n f j v) fj) j (vl[((i:Nat):Int).toNat]'hi0)=(Iw ((vl.take i).foldl (fun f v=>Dg n f j v) fj) (Ds n (n.ports[((j:Nat):Int).toNat]'hj0).dev (vl[((i:Nat):Int).toNat]'hi0)) (linkDomT n j (vl[((i:Nat):Int).toNat]'hi0)).1).1:=by rw[Dg,if_pos hb,hnp]
    rw[hz]at hnx
    have q3:=Arb ((vl.take i).foldl (fun f v=>Dg n f j v) fj) (Ds n (n.ports[((j:Nat):Int).toNat]'hj0).dev (vl[((i:Nat):Int).toNat]'hi0)) (linkDomT n j (vl[((i:Nat):Int).toNat]'hi0)).1 e1 ⟨hdm.1,Nat.lt_of_lt_of_le hdm.2 z_⟩ ⟨hin.1,by omega⟩ z_
    refine T ?_
    refine C q2 F168 ?_
    refine T ?_
    refine X (Af [(900,900)] Y F68 q3 Y W Y V) ?_
    refine T ?_
    exact D3 [] z_ ⟨⟨Y,Y,Y,Y,Y,Y,Y,Y,Y,Y,Y,Y,Y,Y,Y,Y,Y,Y,Y,Y,q_⟩,⟨.inl (congrArg (Ob.row 1 Aa) hnx),Y,.inl Y,Y,q_⟩,Y,Y⟩
  ·have hie:i=vl.length:=qB h
   clear h
   subst hie
   have hnx:(List.range (j+1)).foldl (E5 n) f=(vl.take vl.length).foldl (fun f v=>Dg n f j v) fj:=by
    rw[List.range_succ,List.foldl_append,hfj,List.take_length,← hvl]
    show E5 n fj j=_
    rw[E5,hnp]
   refine T ?_
   exact D3 [] z_ ⟨⟨Y,Y,Y,Y,Y,Y,Y,Y,Y,Y,q_⟩,⟨.inl (congrArg (Ob.row 1 Aa) hnx),Y,q_⟩,Y,Y⟩
 ·have hje:j=n.ports.length:=qB h
  clear h
  subst hje
  refine T ?_
  exact C3 Y .nil [(900,900)] [(900,.row 1 Aa (K0 n f))] (fun _ h=>h) Y Y U
end Go.Sy.YtjenpnjajjplkaaGreatDoor
namespace Go.Sy.YtjenpnjajjplkaaGreatDoor
open Go.Proofs
inductive Conn (E:Int→Int→Prop):Int→Int→Prop
 | refl (a:Int):Conn E a a
 | edge {a b:Int}:E a b→Conn E a b
 | symm {a b:Int}:Conn E a b→Conn E b a
 | trans {a b c:Int}:Conn E a b→Conn E b c→Conn E a c
theorem Conn.lift {E:Int→Int→Prop} {R:Int→Int→Prop} (h1:∀ a,R a a) (h2:∀ a b,R a b→R b a) (h3:∀ a b c,R a b→R b c→R a c) (h4:∀ a b,E a b→R a b) {a b:Int} (h:Conn E a b):R a b:=by
 induction h with
 | refl a=>exact h1 a
 | edge h=>exact h4 _ _ h
 | symm _ ih=>exact h2 _ _ ih
 | trans _ _ ih1 ih2=>exact h3 _ _ _ ih1 ih2
theorem Conn.sub {E F:Int→Int→Prop} (h:∀ a b,E a b→Conn F a b) {a b:Int} (hc:Conn E a b):Conn F a b:=Conn.lift (R:=Conn F) .refl (fun _ _=>.symm) (fun _ _ _=>.trans) h hc
theorem Conn.mono {E F:Int→Int→Prop} (h:∀ a b,E a b→F a b) {a b:Int} (hc:Conn E a b):Conn F a b:=Conn.sub (fun _ _ he=>.edge (h _ _ he)) hc
theorem Conn.keeps {E:Int→Int→Prop} {Z:Int→Prop} (h:∀ a b,E a b→(Z a↔Z b)) {a b:Int} (hc:Conn E a b):Z a↔Z b:=Conn.lift (R:=fun a b=>Z a↔Z b) (fun _=>Iff.rfl) (fun _ _ h=>h.symm) (fun _ _ _ h1 h2=>h1.trans h2) h hc
theorem Tm {l:List Int} {a b v:Int} (h0:0≤a) (h1:a.toNat<l.length) (hb:0≤b):nth (l.set a.toNat v) b=if b=a then v else nth l b:=by
 unfold nth
 by_cases e:b=a
 ·subst e
  rw[if_pos rfl,List.getElem?_set_self h1]
  rfl
 ·rw[if_neg e,List.getElem?_set_ne z_]
def rtF:Nat→List Int→Int→Int
 | 0,_,i=>i
 | k+1,f,i=>if nth f i=i then i else rtF k f (nth f i)
def rt (f:List Int) (i:Int):Int:=rtF (i.toNat+1) f i
def InR (f:List Int) (i:Int):Prop:=0≤i∧i.toNat<f.length
theorem Acz {f:List Int} (hf:B3 f):∀ (m k k':Nat) (i:Int),InR f i→i.toNat≤m→i.toNat+1≤k→i.toNat+1≤k'→rtF k f i=rtF k' f i
 | m,0,_,_,_,_,h,_=>by omega
 | m,_+1,0,_,_,_,_,h=>by omega
 | m,k+1,k'+1,i,hi,hm,h1,h2=>by
  rw[rtF,rtF]
  by_cases e:nth f i=i
  ·rw[if_pos e,if_pos e]
  ·rw[if_neg e,if_neg e]
   obtain ⟨a1,a2⟩:=Cc hf hi.1 hi.2
   have:=hi.1
   have:=hi.2
   match m with
   | 0=>omega
   | m+1=>exact Acz hf m k k' _ ⟨a1,by omega⟩ z_ z_ z_
theorem Kg {f:List Int} {i:Int} (h:nth f i=i):rt f i=i:=by rw[rt,rtF,if_pos h]
theorem Sr {f:List Int} (hf:B3 f) {i:Int} (hi:InR f i):InR f (nth f i):=by
 obtain ⟨a1,a2⟩:=Cc hf hi.1 hi.2
 have:=hi.2
 exact⟨a1,by omega⟩
theorem Ig {f:List Int} (hf:B3 f) {i:Int} (hi:InR f i):rt f (nth f i)=rt f i:=by
 by_cases e:nth f i=i
 ·rw[e]
 ·obtain ⟨a1,a2⟩:=Cc hf hi.1 hi.2
  have h2:=hi.2
  rw[rt,rt,rtF.eq_2 _ _ (i.toNat),if_neg e]
  exact Acz hf _ _ _ _ ⟨a1,by omega⟩ (Nat.le_refl _) z_ z_
theorem Acy {f:List Int} (hf:B3 f):∀ (m:Nat) (i:Int),InR f i→i.toNat≤m→0≤rt f i∧rt f i≤i∧nth f (rt f i)=rt f i
 | m,i,hi,hm=>by
  by_cases e:nth f i=i
  ·rw[Kg e]
   exact⟨hi.1,Int.le_refl _,e⟩
  ·obtain ⟨a1,a2⟩:=Cc hf hi.1 hi.2
   have h2:=hi.2
   rw[← Ig hf hi]
   match m with
   | 0=>omega
   | m+1 =>
    obtain ⟨b1,b2,b3⟩:=Acy hf m (nth f i) (Sr hf hi) z_
    exact⟨b1,by omega,b3⟩
theorem Ams {f:List Int} (hf:B3 f) {i:Int} (hi:InR f i):InR f (rt f i)∧rt f i≤i∧nth f (rt f i)=rt f i:=by
 obtain ⟨b1,b2,b3⟩:=Acy hf i.toNat i hi (Nat.le_refl _)
 have:=hi.2
 exact⟨⟨b1,by omega⟩,b2,b3⟩
theorem S7 {f:List Int} (hf:B3 f) {i:Int} (hi:InR f i) (hne:nth f i≠i):∀ (m:Nat) (j:Int),InR f j→j.toNat≤m→rt (f.set i.toNat (nth f (nth f i))) j=rt f j
 | m,j,hj,hm=>by
  have ha:=Sr hf hi
  have hb:=Sr hf ha
  obtain ⟨a1,a2⟩:=Cc hf hi.1 hi.2
  obtain ⟨b1,b2⟩:=Cc hf ha.1 ha.2
  have hi1:=hi.1
  have hi2:=hi.2
  have hj1:=hj.1
  have hj2:=hj.2
  have hf':B3 (f.set i.toNat (nth f (nth f i))):=E9 hf hi2 b1 z_
  have hj':InR (f.set i.toNat (nth f (nth f i))) j:=⟨hj1,by rw[List.length_set];exact hj2⟩
  have hput:=Tm (l:=f) (v:=nth f (nth f i)) hi1 hi2 hj1
  by_cases e:j=i
  ·rw[if_pos e]at hput
   rw[← Ig hf' hj',hput]
   have:rt f j=rt f (nth f (nth f i)):=by rw[Ig hf ha,Ig hf hi,e]
   rw[this]
   match m with
   | 0=>omega
   | m+1=>exact S7 hf hi hne m _ hb z_
  ·rw[if_neg e]at hput
   by_cases e2:nth f j=j
   ·rw[Kg e2,Kg (hput.trans e2)]
   ·obtain ⟨c1,c2⟩:=Cc hf hj1 hj2
    rw[← Ig hf' hj',hput,← Ig hf hj]
    match m with
    | 0=>omega
    | m+1=>exact S7 hf hi hne m _ (Sr hf hj) z_
theorem Agp:∀ (m:Nat) (f:List Int) (i:Int),B3 f→InR f i→i.toNat≤m→(E1 f i).2=rt f i∧∀ j,InR f j→rt (E1 f i).1 j=rt f j
 | m,f,i,hf,hi,hm=>by
  by_cases e:nth f i=i
  ·rw[Aax e,Kg e];exact⟨rfl,fun _ _=>rfl⟩
  ·have ha:=Sr hf hi
   have hb:=Sr hf ha
   obtain ⟨a1,a2⟩:=Cc hf hi.1 hi.2
   obtain ⟨b1,b2⟩:=Cc hf ha.1 ha.2
   have hi2:=hi.2
   rw[Wy hf hi.1 hi.2 e]
   have hf':B3 (f.set i.toNat (nth f (nth f i))):=E9 hf hi2 b1 z_
   match m with
   | 0=>omega
   | m+1 =>
    obtain ⟨c1,c2⟩:=Agp m _ (nth f (nth f i)) hf' ⟨b1,by rw[List.length_set];exact hb.2⟩ z_
    refine⟨?_,fun j hj=>?_⟩
    ·rw[c1,S7 hf hi e _ _ hb (Nat.le_refl _),Ig hf ha,Ig hf hi]
    ·rw[c2 j ⟨hj.1,by rw[List.length_set];exact hj.2⟩,S7 hf hi e _ _ hj (Nat.le_refl _)]
theorem Ai3 {f:List Int} (hf:B3 f) {a b:Int} (ha:InR f a) (hb:0≤b) (hba:b≤a) (ra:nth f a=a) (rb:nth f b=b):∀ (m:Nat) (j:Int),InR f j→j.toNat≤m→rt (f.set a.toNat b) j=if rt f j=a then b else rt f j
 | m,j,hj,hm=>by
  have ha1:=ha.1
  have ha2:=ha.2
  have hf':B3 (f.set a.toNat b):=E9 hf ha2 hb z_
  have hj':InR (f.set a.toNat b) j:=⟨hj.1,by rw[List.length_set];exact hj.2⟩
  have hput:=Tm (l:=f) (v:=b) ha1 ha2 hj.1
  by_cases e:j=a
  ·rw[if_pos e]at hput
   subst e
   rw[Kg ra,if_pos rfl]
   by_cases e3:b=j
   ·rw[Kg (by rw[hput,e3]),e3]
   ·rw[← Ig hf' hj',hput]
    have hpb:=Tm (l:=f) (v:=b) ha1 ha2 hb
    rw[if_neg e3]at hpb
    exact Kg (hpb.trans rb)
  ·rw[if_neg e]at hput
   by_cases e2:nth f j=j
   ·rw[Kg e2,Kg (hput.trans e2),if_neg e]
   ·obtain ⟨c1,c2⟩:=Cc hf hj.1 hj.2
    rw[← Ig hf' hj',hput,← Ig hf hj]
    match m with
    | 0=>omega
    | m+1=>exact Ai3 hf ha hb hba ra rb m _ (Sr hf hj) z_
theorem Apq {f:List Int} (hf:B3 f) {a b:Int} (ha:InR f a) (hb:InR f b):(Iw f a b).2=(rt f a != rt f b)∧∀ j,InR f j→rt (Iw f a b).1 j=if rt f j=max (rt f a) (rt f b) then min (rt f a) (rt f b) else rt f j:=by
 obtain ⟨a1,a2,a3,a4⟩:=Iz a.toNat f a hf ha.1 ha.2 (Nat.le_refl _)
 obtain ⟨t1,t2⟩:=Agp a.toNat f a hf ha (Nat.le_refl _)
 have hb':InR (E1 f a).1 b:=⟨hb.1,by rw[a2];exact hb.2⟩
 obtain ⟨b1,b2,b3,b4⟩:=Iz b.toNat (E1 f a).1 b a1 hb'.1 hb'.2 (Nat.le_refl _)
 obtain ⟨u1,u2⟩:=Agp b.toNat (E1 f a).1 b a1 hb' (Nat.le_refl _)
 obtain ⟨ra1,ra2,ra3⟩:=Ams hf ha
 obtain ⟨rb1,rb2,rb3⟩:=Ams hf hb
 rw[t2 b hb]at u1
 have hrt:∀ j,InR f j→rt (E1 (E1 f a).1 b).1 j=rt f j:=fun j hj=>by rw[u2 j ⟨hj.1,by rw[a2];exact hj.2⟩,t2 j hj]
 have hin:∀ j,InR f j→InR (E1 (E1 f a).1 b).1 j:=fun j hj=>⟨hj.1,by rw[b2,a2];exact hj.2⟩
 have htop:∀ j,InR f j→nth f j=j→nth (E1 (E1 f a).1 b).1 j=j:=fun j hj e=>by
  have h1:=hrt j hj
  rw[Kg e]at h1
  have h2:=(Ams b1 (hin j hj)).2.2
  rw[h1]at h2
  exact h2
 unfold Iw
 dsimp only
 rw[t1,u1]
 refine⟨Y,fun j hj=>?_⟩
 have hmax:InR f (max (rt f a) (rt f b))∧nth f (max (rt f a) (rt f b))=max (rt f a) (rt f b):=by
  rw[Int.max_def];split
  ·exact⟨rb1,rb3⟩
  ·exact⟨ra1,ra3⟩
 have hmin:InR f (min (rt f a) (rt f b))∧nth f (min (rt f a) (rt f b))=min (rt f a) (rt f b):=by
  rw[Int.min_def];split
  ·exact⟨ra1,ra3⟩
  ·exact⟨rb1,rb3⟩
 rw[Ai3 b1 (hin _ hmax.1) hmin.1.1 z_ (htop _ hmax.1 hmax.2) (htop _ hmin.1 hmin.2) j.toNat j (hin j hj) (Nat.le_refl _),hrt j hj]
structure Joins (f:List Int) (E:Int→Int→Prop):Prop where
 tree:B3 f
 inr:∀ a b,E a b→InR f a∧InR f b
 iff:∀ a b,InR f a→InR f b→(rt f a=rt f b↔Conn E a b)
theorem Joins.congr {f:List Int} {E F:Int→Int→Prop} (h:Joins f E) (he:∀ a b,E a b↔F a b):Joins f F:=by
 have:E=F:=funext fun a=>funext fun b=>propext (he a b)
 rwa [this]at h
theorem Aep (k:Nat):Joins (B8 k) (fun _ _=>False):=by
 have hk:=(Dy k).2
 have h1:∀ a,InR (B8 k) a→rt (B8 k) a=a:=fun a ha=>by
  refine Kg ?_
  rw[As ha.2]
  have:=ha.1
  simp[B8]
  omega
 refine⟨(Dy k).1,fun _ _ h=>h.elim,fun a b ha hb=>?_⟩
 rw[h1 a ha,h1 b hb]
 constructor
 ·rintro rfl
  exact .refl a
 ·intro h
  exact Conn.lift (R:=fun a b=>a=b) (fun _=>rfl) (fun _ _ h=>h.symm) (fun _ _ _ h1 h2=>h1.trans h2) (fun _ _ h=>h.elim) h
theorem X7 {f:List Int} {E:Int→Int→Prop} (h:Joins f E) {a b:Int} (ha:InR f a) (hb:InR f b) :
  Joins (Iw f a b).1 (fun x y=>E x y∨(x=a∧y=b))∧(Iw f a b).1.length=f.length∧((Iw f a b).2=false↔Conn E a b):=by
 obtain ⟨j1,j2⟩:=Sm h.tree ha hb
 obtain ⟨r1,r2⟩:=Apq h.tree ha hb
 have hin:∀ x,InR (Iw f a b).1 x↔InR f x:=fun x=>by unfold InR;rw[j2]
 have hE:∀ {x y},Conn E x y→Conn (fun x y=>E x y∨(x=a∧y=b)) x y:=fun h=>h.mono fun _ _=>.inl
 have hab:Conn (fun x y=>E x y∨(x=a∧y=b)) a b:=.edge (.inr ⟨rfl,rfl⟩)
 refine⟨⟨j1,?_,fun x y hx hy=>?_⟩,j2,?_⟩
 ·rintro x y (he | ⟨rfl,rfl⟩)
  ·have:=h.inr x y he
   exact⟨(hin x).2 this.1,(hin y).2 this.2⟩
  ·exact⟨(hin _).2 ha,(hin _).2 hb⟩
 ·have hx':=(hin x).1 hx
  have hy':=(hin y).1 hy
  rw[r2 x hx',r2 y hy']
  constructor
  ·intro he
   have key:rt f x=rt f y∨(rt f x=rt f a∧rt f y=rt f b)∨(rt f x=rt f b∧rt f y=rt f a):=by
    split at he<;>split at he<;>omega
   rcases key with k | ⟨k1,k2⟩ | ⟨k1,k2⟩
   ·exact hE ((h.iff x y hx' hy').1 k)
   ·exact((hE ((h.iff x a hx' ha).1 k1)).trans hab).trans (hE ((h.iff y b hy' hb).1 k2)).symm
   ·exact((hE ((h.iff x b hx' hb).1 k1)).trans hab.symm).trans (hE ((h.iff y a hy' ha).1 k2)).symm
  ·intro hc
   have key:x=y∨(InR f x∧InR f y∧(if rt f x=max (rt f a) (rt f b) then min (rt f a) (rt f b) else rt f x)=(if rt f y=max (rt f a) (rt f b) then min (rt f a) (rt f b) else rt f y)):=by
    refine Conn.lift (R:=fun x y=>x=y∨(InR f x∧InR f y∧(if rt f x=max (rt f a) (rt f b) then min (rt f a) (rt f b) else rt f x)=(if rt f y=max (rt f a) (rt f b) then min (rt f a) (rt f b) else rt f y)))
     (fun _=>.inl rfl) ?_ ?_ ?_ hc
    ·rintro x y (h | ⟨h1,h2,h3⟩)
     ·exact .inl h.symm
     ·exact .inr ⟨h2,h1,h3.symm⟩
    ·rintro x y z (rfl | ⟨h1,h2,h3⟩) h4
     ·exact h4
     ·rcases h4 with rfl | ⟨h5,h6,h7⟩
      ·exact .inr ⟨h1,h2,h3⟩
      ·exact .inr ⟨h1,h6,h3.trans h7⟩
    ·rintro x y (he | ⟨rfl,rfl⟩)
     ·obtain ⟨i1,i2⟩:=h.inr x y he
      exact .inr ⟨i1,i2,by rw[(h.iff x y i1 i2).2 (.edge he)]⟩
     ·refine .inr ⟨ha,hb,?_⟩
      split<;>split<;>omega
   rcases key with rfl | ⟨_,_,k⟩
   ·rfl
   ·exact k
 ·rw[r1,← h.iff a b ha hb]
  simp
theorem Sl {α:Type} {g:List Int→α→List Int} {R:α→Int→Int→Prop} {K:Nat}:∀ (l:List α) {f:List Int} {E:Int→Int→Prop},
  (∀ x∈l,∀ (f:List Int) (E:Int→Int→Prop),f.length=K→Joins f E→Joins (g f x) (fun a b=>E a b∨R x a b)∧(g f x).length=K)→f.length=K→Joins f E →
  Joins (l.foldl g f) (fun a b=>E a b∨∃ x∈l,R x a b)∧(l.foldl g f).length=K
 | [],f,E,_,hK,h=>⟨h.congr (fun a b=>by simp),hK⟩
 | x::l,f,E,hg,hK,h=>by
  obtain ⟨h1,h2⟩:=hg x qe f E hK h
  obtain ⟨h3,h4⟩:=Sl l (f:=g f x) (fun y hy=>hg y (by simp[hy])) h2 h1
  exact⟨h3.congr (fun a b=>by simp[or_assoc]),h4⟩
theorem Lk {p q:Nat→Bool}:∀ {l:List Nat},(∀ x∈l,p x=true→q x=true)→(∃ x∈l,q x=true∧p x=false)→l.countP p<l.countP q
 | [],_,h=>by
  obtain ⟨x,hx,_⟩:=h
  cases hx
 | y::l,h1,h2=>by
  rw[List.countP_cons,List.countP_cons]
  have hm:l.countP p≤l.countP q:=List.countP_mono_left (fun x hx=>h1 x (by simp[hx]))
  have hy:=h1 y qe
  obtain ⟨x,hx,hq,hp⟩:=h2
  rcases List.mem_cons.1 hx with rfl | hx
  ·rw[if_neg (by simp[hp]),if_pos hq];omega
  ·have:=Lk (l:=l) (fun x hx=>h1 x (by simp[hx])) ⟨x,hx,hq,hp⟩
   split<;>split<;>first | omega | (rename_i a b;exact absurd (hy a) b)
def Ea (l:List Int) (a b:Int):List Int :=
 let x:=if nth l b<nth l a then nth l b else nth l a
 (l.set a.toNat x).set b.toNat x
def InD (D:Nat) (i:Int):Prop:=0≤i∧i.toNat<D
structure Lab (D:Nat) (E:Int→Int→Prop) (l:List Int):Prop where
 len:l.length=D
 own:∀ a,InD D a→InD D (nth l a)∧nth l a≤a∧Conn E a (nth l a)
theorem Agu {l:List Int} {D:Nat} (hl:l.length=D) {a b c:Int} (ha:InD D a) (hb:InD D b) (hc:InD D c) :
  nth (Ea l a b) c=if c=a∨c=b then (if nth l b<nth l a then nth l b else nth l a) else nth l c:=by
 unfold Ea
 dsimp only
 generalize (if nth l b<nth l a then nth l b else nth l a)=v
 rw[Tm hb.1 (by rw[List.length_set,hl];exact hb.2) hc.1]
 by_cases e:c=b
 ·rw[if_pos e,if_pos (.inr e)]
 ·rw[if_neg e,Tm ha.1 (by rw[hl];exact ha.2) hc.1]
  by_cases e2:c=a
  ·rw[if_pos e2,if_pos (.inl e2)]
  ·rw[if_neg e2,if_neg (by rintro (h | h)<;>contradiction)]
theorem Xe (l:List Int) (a b:Int):(Ea l a b).length=l.length:=by simp[Ea]
theorem Xb {D:Nat} {E:Int→Int→Prop}:∀ (es:List (Int × Int)) (l:List Int),(∀ e∈es,InD D e.1∧InD D e.2∧E e.1 e.2)→Lab D E l →
  Lab D E (es.foldl (fun l e=>Ea l e.1 e.2) l)∧(∀ c,InD D c→nth (es.foldl (fun l e=>Ea l e.1 e.2) l) c≤nth l c) ∧
  ∀ e∈es,nth (es.foldl (fun l e=>Ea l e.1 e.2) l) e.1≤nth l e.2∧nth (es.foldl (fun l e=>Ea l e.1 e.2) l) e.2≤nth l e.1
 | [],l,_,h=>⟨h,fun _ _=>Int.le_refl _,fun e he=>(by cases he)⟩
 | x::es,l,hE,h=>by
  obtain ⟨xa,xb,xe⟩:=hE x qe
  have hn:=fun c hc=>Agu (c:=c) h.len xa xb hc
  have hmin:(if nth l x.2<nth l x.1 then nth l x.2 else nth l x.1)≤nth l x.1∧(if nth l x.2<nth l x.1 then nth l x.2 else nth l x.1)≤nth l x.2:=by split<;>omega
  have hle:∀ c,InD D c→nth (Ea l x.1 x.2) c≤nth l c:=fun c hc=>by
   rw[hn c hc]
   split
   ·rename_i e
    rcases e with rfl | rfl
    ·exact hmin.1
    ·exact hmin.2
   ·exact Int.le_refl _
  have hL:Lab D E (Ea l x.1 x.2):=by
   refine⟨by rw[Xe,h.len],fun c hc=>?_⟩
   obtain ⟨o1,o2,o3⟩:=h.own c hc
   refine⟨?_,Int.le_trans (hle c hc) o2,?_⟩
   ·rw[hn c hc]
    split
    ·split
     ·exact(h.own x.2 xb).1
     ·exact(h.own x.1 xa).1
    ·exact o1
   ·rw[hn c hc]
    split
    ·rename_i e
     have c1:Conn E c x.1:=by
      rcases e with rfl | rfl
      ·exact .refl _
      ·exact(Conn.edge xe).symm
     split
     ·exact(c1.trans (.edge xe)).trans (h.own x.2 xb).2.2
     ·exact c1.trans (h.own x.1 xa).2.2
    ·exact o3
  obtain ⟨i1,i2,i3⟩:=Xb es (Ea l x.1 x.2) (fun e he=>hE e (by simp[he])) hL
  rw[List.foldl_cons]
  refine⟨i1,fun c hc=>Int.le_trans (i2 c hc) (hle c hc),fun e he=>?_⟩
  rcases List.mem_cons.1 he with rfl | he
  ·have q1:=i2 e.1 xa
   have q2:=i2 e.2 xb
   rw[hn e.1 xa,if_pos (.inl rfl)]at q1
   rw[hn e.2 xb,if_pos (.inr rfl)]at q2
   exact⟨Int.le_trans q1 hmin.2,Int.le_trans q2 hmin.1⟩
  ·obtain ⟨ea,eb,_⟩:=hE e (by simp[he])
   obtain ⟨q1,q2⟩:=i3 e he
   exact⟨Int.le_trans q1 (hle _ eb),Int.le_trans q2 (hle _ ea)⟩
def Js (D:Nat) (E:Int→Int→Prop) (l:List Int) (a:Int):Prop:=∀ c,InD D c→Conn E a c→nth l a≤c
def Abz (D:Nat) (E:Int→Int→Prop) (l:List Int) (k:Nat):Prop:=∃ p:Nat→Bool,(∀ i:Nat,p i=true↔Js D E l (i:Int))∧k≤(List.range D).countP p
theorem Aem {D:Nat} {E:Int→Int→Prop}:∀ (m:Nat) (a:Int),InD D a→a.toNat≤m→∃ c,InD D c∧Conn E a c∧∀ x,InD D x→Conn E a x→c≤x
 | m,a,ha,hm=>by
  by_cases h:∃ x,InD D x∧Conn E a x∧x<a
  ·obtain ⟨x,h1,h2,h3⟩:=h
   have:=h1.1
   match m with
   | 0=>omega
   | m+1 =>
    obtain ⟨c,c1,c2,c3⟩:=Aem (E:=E) m x h1 z_
    exact⟨c,c1,h2.trans c2,fun y y1 y2=>c3 y y1 (h2.symm.trans y2)⟩
  ·refine⟨a,ha,.refl a,fun x x1 x2=>?_⟩
   by_cases hx:x<a
   ·exact absurd ⟨x,x1,x2,hx⟩ h
   ·omega
theorem Aew {D:Nat} {E:Int→Int→Prop} {es:List (Int × Int)} (hE:∀ a b,E a b↔(a,b)∈es) (hes:∀ e∈es,InD D e.1∧InD D e.2) {l:List Int} (h:Lab D E l) :
  Lab D E (es.foldl (fun l e=>Ea l e.1 e.2) l)∧((∀ a,InD D a→Js D E l a)→∀ a,InD D a→Js D E (es.foldl (fun l e=>Ea l e.1 e.2) l) a) ∧
  ((∀ a,InD D a→Js D E l a)∨∀ k,Abz D E l k→Abz D E (es.foldl (fun l e=>Ea l e.1 e.2) l) (k+1)):=by
 obtain ⟨i1,i2,i3⟩:=Xb es l (fun e he=>⟨(hes e he).1,(hes e he).2,(hE e.1 e.2).2 he⟩) h
 generalize es.foldl (fun l e=>Ea l e.1 e.2) l=l' at *
 have hup:∀ a,InD D a→Js D E l a→Js D E l' a:=fun a ha hg c hc hac=>Int.le_trans (i2 a ha) (hg c hc hac)
 refine⟨i1,fun hg a ha=>hup a ha (hg a ha),?_⟩
 by_cases hall:∀ a,InD D a→Js D E l a
 ·exact .inl hall
 refine .inr ?_
 have hnew:∃ v,InD D v∧Js D E l' v∧¬ Js D E l v:=by
  refine Classical.byContradiction fun hno=>hall fun a ha=>?_
  have hno:∀ v,InD D v→Js D E l' v→Js D E l v:=fun v h1 h2=>Classical.byContradiction fun h3=>hno ⟨v,h1,h2,h3⟩
  obtain ⟨c,c1,c2,c3⟩:=Aem (E:=E) a.toNat a ha (Nat.le_refl _)
  have hc:Js D E l c:=fun x hx hcx=>Int.le_trans (h.own c c1).2.1 (c3 x hx (c2.trans hcx))
  refine(Conn.keeps (Z:=Js D E l) (fun u v huv=>?_) c2).2 hc
  have huv':=(hE u v).1 huv
  obtain ⟨d1,d2⟩:=hes _ huv'
  obtain ⟨k1,k2⟩:=i3 _ huv'
  exact⟨fun hu=>hno v d2 (fun x hx hvx=>Int.le_trans k2 (hu x hx ((Conn.edge huv).trans hvx))),fun hv=>hno u d1 (fun x hx hux=>Int.le_trans k1 (hv x hx ((Conn.edge huv).symm.trans hux)))⟩
 obtain ⟨v,v1,v2,v3⟩:=hnew
 rintro k ⟨p,hp,hk⟩
 refine⟨fun i=>@decide (Js D E l' (i:Int)) (Classical.propDecidable _),fun i=>@decide_eq_true_iff _ (Classical.propDecidable _),Nat.lt_of_le_of_lt hk (Lk (fun x hx hg=>?_) ⟨v.toNat,by simpa using v1.2,?_,?_⟩)⟩
 ·have hx:x<D:=by simpa using hx
  exact(@decide_eq_true_iff _ (Classical.propDecidable _)).2 (hup x ⟨by omega,by simpa using hx⟩ ((hp x).1 hg))
 ·rw[Int.toNat_of_nonneg v1.1];exact(@decide_eq_true_iff _ (Classical.propDecidable _)).2 v2
 ·have:¬ p v.toNat=true:=fun h=>v3 (by have:=(hp _).1 h;rwa [Int.toNat_of_nonneg v1.1]at this)
  simpa using this
def Ep (es:List (Int × Int)) (k:Nat) (l:List Int):List Int:=(List.range k).foldl (fun l _=>es.foldl (fun l e=>Ea l e.1 e.2) l) l
theorem M2 (es:List (Int × Int)) (k:Nat) (l:List Int):Ep es (k+1) l=es.foldl (fun l e=>Ea l e.1 e.2) (Ep es k l):=by
 rw[Ep,List.range_succ,List.foldl_append];rfl
theorem Vk {D:Nat} {E:Int→Int→Prop} {es:List (Int × Int)} (hE:∀ a b,E a b↔(a,b)∈es) (hes:∀ e∈es,InD D e.1∧InD D e.2):∀ (k:Nat),Lab D E (Ep es k (B8 D))∧((∀ a,InD D a→Js D E (Ep es k (B8 D)) a)∨Abz D E (Ep es k (B8 D)) k)
 | 0=>by
  refine⟨⟨(Dy D).2,fun a ha=>?_⟩,.inr ⟨fun i=>@decide (Js D E (Ep es 0 (B8 D)) (i:Int)) (Classical.propDecidable _),fun i=>@decide_eq_true_iff _ (Classical.propDecidable _),Nat.zero_le _⟩⟩
  have h1:nth (Ep es 0 (B8 D)) a=a:=by
   show nth (B8 D) a=a
   rw[As (by rw[(Dy D).2];exact ha.2)]
   have:=ha.1
   simp[B8]
   omega
  rw[h1]
  exact⟨ha,Int.le_refl _,.refl a⟩
 | k+1=>by
  obtain ⟨h1,h2⟩:=Vk hE hes k
  obtain ⟨g1,g2,g3⟩:=Aew hE hes h1
  rw[M2]
  refine⟨g1,?_⟩
  rcases h2 with h2 | h2
  ·exact .inl (g2 h2)
  ·rcases g3 with g3 | g3
   ·exact .inl (g2 g3)
   ·exact .inr (g3 k h2)
theorem Aa2 {D:Nat} {E:Int→Int→Prop} {es:List (Int × Int)} (hE:∀ a b,E a b↔(a,b)∈es) (hes:∀ e∈es,InD D e.1∧InD D e.2) :
  (∀ a,InD D a→InD D (nth (Ep es D (B8 D)) a)∧Conn E a (nth (Ep es D (B8 D)) a))∧∀ a b,InD D a→InD D b→Conn E a b→nth (Ep es D (B8 D)) a=nth (Ep es D (B8 D)) b:=by
 obtain ⟨h1,h2⟩:=Vk hE hes D
 have hg:∀ a,InD D a→Js D E (Ep es D (B8 D)) a:=by
  rcases h2 with h2 | h2
  ·exact h2
  ·intro a ha
   refine Classical.byContradiction fun hn=>?_
   obtain ⟨q,hq,hk⟩:=h2
   have hle:=List.countP_le_length (p:=fun _:Nat=>true) (l:=List.range D)
   have hlt:=Lk (p:=q) (q:=fun _=>true) (l:=List.range D) (fun _ _ _=>rfl) ⟨a.toNat,by simpa using ha.2,rfl,by
    have:¬ q a.toNat=true:=fun h=>hn (by have:=(hq _).1 h;rwa [Int.toNat_of_nonneg ha.1]at this)
    simpa using this⟩
   rw[List.length_range]at hle
   omega
 generalize Ep es D (B8 D)=l at *
 refine⟨fun a ha=>⟨(h1.own a ha).1,(h1.own a ha).2.2⟩,fun a b ha hb hab=>?_⟩
 have k1:=hg a ha _ (h1.own b hb).1 (hab.trans (h1.own b hb).2.2)
 have k2:=hg b hb _ (h1.own a ha).1 (hab.symm.trans (h1.own a ha).2.2)
 omega
def B9 (s:List Int × List Int) (e:Int × Int):List Int × List Int :=
 let m:=if inB s.1 e.1=true∧inB s.2 e.2=false then s.2++[e.2] else s.2
 (if inB m e.2=true∧inB s.1 e.1=false then s.1++[e.1] else s.1,m)
def Bw (ab:List (Int × Int)) (s:List Int × List Int):List Int × List Int:=ab.foldl B9 s
def B0 (ab:List (Int × Int)) (k:Nat) (s:List Int × List Int):List Int × List Int:=(List.range k).foldl (fun s _=>Bw ab s) s
def wayJ (ab:List (Int × Int)) (part mesh:Int):Bool:=inB (B0 ab (2 * ab.length+1) ([part],[])).2 mesh
theorem in_iff {l:List Int} {x:Int}:inB l x=true↔x∈l:=by
 simp[inB]
theorem Ajg {l:List Int} {x y:Int}:inB (l++[y]) x=true↔inB l x=true∨x=y:=by
 rw[in_iff,in_iff];simp
theorem Qp (s:List Int × List Int) (e:Int × Int):(∀ x,inB s.1 x=true→inB (B9 s e).1 x=true)∧(∀ y,inB s.2 y=true→inB (B9 s e).2 y=true) ∧
  (inB s.1 e.1=true→inB (B9 s e).2 e.2=true)∧(inB s.2 e.2=true→inB (B9 s e).1 e.1=true) ∧
  (∀ x,inB (B9 s e).1 x=true→inB s.1 x=true∨(x=e.1∧inB s.2 e.2=true))∧(∀ y,inB (B9 s e).2 y=true→inB s.2 y=true∨(y=e.2∧inB s.1 e.1=true)):=by
 unfold B9
 dsimp only
 cases h1:inB s.1 e.1<;>cases h2:inB s.2 e.2<;>simp[h1,h2,Ajg]<;>grind
theorem J9:∀ (ab:List (Int × Int)) (s:List Int × List Int),(∀ x,inB s.1 x=true→inB (Bw ab s).1 x=true)∧(∀ y,inB s.2 y=true→inB (Bw ab s).2 y=true) ∧
  ∀ e∈ab,(inB s.1 e.1=true→inB (Bw ab s).2 e.2=true)∧(inB s.2 e.2=true→inB (Bw ab s).1 e.1=true)
 | [],s=>⟨fun _ h=>h,fun _ h=>h,fun e he=>(by cases he)⟩
 | x::ab,s=>by
  obtain ⟨a1,a2,a3,a4,_,_⟩:=Qp s x
  obtain ⟨b1,b2,b3⟩:=J9 ab (B9 s x)
  rw[Bw,List.foldl_cons]
  refine⟨fun y h=>b1 y (a1 y h),fun y h=>b2 y (a2 y h),fun e he=>?_⟩
  rcases List.mem_cons.1 he with rfl | he
  ·exact⟨fun h=>b2 _ (a3 h),fun h=>b1 _ (a4 h)⟩
  ·exact⟨fun h=>(b3 e he).1 (a1 _ h),fun h=>(b3 e he).2 (a2 _ h)⟩
def Aci (ab:List (Int × Int)) (s:List Int × List Int):Prop:=∀ e∈ab,(inB s.1 e.1=true↔inB s.2 e.2=true)
theorem Me {ab:List (Int × Int)} {s:List Int × List Int}:∀ (l:List (Int × Int)),(∀ e∈l,(inB s.1 e.1=true↔inB s.2 e.2=true))→Bw l s=s
 | [],_=>rfl
 | e::l,h=>by
  have he:=h e qe
  have:B9 s e=s:=by
   unfold B9
   dsimp only
   cases h1:inB s.1 e.1<;>cases h2:inB s.2 e.2<;>simp[h1,h2]at he ⊢
  rw[Bw,List.foldl_cons,this]
  exact Me (ab:=ab) l (fun e he=>h e (by simp[he]))
def Aog (ab:List (Int × Int)) (s:List Int × List Int):Nat:=(List.range ab.length).countP (fun i:Nat=>inB s.1 (nth (ab.map (·.1)) (i:Int)))+(List.range ab.length).countP (fun i:Nat=>inB s.2 (nth (ab.map (·.2)) (i:Int)))
theorem Ah3 {ab:List (Int × Int)} {s:List Int × List Int} (h:¬ Aci ab s):Aog ab s<Aog ab (Bw ab s):=by
 obtain ⟨b1,b2,b3⟩:=J9 ab s
 have hn1:∀ i (hi:i<ab.length),nth (ab.map (·.1)) (i:Int)=(ab[i]).1:=fun i hi=>by rw[As (by simpa using hi)];simp
 have hn2:∀ i (hi:i<ab.length),nth (ab.map (·.2)) (i:Int)=(ab[i]).2:=fun i hi=>by rw[As (by simpa using hi)];simp
 have m1:(List.range ab.length).countP (fun i:Nat=>inB s.1 (nth (ab.map (·.1)) (i:Int)))≤(List.range ab.length).countP (fun i:Nat=>inB (Bw ab s).1 (nth (ab.map (·.1)) (i:Int))):=List.countP_mono_left (fun x _=>b1 _)
 have m2:(List.range ab.length).countP (fun i:Nat=>inB s.2 (nth (ab.map (·.2)) (i:Int)))≤(List.range ab.length).countP (fun i:Nat=>inB (Bw ab s).2 (nth (ab.map (·.2)) (i:Int))):=List.countP_mono_left (fun x _=>b2 _)
 unfold Aog
 have:∃ e∈ab,(inB s.1 e.1=true∧inB s.2 e.2=false)∨(inB s.1 e.1=false∧inB s.2 e.2=true):=by
  refine Classical.byContradiction fun hno=>h fun e he=>?_
  cases h1:inB s.1 e.1<;>cases h2:inB s.2 e.2
  ·simp
  ·exact absurd ⟨e,he,.inr ⟨h1,h2⟩⟩ hno
  ·exact absurd ⟨e,he,.inl ⟨h1,h2⟩⟩ hno
  ·simp
 obtain ⟨e,he,hc⟩:=this
 obtain ⟨i,hi,rfl⟩:=List.getElem_of_mem he
 obtain ⟨c1,c2⟩:=b3 _ he
 rcases hc with ⟨d1,d2⟩ | ⟨d1,d2⟩
 ·have:=Lk (p:=fun i:Nat=>inB s.2 (nth (ab.map (·.2)) (i:Int))) (q:=fun i:Nat=>inB (Bw ab s).2 (nth (ab.map (·.2)) (i:Int))) (l:=List.range ab.length) (fun x _=>b2 _) ⟨i,by simpa using hi,by rw[hn2 i hi];exact c1 d1,by rw[hn2 i hi];exact d2⟩
  omega
 ·have:=Lk (p:=fun i:Nat=>inB s.1 (nth (ab.map (·.1)) (i:Int))) (q:=fun i:Nat=>inB (Bw ab s).1 (nth (ab.map (·.1)) (i:Int))) (l:=List.range ab.length) (fun x _=>b1 _) ⟨i,by simpa using hi,by rw[hn1 i hi];exact c2 d2,by rw[hn1 i hi];exact d1⟩
  omega
theorem E3 (ab:List (Int × Int)) (k:Nat) (s:List Int × List Int):B0 ab (k+1) s=Bw ab (B0 ab k s):=by
 rw[B0,List.range_succ,List.foldl_append];rfl
theorem Lb (ab:List (Int × Int)) (s:List Int × List Int):∀ k,Aci ab (B0 ab k s)∨k≤Aog ab (B0 ab k s)
 | 0=>.inr (Nat.zero_le _)
 | k+1=>by
  rw[E3]
  rcases Lb ab s k with h | h
  ·rw[Me (ab:=ab) ab h];exact .inl h
  ·by_cases hc:Aci ab (B0 ab k s)
   ·rw[Me (ab:=ab) ab hc];exact .inl hc
   ·have:=Ah3 hc
    exact .inr z_
theorem Yx (ab:List (Int × Int)) (s:List Int × List Int):Aci ab (B0 ab (2 * ab.length+1) s):=by
 rcases Lb ab s (2 * ab.length+1) with h | h
 ·exact h
 ·unfold Aog at h
  have h1:=List.countP_le_length (p:=fun i:Nat=>inB (B0 ab (2 * ab.length+1) s).1 (nth (ab.map (·.1)) (i:Int))) (l:=List.range ab.length)
  have h2:=List.countP_le_length (p:=fun i:Nat=>inB (B0 ab (2 * ab.length+1) s).2 (nth (ab.map (·.2)) (i:Int))) (l:=List.range ab.length)
  rw[List.length_range]at h1 h2
  omega
theorem Jt {ab:List (Int × Int)} {SP SM:Int→Prop} (h:∀ e∈ab,(SP e.1↔SM e.2)) (s:List Int × List Int) (h1:∀ x,inB s.1 x=true→SP x) (h2:∀ y,inB s.2 y=true→SM y):∀ k,(∀ x,inB (B0 ab k s).1 x=true→SP x)∧(∀ y,inB (B0 ab k s).2 y=true→SM y)
 | 0=>⟨h1,h2⟩
 | k+1=>by
  have round:∀ (l:List (Int × Int)) (s:List Int × List Int),(∀ e∈l,(SP e.1↔SM e.2))→(∀ x,inB s.1 x=true→SP x)→(∀ y,inB s.2 y=true→SM y)→(∀ x,inB (Bw l s).1 x=true→SP x)∧(∀ y,inB (Bw l s).2 y=true→SM y):=by
   intro l
   induction l with
   | nil=>intro s _ h1 h2;exact⟨h1,h2⟩
   | cons e l ih =>
    intro s h h1 h2
    obtain ⟨_,_,_,_,a5,a6⟩:=Qp s e
    have he:=h e qe
    rw[Bw,List.foldl_cons]
    refine ih (B9 s e) (fun e he=>h e (by simp[he])) (fun x hx=>?_) (fun y hy=>?_)
    ·rcases a5 x hx with k | ⟨rfl,k⟩
     ·exact h1 x k
     ·exact he.2 (h2 _ k)
    ·rcases a6 y hy with k | ⟨rfl,k⟩
     ·exact h2 y k
     ·exact he.1 (h1 _ k)
  rw[E3]
  obtain ⟨i1,i2⟩:=Jt h s h1 h2 k
  exact round ab _ h i1 i2
theorem Ml (ab:List (Int × Int)) (s:List Int × List Int):∀ k,(∀ x,inB s.1 x=true→inB (B0 ab k s).1 x=true)
 | 0=>fun _ h=>h
 | k+1=>fun x h=>by
  rw[E3]
  exact(J9 ab _).1 x (Ml ab s k x h)
end Go.Sy.YtjenpnjajjplkaaGreatDoor
namespace Go.Sy.YtjenpnjajjplkaaGreatDoor
open Go.Proofs
attribute [local irreducible] Go.Sy.G Go.Sy.DR
set_option maxRecDepth 100000
set_option maxHeartbeats 4000000
theorem Ajd:∀ (l:List Int) (m:Int),Hc m l=m∨Hc m l∈l
 | [],_=>.inl rfl
 | x::l,m=>by
  rw[Hc]
  rcases Ajd l (min m x) with h | h
  ·rw[h,Int.min_def]
   split
   ·exact .inl Y
   ·exact .inr qe
  ·exact .inr (by simp[h])
theorem Ajc {l:List Int} (h:l≠[]):Za l∈l:=by
 match l,h with
 | x::l,_ =>
  show Hc (nth (x::l) 0) l∈x::l
  rw[show nth (x::l) 0=x from rfl]
  rcases Ajd l x with h | h
  ·rw[h];simp
  ·simp[h]
theorem loopS (n:Net) (hn:n.Fin):Sy.Spec Tryz.prog 24 [Aj n] [] (.tup [Aa (loopT n).1,Ab (loopT n).2]) []:=cT F24 Tryz.ntmps24 fun F hF=>by
 have qn:=Cq n hn
 have hT:=loopT.eq_1 n
 generalize loopT n=res at *
 cases hr:Ah n with
 | false =>
  rw[hr]at qn
  rw[hr,if_pos rfl]at hT
  subst hT
  refine T ?_
  refine C qn F25 ?_
  refine T ?_
  exact D
 | true =>
 rw[hr]at qn
 rw[hr,if_neg qe]at hT
 obtain ⟨_,_,_,hmany,_⟩:=Ae9 hr
 obtain ⟨fa1,fa2⟩:=Dy (2 * n.domains.length)
 have fl:=Abq hr fa1 z_
 have q1:=aloneS (2 * n.domains.length) z_
 rw[show ((2 * n.domains.length:Nat):Int)=2 * (n.domains.length:Int) from by omega]at q1
 have q2:=Aqg n (B8 (2 * n.domains.length)) hn hr fa1 z_ z_
 refine T ?_
 refine C qn F25 ?_
 refine A6 1 8 (Aj n) Y Y Y ?_
 refine T ?_
 refine X (Af [(900,700)] Y F65 q1 Y W Y V) ?_
 refine T ?_
 refine X (Af [(900,700)] Y F66 q2 Y W Y V) ?_
 refine T ?_
 refine Au (fun x:Nat × List Int=>x.1≤n.domains.length∧B3 x.2∧x.2.length=2 * n.domains.length∧res=Ol n x.2 x.1 (n.domains.drop x.1)) (fun x=>[(1,.ref 8 (Aj n) 0),(4,Aa n.domains.length),(5,.osl 1000),(22,.sl 6 Am n.domains),(23,Aa n.domains.length),(24,Aa x.1)])
  (fun x=>[(1000,.row 1 Aa x.2)]) (fun x=>n.domains.length-x.1) (0,K0 n (B8 (2 * n.domains.length))) [(1000,700)] ⟨by omega,fl.1,by dsimp only;rw[fl.2,fa2],hT⟩ U ?_
 rintro ⟨i,f⟩ ⟨h1,h2,h3,hI⟩
 dsimp only at h1 h2 h3 hI ⊢
 refine T ?_
 refine⟨fun h=>?_,fun h=>?_⟩
 ·have hlt:i<n.domains.length:=qA h
  have hi0:((i:Nat):Int).toNat<n.domains.length:=hlt
  clear h
  rw[List.drop_eq_getElem_cons hlt,Ol]at hI
  have hpl:n.domains[((i:Nat):Int).toNat].peers.length<2147483648:=hn.peers _ (List.getElem_mem hi0)
  refine T ?_
  refine⟨fun h=>?_,fun h=>?_⟩
  ·have hpe:n.domains[i].peers=[]:=List.eq_nil_of_length_eq_zero (by have:=eq_of_beq h;have e:(n.domains[((i:Nat):Int).toNat]'hi0).peers.length=n.domains[i].peers.length:=rfl;omega)
   clear h
   rw[if_pos hpe]at hI
   refine T ?_
   exact Ae (i+1,f) [] ⟨hlt,h2,h3,hI⟩ (by dsimp only;omega) ⟨⟨Y,Y,Y,Y,Y,Y,Y,Y,Y,Y,Y,Y,q_⟩,⟨.inl Y,Y,q_⟩,Y,Y⟩
  have hpe:n.domains[i].peers≠[]:=fun e=>by
   have e2:(n.domains[((i:Nat):Int).toNat]'hi0).peers=[]:=e
   rw[e2]at h
   cases h
  clear h
  rw[if_neg hpe]at hI
  dsimp only at hI
  have hpm:=Aig hr hlt (Ajc hpe)
  have qm:=Aj6 (n.domains[((i:Nat):Int).toNat]'hi0).peers (by have:=List.length_pos_iff.2 hpe;exact this) hpl
  obtain ⟨m,hm⟩:∃ m,Za (n.domains[((i:Nat):Int).toNat]'hi0).peers=m:=⟨_,rfl⟩
  have hm':Za n.domains[i].peers=m:=hm
  have emin:min (i:Int) m=if m<(i:Int) then m else (i:Int):=by rw[Int.min_def];split<;>split<;>omega
  rw[hm]at qm
  rw[hm']at hI hpm
  rw[emin]at hI
  have hmb:0≤(if m<(i:Int) then m else (i:Int))∧(if m<(i:Int) then m else (i:Int))<n.domains.length:=by split<;>omega
  have q3:=Arb f i ((n.domains.length:Int)+(if m<(i:Int) then m else (i:Int))) h2 ⟨by omega,by omega⟩ ⟨by omega,by omega⟩ z_
  have q3f:=Sm h2 (⟨by omega,by omega⟩:0≤(i:Int)∧(i:Int).toNat<f.length) (⟨by omega,by omega⟩:0≤(n.domains.length:Int)+(if m<(i:Int) then m else (i:Int))∧((n.domains.length:Int)+(if m<(i:Int) then m else (i:Int))).toNat<f.length)
  have hb48:(n.domains.length:Int)+(if m<(i:Int) then m else (i:Int))<100:=by omega
  generalize (Iw f i ((n.domains.length:Int)+(if m<(i:Int) then m else (i:Int))))=r at *
  obtain ⟨g,ok⟩:=r
  dsimp only at hI q3f
  refine T ?_
  refine C qm F67 ?_
  refine T ?_
  refine X (Yf Y Y Y) ?_
  refine T ?_
  refine X (Af [(900,1000)] Y F68 q3 Y W Y V) ?_
  cases ok with
  | false =>
   rw[if_pos rfl]at hI
   rw[hI]
   refine T ?_
   exact D
  | true =>
   rw[if_neg y_]at hI
   refine T ?_
   exact Ae (i+1,g) [] ⟨hlt,q3f.1,by dsimp only;omega,hI⟩ (by dsimp only;omega) ⟨⟨Y,Y,Y,Y,Y,Y,Y,Y,Y,Y,Y,Y,q_⟩,⟨.inl Y,Y,q_⟩,Y,Y⟩
 ·have hie:i=n.domains.length:=qB h
  clear h
  rw[hie,List.drop_length,Ol]at hI
  rw[hI]
  refine T ?_
  exact D
end Go.Sy.YtjenpnjajjplkaaGreatDoor
namespace Go.Sy.YtjenpnjajjplkaaGreatDoor
open Go.Proofs
theorem Ae0 {α:Type} [Inhabited α] (l:List α) (i:Nat) (h:i<l.length):l[i]=nth l (i:Int):=(As (i:=(i:Int)) h).symm
theorem bareB_iff {n:Net} {i:Nat} {d:Domain}:Iy n i d=true↔Ap d.dev n.devices.length=true∧(1≤d.vlan∧d.vlan≤4094)∧(0≤d.vni∧d.vni≤16777215)∧(d.irb=-1∨Ap d.irb n.irbs.length=true∧(nth n.irbs d.irb).domain=i)∧Ds n d.dev d.vlan=i:=by
 simp only[Iy,Bool.and_eq_true,Bool.or_eq_true,decide_eq_true_eq,beq_iff_eq]
 constructor
 ·rintro ⟨⟨⟨⟨⟨⟨a,b⟩,c⟩,d⟩,e⟩,f⟩,g⟩
  exact⟨a,⟨b,c⟩,⟨d,e⟩,f,g⟩
 ·rintro ⟨a,⟨b,c⟩,⟨d,e⟩,f,g⟩
  exact⟨⟨⟨⟨⟨⟨a,b⟩,c⟩,d⟩,e⟩,f⟩,g⟩
theorem Aoc {α:Type} [Inhabited α] {p:α→Bool} {l:List α} (h:0≤Dl p l):(Dl p l).toNat<l.length∧p (nth l (Dl p l))=true:=by
 cases hf:l.findIdx? p with
 | none=>simp only[Dl,hf]at h;omega
 | some i =>
  have e:Dl p l=i:=by simp only[Dl,hf]
  rw[List.findIdx?_eq_some_iff_getElem]at hf
  obtain ⟨h1,h2,_⟩:=hf
  rw[e,Int.toNat_natCast]
  refine⟨h1,?_⟩
  rw[← Ae0 l i h1];exact h2
def crossedL (n:Net) (i:Int):List Int:=(E4 n i).filterMap (fun p=>if (linkDomT n p (nth n.domains i).vlan).2=true then some (linkDomT n p (nth n.domains i).vlan).1 else none)
def L9 (n:Net):List (Int × Int):=(List.range n.domains.length).flatMap (fun i:Nat=>(crossedL n (i:Int)).map (fun b=>((i:Int),b)))
def U0 (n:Net):List Int:=Ep (L9 n) n.domains.length (B8 n.domains.length)
def Mr (n:Net) (a b:Int):Prop:=∃ p:Nat,p<n.ports.length∧∃ v∈(nth n.ports (p:Int)).tagged++[(nth n.ports (p:Int)).native],(linkDomT n (p:Int) v).2=true∧a=Ds n (nth n.ports (p:Int)).dev v∧b=(linkDomT n (p:Int) v).1
theorem Tt {n:Net} (hr:Ah n=true) {a b:Int} (h:Mr n a b):InD n.domains.length a∧InD n.domains.length b:=by
 obtain ⟨p,hp,v,hv,h1,rfl,rfl⟩:=h
 have e:nth n.ports (p:Int)=n.ports[p]:=As (l:=n.ports) (i:=((p:Nat):Int)) hp
 have hm:=Il h1 hp
 rw[e]
 exact⟨Lg hr hp hm,Ji h1⟩
theorem Abv {n:Net} (hr:Ah n=true) {f:List Int} {E:Int→Int→Prop} (hl:n.domains.length≤f.length) (h:Joins f E):Joins (K0 n f) (fun a b=>E a b∨Mr n a b)∧(K0 n f).length=f.length:=by
 obtain ⟨h1,h2⟩:=Sl (g:=E5 n) (K:=f.length) (R:=fun (p:Nat) a b=>∃ v∈(nth n.ports (p:Int)).tagged++[(nth n.ports (p:Int)).native],(linkDomT n (p:Int) v).2=true∧a=Ds n (nth n.ports (p:Int)).dev v∧b=(linkDomT n (p:Int) v).1)
  (List.range n.ports.length) (fun p hp f' E' hf' hJ=>by
   have hp:p<n.ports.length:=by simpa using hp
   have e:nth n.ports (p:Int)=n.ports[p]:=As (l:=n.ports) (i:=((p:Nat):Int)) hp
   refine Sl (g:=fun f v=>Dg n f (p:Int) v) (R:=fun v a b=>(linkDomT n (p:Int) v).2=true∧a=Ds n (nth n.ports (p:Int)).dev v∧b=(linkDomT n (p:Int) v).1) _ (fun v _ f2 E2 hf2 hJ2=>?_) hf' hJ
   unfold Dg
   cases hok:(linkDomT n (p:Int) v).2
   ·rw[if_neg qe]
    exact⟨hJ2.congr (fun a b=>by simp),hf2⟩
   ·rw[if_pos rfl]
    have hin:=Tt hr (n:=n) (a:=Ds n (nth n.ports (p:Int)).dev v) (b:=(linkDomT n (p:Int) v).1)
    have hm:=Il hok hp
    have d1:=Lg hr hp hm
    have d2:=Ji hok
    rw[e]
    obtain ⟨j1,j2,_⟩:=X7 hJ2 (a:=Ds n n.ports[p].dev v) (b:=(linkDomT n (p:Int) v).1) ⟨d1.1,by omega⟩ ⟨d2.1,by omega⟩
    exact⟨j1.congr (fun a b=>by simp),by omega⟩) Y h
 exact⟨h1.congr (fun a b=>by simp[Mr]),h2⟩
theorem U6 {n:Net} (hr:Ah n=true) (a b:Int):Mr n a b↔(a,b)∈L9 n:=by
 unfold L9 crossedL
 simp only[List.mem_flatMap,List.mem_range,List.mem_map,List.mem_filterMap,Prod.mk.injEq]
 constructor
 ·rintro ⟨p,hp,v,hv,h1,rfl,rfl⟩
  have e:nth n.ports (p:Int)=n.ports[p]:=As (l:=n.ports) (i:=((p:Nat):Int)) hp
  have hm:=Il h1 hp
  obtain ⟨d1,d2⟩:=Lg hr hp hm
  rw[e]
  have h0:Ds n n.ports[p].dev v=Dl (fun d:Domain=>d.dev == n.ports[p].dev && d.vlan == v) n.domains:=rfl
  have hat:=(Aoc (p:=fun d:Domain=>d.dev == n.ports[p].dev && d.vlan == v) (by rw[← h0];exact d1)).2
  rw[← h0]at hat
  simp only[Bool.and_eq_true,beq_iff_eq]at hat
  have hcast:(((Ds n n.ports[p].dev v).toNat:Nat):Int)=Ds n n.ports[p].dev v:=Int.toNat_of_nonneg d1
  refine⟨(Ds n n.ports[p].dev v).toNat,d2,(linkDomT n (p:Int) v).1,?_,hcast,Y⟩
  rw[hcast]
  refine⟨(p:Int),?_,?_⟩
  ·rw[E4,if_pos ⟨⟨d1,by omega⟩,hr⟩,Oj,Aah]
   refine⟨by omega,by omega,?_⟩
   rw[Int.toNat_natCast]
   unfold Q0
   rw[e,hat.1,hat.2,hm]
   simp
  ·rw[hat.2,if_pos h1]
 ·rintro ⟨i,hi,b',⟨p,hp,hx⟩,rfl,rfl⟩
  rw[E4]at hp
  split at hp
  ·rw[Oj,Aah]at hp
   obtain ⟨p0,p1,p2⟩:=hp
   have hk:p.toNat<n.ports.length:=by omega
   have e:nth n.ports ((p.toNat:Nat):Int)=n.ports[p.toNat]:=As (l:=n.ports) (i:=((p.toNat:Nat):Int)) hk
   have hc:((p.toNat:Nat):Int)=p:=Int.toNat_of_nonneg p0
   have hd:nth n.domains (i:Int)=n.domains[i]:=As (l:=n.domains) (i:=((i:Nat):Int)) hi
   unfold Q0 at p2
   simp only[Bool.and_eq_true,beq_iff_eq]at p2
   split at hx
   ·rename_i hok
    cases hx
    refine⟨p.toNat,hk,(nth n.domains (i:Int)).vlan,?_,by rw[hc];exact hok,?_,by rw[hc]⟩
    ·have hm:=p2.2
     simp only[C7,Bool.and_eq_true,Bool.or_eq_true,beq_iff_eq]at hm
     rcases hm.2 with h | h
     ·rw[h];simp
     ·exact List.mem_append.2 (.inl (in_iff.1 h))
    ·rw[p2.1,hd]
     exact((bareB_iff.1 (e_dom hr hi)).2.2.2.2).symm
   ·cases hx
  ·cases hp
theorem Aee:∀ (l:List Int) (m x:Int),Hc (min m x) l=min m (Hc x l)
 | [],_,_=>rfl
 | y::l,m,x=>by
  rw[Hc,Hc,← Aee l m (min x y),Int.min_assoc]
theorem Aqa {l:List Int} (h:l≠[]) (m:Int):Hc m l=min m (Za l):=by
 match l,h with
 | x::l,_=>exact Aee l m x
def Vl (part:List Int):List (Int × Int)→Nat→List Domain→Int × Bool
 | _,_,[]=>(0,false)
 | ab,i,d::r=>if d.peers=[] then Vl part ab (i+1) r else
  if wayJ ab (nth part (i:Int)) (Hc (i:Int) d.peers)=true then (d.row,true) else Vl part (ab++[(nth part (i:Int),Hc (i:Int) d.peers)]) (i+1) r
theorem way_is {n:Net} (hr:Ah n=true) {part:List Int} (P1:∀ a,InD n.domains.length a→InD n.domains.length (nth part a)∧Conn (Mr n) a (nth part a)) (P2:∀ a b,InD n.domains.length a→InD n.domains.length b→Conn (Mr n) a b→nth part a=nth part b)
  {E:Int→Int→Prop} {es:List (Int × Int)} (hE:∀ a b,E a b↔Mr n a b∨∃ e∈es,a=e.1∧b=(n.domains.length:Int)+e.2) (hes:∀ e∈es,InD n.domains.length e.1∧InD n.domains.length e.2) {i m:Int} (hi:InD n.domains.length i) (hm:InD n.domains.length m) :
  wayJ (es.map (fun e=>(nth part e.1,e.2))) (nth part i) m=true↔Conn E i ((n.domains.length:Int)+m):=by
 have hL:∀ {a b},Conn (Mr n) a b→Conn E a b:=fun h=>h.mono (fun a b h=>(hE a b).2 (.inl h))
 have hM:∀ e∈es,Conn E e.1 ((n.domains.length:Int)+e.2):=fun e he=>.edge ((hE _ _).2 (.inr ⟨e,he,rfl,rfl⟩))
 unfold wayJ
 constructor
 ·intro h
  have:=(Jt (ab:=es.map (fun e=>(nth part e.1,e.2))) (SP:=fun x=>Conn E i x) (SM:=fun y=>Conn E i ((n.domains.length:Int)+y)) (fun e he=>by
   obtain ⟨x,hx,rfl⟩:=List.mem_map.1 he
   have c1:=(hL (P1 x.1 (hes x hx).1).2).symm.trans (hM x hx)
   exact⟨fun h=>h.trans c1,fun h=>h.trans c1.symm⟩) ([nth part i],[]) (fun x hx=>by
    have:x=nth part i:=by
     have h2:nth part i=x:=by simpa [inB] using hx
     exact h2.symm
    rw[this]
    exact hL (P1 i hi).2) (fun y hy=>by cases hy) (2 * (es.map (fun e=>(nth part e.1,e.2))).length+1)).2 m h
  exact this
 ·intro h
  have hcl:=Yx (es.map (fun e=>(nth part e.1,e.2))) ([nth part i],[])
  have hst:=Ml (es.map (fun e=>(nth part e.1,e.2))) ([nth part i],[]) (2 * (es.map (fun e=>(nth part e.1,e.2))).length+1)
  have hge:=(Jt (ab:=es.map (fun e=>(nth part e.1,e.2))) (SP:=fun _=>True) (SM:=fun y=>True∧0≤y) (fun e he=>by
   obtain ⟨x,hx,rfl⟩:=List.mem_map.1 he
   exact⟨fun _=>⟨trivial,(hes x hx).2.1⟩,fun _=>trivial⟩) ([nth part i],[]) (fun _ _=>trivial) (fun y hy=>by cases hy) (2 * (es.map (fun e=>(nth part e.1,e.2))).length+1)).2
  generalize B0 (es.map (fun e=>(nth part e.1,e.2))) (2 * (es.map (fun e=>(nth part e.1,e.2))).length+1) ([nth part i],[])=s at *
  have hz:=Conn.keeps (Z:=fun z=>(InD n.domains.length z∧inB s.1 (nth part z)=true)∨∃ y,inB s.2 y=true∧z=(n.domains.length:Int)+y) (fun a b hab=>by
   rcases (hE a b).1 hab with hl | ⟨e,he,rfl,rfl⟩
   ·obtain ⟨da,db⟩:=Tt hr hl
    have hp:=P2 a b da db (.edge hl)
    constructor
    ·rintro (⟨_,h1⟩ | ⟨y,h1,rfl⟩)
     ·exact .inl ⟨db,by rw[← hp];exact h1⟩
     ·have:=(hge y h1).2;have:=da.2;omega
    ·rintro (⟨_,h1⟩ | ⟨y,h1,rfl⟩)
     ·exact .inl ⟨da,by rw[hp];exact h1⟩
     ·have:=(hge y h1).2;have:=db.2;omega
   ·obtain ⟨d1,d2⟩:=hes e he
    have hc:=hcl (nth part e.1,e.2) (List.mem_map.2 ⟨e,he,rfl⟩)
    constructor
    ·rintro (⟨_,h1⟩ | ⟨y,h1,h2⟩)
     ·exact .inr ⟨e.2,hc.1 h1,Y⟩
     ·have:=(hge y h1).2;have:=d1.1;have:=d1.2;omega
    ·rintro (⟨h1,_⟩ | ⟨y,h1,h2⟩)
     ·have:=h1.2;have:=d2.1;omega
     ·have:y=e.2:=by omega
      rw[this]at h1
      exact .inl ⟨d1,hc.2 h1⟩) h
  rcases hz.1 (.inl ⟨hi,hst _ (by simp[inB])⟩) with ⟨h1,_⟩ | ⟨y,h1,h2⟩
  ·have:=h1.2;have:=hm.1;omega
  ·have:m=y:=by omega
   rw[this];exact h1
theorem Xh {n:Net} (hr:Ah n=true) {part:List Int} (P1:∀ a,InD n.domains.length a→InD n.domains.length (nth part a)∧Conn (Mr n) a (nth part a)) (P2:∀ a b,InD n.domains.length a→InD n.domains.length b→Conn (Mr n) a b→nth part a=nth part b) :
  ∀ (r:List Domain) (i:Nat) (f:List Int) (E:Int→Int→Prop) (es:List (Int × Int)),n.domains.drop i=r→Joins f E→f.length=2 * n.domains.length →
   (∀ a b,E a b↔Mr n a b∨∃ e∈es,a=e.1∧b=(n.domains.length:Int)+e.2)→(∀ e∈es,InD n.domains.length e.1∧InD n.domains.length e.2) →
   Vl part (es.map (fun e=>(nth part e.1,e.2))) i r=Ol n f i r
 | [],_,_,_,_,_,_,_,_,_=>rfl
 | d::r,i,f,E,es,hd,hJ,hf,hE,hes=>by
  have hi:i<n.domains.length:=by
   have:(n.domains.drop i).length=(d::r).length:=by rw[hd]
   rw[List.length_drop,List.length_cons]at this
   omega
  rw[List.drop_eq_getElem_cons hi]at hd
  obtain ⟨hd1,hd2⟩:=List.cons.inj hd
  rw[Vl,Ol]
  by_cases hp:d.peers=[]
  ·rw[if_pos hp,if_pos hp]
   exact Xh hr P1 P2 r (i+1) f E es hd2 hJ hf hE hes
  ·rw[if_neg hp,if_neg hp]
   dsimp only
   have hmin:=Aqa hp (i:Int)
   have hpm:=Aig hr hi (p:=Za d.peers) (by rw[hd1];exact Ajc hp)
   have him:InD n.domains.length (Hc (i:Int) d.peers):=by
    rw[hmin,Int.min_def]
    split
    ·exact⟨by omega,by omega⟩
    ·exact hpm
   have hii:InD n.domains.length (i:Int):=⟨by omega,by omega⟩
   have hw:=way_is hr P1 P2 hE hes hii him
   rw[← hmin]
   obtain ⟨j1,j2,j3⟩:=X7 hJ (a:=(i:Int)) (b:=(n.domains.length:Int)+Hc (i:Int) d.peers) ⟨by omega,by omega⟩ ⟨by have:=him.1;omega,by have:=him.1;have:=him.2;omega⟩
   by_cases hc:Conn E (i:Int) ((n.domains.length:Int)+Hc (i:Int) d.peers)
   ·rw[if_pos (hw.2 hc),if_pos (j3.2 hc)]
   ·rw[if_neg (fun h=>hc (hw.1 h)),if_neg (fun h=>hc (j3.1 h))]
    have:=Xh hr P1 P2 r (i+1) (Iw f (i:Int) ((n.domains.length:Int)+Hc (i:Int) d.peers)).1 _ (es++[((i:Int),Hc (i:Int) d.peers)]) hd2 j1 z_ (fun a b=>by
     rw[hE a b]
     simp only[List.mem_append,List.mem_singleton]
     constructor
     ·rintro ((h | ⟨e,he,h⟩) | ⟨rfl,rfl⟩)
      ·exact .inl h
      ·exact .inr ⟨e,.inl he,h⟩
      ·exact .inr ⟨_,.inr Y,Y,Y⟩
     ·rintro (h | ⟨e,he | rfl,h⟩)
      ·exact .inl (.inl h)
      ·exact .inl (.inr ⟨e,he,h⟩)
      ·exact .inr h) (fun e he=>by
     rcases List.mem_append.1 he with he | he
     ·exact hes e he
     ·rw[List.mem_singleton.1 he];exact⟨hii,him⟩)
    rw[List.map_append]at this
    exact this
theorem Agv {n:Net} (hr:Ah n=true):Vl (U0 n) [] 0 n.domains=loopT n:=by
 have hes:∀ e∈L9 n,InD n.domains.length e.1∧InD n.domains.length e.2:=fun e he=>Tt hr ((U6 hr e.1 e.2).2 he)
 obtain ⟨P1,P2⟩:=Aa2 (E:=Mr n) (U6 hr) hes
 obtain ⟨j1,j2⟩:=Abv hr (by rw[(Dy (2 * n.domains.length)).2];omega) (Aep (2 * n.domains.length))
 rw[loopT,if_neg (by rw[hr];decide)]
 exact Xh hr P1 P2 n.domains 0 _ _ [] rfl j1 (by rw[j2,(Dy _).2]) (fun a b=>by simp) (fun e he=>by cases he)
end Go.Sy.YtjenpnjajjplkaaGreatDoor
namespace Go.Sy.YtjenpnjajjplkaaGreatDoor
open Go.Proofs
attribute [local irreducible] Go.Sy.G Go.Sy.DR
set_option maxRecDepth 20000
set_option maxHeartbeats 8000000
def ext1 (S:Srch) (k i:Int) (l:List Hop):Srch:=l.foldl (fun S h=>Ts S h.domain k h i) S
def ext2 (S:Srch) (i:Int) (l:List Lead):Srch:=l.foldl (fun S q=>Ts S q.domain 1 ⟨3,0,q.domain,q.addr⟩ i) S
def Aib (n:Net) (S:Srch) (i:Int):Srch :=
 if (nth S.list i).kind=0 then ext2 (ext1 S 0 i (Yc n (nth S.list i).domain)) i (O8 n (nth S.list i).domain) else ext1 S 1 i (Yc n (nth S.list i).domain)
theorem Srch.OK.ext1 {n:Net} {k i:Int} (hk:k=0∨k=1):∀ {l:List Hop} {S:Srch},S.OK n→(∀ h∈l,0≤h.domain∧h.domain.toNat<n.domains.length)→(ext1 S k i l).OK n
 | [],S,h,_=>h
 | x::l,S,h,hl=>Srch.OK.ext1 hk (l:=l) (h.meet (hl x qe) hk x i) (fun y hy=>hl y (by simp[hy]))
theorem Srch.OK.ext2 {n:Net} {i:Int}:∀ {l:List Lead} {S:Srch},S.OK n→(∀ h∈l,0≤h.domain∧h.domain.toNat<n.domains.length)→(ext2 S i l).OK n
 | [],S,h,_=>h
 | x::l,S,h,hl=>Srch.OK.ext2 (l:=l) (h.meet (hl x qe) (.inr rfl) _ i) (fun y hy=>hl y (by simp[hy]))
theorem Srch.OK.ext {n:Net} {S:Srch} (h:S.OK n) (i:Int):(Aib n S i).OK n:=by
 rw[Aib]
 split
 ·exact(h.ext1 (.inl Y) (fun x hx=>Yb hx)).ext2 (fun x hx=>W8 hx)
 ·exact h.ext1 (.inr Y) (fun x hx=>Yb hx)
def Backs (l:List Fnd):Prop:=∀ i (h:i<l.length),-1≤l[i].ahead∧l[i].ahead<i
theorem Backs.snoc {l:List Fnd} (h:Backs l) {f:Fnd} (hf:-1≤f.ahead∧f.ahead<l.length):Backs (l++[f]):=fun i hi=>by
 by_cases hl:i<l.length
 ·rw[List.getElem_append_left hl]
  exact h i hl
 ·have:i=l.length:=by simp at hi;omega
  subst this
  simpa using hf
theorem Backs.meet {S:Srch} (h:Backs S.list) (d k:Int) (hp:Hop) {a:Int} (ha:-1≤a∧a<S.list.length):Backs (Ts S d k hp a).list∧S.list.length≤(Ts S d k hp a).list.length:=by
 rw[Ts]
 split
 ·exact⟨h,Nat.le_refl _⟩
 ·rw[Aef]
  split
  ·exact⟨h.snoc ha,by simp⟩
  ·exact⟨h.snoc ha,by simp⟩
theorem Backs.ext1 {k i:Int}:∀ {l:List Hop} {S:Srch},Backs S.list→(-1≤i∧i<S.list.length)→Backs (ext1 S k i l).list∧S.list.length≤(ext1 S k i l).list.length
 | [],S,h,_=>⟨h,Nat.le_refl _⟩
 | x::l,S,h,hi=>by
  obtain ⟨h1,h2⟩:=h.meet x.domain k x hi
  obtain ⟨h3,h4⟩:=Backs.ext1 (k:=k) (i:=i) (l:=l) h1 ⟨hi.1,by omega⟩
  exact⟨h3,Nat.le_trans h2 h4⟩
theorem Backs.ext2 {i:Int}:∀ {l:List Lead} {S:Srch},Backs S.list→(-1≤i∧i<S.list.length)→Backs (ext2 S i l).list∧S.list.length≤(ext2 S i l).list.length
 | [],S,h,_=>⟨h,Nat.le_refl _⟩
 | x::l,S,h,hi=>by
  obtain ⟨h1,h2⟩:=h.meet x.domain 1 ⟨3,0,x.domain,x.addr⟩ hi
  obtain ⟨h3,h4⟩:=Backs.ext2 (i:=i) (l:=l) h1 ⟨hi.1,by omega⟩
  exact⟨h3,Nat.le_trans h2 h4⟩
theorem Backs.ext {n:Net} {S:Srch} (h:Backs S.list) {i:Int} (hi:0≤i∧i<S.list.length):Backs (Aib n S i).list∧S.list.length≤(Aib n S i).list.length:=by
 rw[Aib]
 split
 ·obtain ⟨h1,h2⟩:=h.ext1 (k:=0) (i:=i) (l:=Yc n (nth S.list i).domain) ⟨by omega,hi.2⟩
  obtain ⟨h3,h4⟩:=h1.ext2 (i:=i) (l:=O8 n (nth S.list i).domain) ⟨by omega,by omega⟩
  exact⟨h3,Nat.le_trans h2 h4⟩
 ·exact h.ext1 ⟨by omega,hi.2⟩
end Go.Sy.YtjenpnjajjplkaaGreatDoor
namespace Go.Sy.YtjenpnjajjplkaaGreatDoor
open Go.Proofs
def Afo (n:Net) (h:Hop):Prop:=(0≤h.domain∧h.domain.toNat<n.domains.length)∧0≤h.addr∧h.addr<4294967296
theorem Al8 {n:Net} {irb to e:Int} (he:e<4294967296):∀ {x:Int},0≤x→0≤(addrGo n irb to e x).1∧(addrGo n irb to e x).1<4294967296:=by
 intro x
 induction x using addrGo.induct n irb to e with
 | case1 x h1 h2=>intro h0;rw[addrGo,if_pos h1,if_pos h2];exact⟨h0,by simp only;omega⟩
 | case2 x h1 h2 h3=>intro h0;rw[addrGo,if_pos h1,if_neg h2,if_pos h3];decide
 | case3 x h1 h2 h3 h4 ih=>intro h0;rw[addrGo,if_pos h1,if_neg h2,if_neg h3,if_pos h4];exact ih z_
 | case4 x h1 h2 h3 h4=>intro h0;rw[addrGo,if_pos h1,if_neg h2,if_neg h3,if_neg h4];decide
 | case5 x h1=>intro h0;rw[addrGo,if_neg h1];decide
theorem Apc {n:Net} (hu:Ha n) (irb to:Int):0≤(Afj n irb to).1∧(Afj n irb to).1<4294967296:=by
 rw[Afj]
 split
 ·rename_i hc
  have hk:to.toNat<n.irbs.length:=by omega
  rw[As hk]
  have hui:=hu _ (List.getElem_mem hk)
  exact Al8 (Aen _ _ hui).2 (Aag _ _ hui).1
 ·decide
theorem Aev {n:Net} {d:Int} {h:Hop} (hh:h∈Yc n d):Afo n h:=by
 refine⟨Yb hh,?_⟩
 rw[Yc]at hh
 split at hh
 ·rcases List.mem_append.1 hh with hh | hh
  ·obtain ⟨p,_,hp⟩:=List.mem_filterMap.1 hh
   rw[Abr]at hp
   split at hp
   ·simp only[Option.some.injEq]at hp
    subst hp
    exact⟨by simp,by simp⟩
   ·cases hp
  ·obtain ⟨p,hp,rfl⟩:=List.mem_map.1 hh
   exact⟨by simp[Abl],by simp[Abl]⟩
 ·cases hh
theorem Aa1 {n:Net} (hu:Ha n) {d:Int} {q:Lead} (hq:q∈O8 n d):0≤q.addr∧q.addr<4294967296:=by
 rw[O8]at hq
 split at hq
 ·obtain ⟨i,hi,hp⟩:=List.mem_filterMap.1 hq
  rw[An6]at hp
  split at hp
  ·simp only[Option.some.injEq]at hp
   subst hp
   exact Apc hu _ _
  ·cases hp
 ·cases hq
def HopsOK (n:Net) (l:List Fnd):Prop:=∀ f∈l,Afo n f.hop
theorem HopsOK.meet {n:Net} {S:Srch} (h:HopsOK n S.list) (d k:Int) {hp:Hop} (hh:Afo n hp) (a:Int):HopsOK n (Ts S d k hp a).list:=by
 rw[Ts]
 split
 ·exact h
 ·rw[Aef]
  split<;>(intro f hf;rcases List.mem_append.1 hf with hf | hf;exact h f hf;rw[List.mem_singleton]at hf;subst hf;exact hh)
theorem HopsOK.ext1 {n:Net} {k i:Int}:∀ {l:List Hop} {S:Srch},HopsOK n S.list→(∀ h∈l,Afo n h)→HopsOK n (ext1 S k i l).list
 | [],S,h,_=>h
 | x::l,S,h,hl=>HopsOK.ext1 (l:=l) (h.meet x.domain k (hl x qe) i) (fun y hy=>hl y (by simp[hy]))
theorem HopsOK.ext2 {n:Net} {i:Int}:∀ {l:List Lead} {S:Srch},HopsOK n S.list→(∀ q∈l,Afo n ⟨3,0,q.domain,q.addr⟩)→HopsOK n (ext2 S i l).list
 | [],S,h,_=>h
 | x::l,S,h,hl=>HopsOK.ext2 (l:=l) (h.meet x.domain 1 (hl x qe) i) (fun y hy=>hl y (by simp[hy]))
theorem HopsOK.ext {n:Net} (hu:Ha n) {S:Srch} (h:HopsOK n S.list) (i:Int):HopsOK n (Aib n S i).list:=by
 rw[Aib]
 split
 ·exact(h.ext1 (fun x hx=>Aev hx)).ext2 (fun q hq=>⟨W8 hq,Aa1 hu hq⟩)
 ·exact h.ext1 (fun x hx=>Aev hx)
end Go.Sy.YtjenpnjajjplkaaGreatDoor
namespace Go.Sy.YtjenpnjajjplkaaGreatDoor
open Go.Proofs
attribute [local irreducible] Go.Sy.G Go.Sy.DR
set_option maxRecDepth 20000
set_option maxHeartbeats 8000000
theorem Al6 (a:Nat):B6 a=Aw (octN a 0:Nat)++⟨#[46]⟩++Aw (octN a 1:Nat)++⟨#[46]⟩++Aw (octN a 2:Nat)++⟨#[46]⟩++Aw (octN a 3:Nat):=by
 have e:(⟨#[46]⟩:ByteArray)=mkT [46]:=rfl
 rw[B6,Int.toNat_natCast,Dq,Dq,Dq,Dq,e]
 simp only[Eb]
 simp[Ue]
theorem Ajh (n:Nat) (h:n<1000000000000000000):IntKind.i64.wrap (n:Int)=n:=by rw[IntKind.wrap_i64];omega
theorem Amk (n k:Nat) (h:n<1000000000000000000):IntKind.i64.wrap ((n:Int).tdiv k)=((n / k:Nat):Int):=by
 rw[Int.tdiv_eq_ediv_of_nonneg z_,← Int.natCast_ediv]
 exact Ajh _ (Nat.lt_of_le_of_lt (Nat.div_le_self _ _) h)
theorem Ami (n k:Nat):(n:Int).tmod k=((n % k:Nat):Int):=by
 rw[Int.tmod_eq_emod_of_nonneg z_];omega
theorem Ex {n:Nat} (h:n<1000000000000000000):(Aw n).size≤19:=Ak7 ⟨by omega,by omega⟩
theorem Lv (a:Nat) (ha:a<4294967296):Sy.Spec Tryz.prog 418 [A3 a] [] (Ad (B6 a)) []:=cT F418 Tryz.ntmps418 fun F hF=>by
 have d0:=Amk a 16777216 z_
 have d1:=Amk a 65536 z_
 have d2:=Amk a 256 z_
 have m1:=Ami (a / 65536) 256
 have m2:=Ami (a / 256) 256
 have m3:=Ami a 256
 have o0:a / 16777216=octN a 0:=by unfold octN;omega
 have o1:a / 65536 % 256=octN a 1:=by unfold octN;omega
 have o2:a / 256 % 256=octN a 2:=by unfold octN;omega
 have o3:a % 256=octN a 3:=by unfold octN;omega
 have b:∀ j,octN a j<256:=fun j=>by unfold octN;omega
 have q0:=I4 (octN a 0) (by have:=b 0;omega)
 have q1:=I4 (octN a 1) (by have:=b 1;omega)
 have q2:=I4 (octN a 2) (by have:=b 2;omega)
 have q3:=I4 (octN a 3) (by have:=b 3;omega)
 have s0:=Ex (n:=octN a 0) (by have:=b 0;omega)
 have s1:=Ex (n:=octN a 1) (by have:=b 1;omega)
 have s2:=Ex (n:=octN a 2) (by have:=b 2;omega)
 have s3:=Ex (n:=octN a 3) (by have:=b 3;omega)
 rw[o0]at d0
 rw[o1]at m1
 rw[o2]at m2
 rw[o3]at m3
 rw[Al6 a]
 generalize hz0:octN a 0=z0 at *
 generalize hz1:octN a 1=z1 at *
 generalize hz2:octN a 2=z2 at *
 generalize hz3:octN a 3=z3 at *
 generalize Aw (z0:Nat)=t0 at *
 generalize Aw (z1:Nat)=t1 at *
 generalize Aw (z2:Nat)=t2 at *
 generalize Aw (z3:Nat)=t3 at *
 ((conv=>whnf);repeat((first|refine aF ?_|refine aT ?_);(first|refine rG Γ hm ?_|refine rD Γ hm j_ ?_);conv=>whnf))
 rw[Ajh a z_]
 refine⟨by decide,?_⟩
 ((conv=>whnf);repeat((first|refine aF ?_|refine aT ?_);(first|refine rG Γ hm ?_|refine rD Γ hm j_ ?_);conv=>whnf))
 have d0':IntKind.i64.wrap ((a:Int).tdiv 16777216)=((z0:Nat):Int):=d0
 have d1':IntKind.i64.wrap ((a:Int).tdiv 65536)=((a / 65536:Nat):Int):=d1
 have d2':IntKind.i64.wrap ((a:Int).tdiv 256)=((a / 256:Nat):Int):=d2
 have m1':((a / 65536:Nat):Int).tmod 256=((z1:Nat):Int):=m1
 have m2':((a / 256:Nat):Int).tmod 256=((z2:Nat):Int):=m2
 have m3':(a:Int).tmod 256=((z3:Nat):Int):=m3
 rw[d0']
 refine c0 q0 F427 ?_
 ((first|refine rG Γ hm ?_|refine rD Γ hm j_ ?_);(conv=>whnf);repeat((first|refine aF ?_|refine aT ?_);(first|refine rG Γ hm ?_|refine rD Γ hm j_ ?_);conv=>whnf))
 refine⟨by show _+1≤_;omega,?_⟩
 ((conv=>whnf);repeat((first|refine aF ?_|refine aT ?_);(first|refine rG Γ hm ?_|refine rD Γ hm j_ ?_);conv=>whnf))
 refine⟨by decide,?_⟩
 ((conv=>whnf);repeat((first|refine aF ?_|refine aT ?_);(first|refine rG Γ hm ?_|refine rD Γ hm j_ ?_);conv=>whnf))
 rw[d1']
 refine⟨by decide,?_⟩
 ((conv=>whnf);repeat((first|refine aF ?_|refine aT ?_);(first|refine rG Γ hm ?_|refine rD Γ hm j_ ?_);conv=>whnf))
 rw[m1']
 refine c0 q1 F427 ?_
 ((first|refine rG Γ hm ?_|refine rD Γ hm j_ ?_);(conv=>whnf);repeat((first|refine aF ?_|refine aT ?_);(first|refine rG Γ hm ?_|refine rD Γ hm j_ ?_);conv=>whnf))
 have e1:(t0++⟨#[46]⟩:ByteArray).size=t0.size+1:=Mx _ _
 have e2:(t0++⟨#[46]⟩++t1:ByteArray).size=t0.size+1+t1.size:=by rw[Mx,e1]
 have e3:(t0++⟨#[46]⟩++t1++⟨#[46]⟩:ByteArray).size=t0.size+1+t1.size+1:=by rw[Mx,e2];rfl
 have e4:(t0++⟨#[46]⟩++t1++⟨#[46]⟩++t2:ByteArray).size=t0.size+1+t1.size+1+t2.size:=by rw[Mx,e3]
 have e5:(t0++⟨#[46]⟩++t1++⟨#[46]⟩++t2++⟨#[46]⟩:ByteArray).size=t0.size+1+t1.size+1+t2.size+1:=by rw[Mx,e4];rfl
 refine⟨by omega,?_⟩
 ((conv=>whnf);repeat((first|refine aF ?_|refine aT ?_);(first|refine rG Γ hm ?_|refine rD Γ hm j_ ?_);conv=>whnf))
 refine⟨by show _+1≤_;omega,?_⟩
 ((conv=>whnf);repeat((first|refine aF ?_|refine aT ?_);(first|refine rG Γ hm ?_|refine rD Γ hm j_ ?_);conv=>whnf))
 refine⟨by decide,?_⟩
 ((conv=>whnf);repeat((first|refine aF ?_|refine aT ?_);(first|refine rG Γ hm ?_|refine rD Γ hm j_ ?_);conv=>whnf))
 rw[d2']
 refine⟨by decide,?_⟩
 ((conv=>whnf);repeat((first|refine aF ?_|refine aT ?_);(first|refine rG Γ hm ?_|refine rD Γ hm j_ ?_);conv=>whnf))
 rw[m2']
 refine c0 q2 F427 ?_
 ((first|refine rG Γ hm ?_|refine rD Γ hm j_ ?_);(conv=>whnf);repeat((first|refine aF ?_|refine aT ?_);(first|refine rG Γ hm ?_|refine rD Γ hm j_ ?_);conv=>whnf))
 refine⟨by omega,?_⟩
 ((conv=>whnf);repeat((first|refine aF ?_|refine aT ?_);(first|refine rG Γ hm ?_|refine rD Γ hm j_ ?_);conv=>whnf))
 refine⟨by show _+1≤_;omega,?_⟩
 ((conv=>whnf);repeat((first|refine aF ?_|refine aT ?_);(first|refine rG Γ hm ?_|refine rD Γ hm j_ ?_);conv=>whnf))
 refine⟨by decide,?_⟩
 ((conv=>whnf);repeat((first|refine aF ?_|refine aT ?_);(first|refine rG Γ hm ?_|refine rD Γ hm j_ ?_);conv=>whnf))
 rw[m3']
 refine c0 q3 F427 ?_
 ((first|refine rG Γ hm ?_|refine rD Γ hm j_ ?_);(conv=>whnf);repeat((first|refine aF ?_|refine aT ?_);(first|refine rG Γ hm ?_|refine rD Γ hm j_ ?_);conv=>whnf))
 refine⟨by omega,?_⟩
 ((conv=>whnf);repeat((first|refine aF ?_|refine aT ?_);(first|refine rG Γ hm ?_|refine rD Γ hm j_ ?_);conv=>whnf))
 exact dN
theorem Yl {n:Net} (h:Ah n=true) {i:Nat} (hi:i<n.ports.length):0≤n.ports[i].native∧inB n.ports[i].tagged n.ports[i].native=false:=by
 have:=Ab8 h hi
 simp only[Jg,Bool.and_eq_true,decide_eq_true_eq,Bool.not_eq_true']at this
 exact⟨this.1.1.1.1.1.1.1.2,this.1.1.1.1.2⟩
theorem Ake (n:Net) (hn:n.Fin) (hb:Ah n=true) (i v:Int):Sy.Spec Tryz.prog 422 [Aj n,Aa i,Aa v] [] (.tup [Aa (crossT n i v).1,Aa (crossT n i v).2.1,Ab (crossT n i v).2.2]) []:=cT F422 Tryz.ntmps422 fun F hF=>by
 have q:=Akd n hn hb i
 have hth:=J6 (n:=n) (i:=i)
 have hc:=crossT.eq_1 n i v
 unfold T9 at hc
 generalize crossT n i v=r at *
 obtain ⟨far,hfar⟩:∃ far,Hi n i=far:=⟨_,rfl⟩
 rw[hfar]at q hth hc
 ((conv=>whnf);repeat((first|refine aF ?_|refine aT ?_);(first|refine rG Γ hm ?_|refine rD Γ hm j_ ?_);conv=>whnf))
 refine A6 3 8 (Aj n) Y Y Y ?_
 ((first|refine rG Γ hm ?_|refine rD Γ hm j_ ?_);(conv=>whnf);repeat((first|refine aF ?_|refine aT ?_);(first|refine rG Γ hm ?_|refine rD Γ hm j_ ?_);conv=>whnf))
 refine c0 q F444 ?_
 ((first|refine rG Γ hm ?_|refine rD Γ hm j_ ?_);(conv=>whnf);repeat((first|refine aF ?_|refine aT ?_);(first|refine rG Γ hm ?_|refine rD Γ hm j_ ?_);conv=>whnf))
 refine⟨fun h=>?_,fun h=>?_⟩
 ·have h1:far<0:=of_decide_eq_true h
  rw[if_neg z_]at hc
  subst hc
  ((first|refine rG Γ hm ?_|refine rD Γ hm j_ ?_);(conv=>whnf);repeat((first|refine aF ?_|refine aT ?_);(first|refine rG Γ hm ?_|refine rD Γ hm j_ ?_);conv=>whnf))
  exact dN
 have h1:0≤far:=qB h
 ((first|refine rG Γ hm ?_|refine rD Γ hm j_ ?_);(conv=>whnf);repeat((first|refine aF ?_|refine aT ?_);(first|refine rG Γ hm ?_|refine rD Γ hm j_ ?_);conv=>whnf))
 refine⟨fun h=>?_,fun h=>?_⟩
 ·have h2:v=0:=by simpa using h
  rw[if_neg (fun hh=>by have:=hh.2.1;simp[C7,h2]at this)]at hc
  subst hc
  ((first|refine rG Γ hm ?_|refine rD Γ hm j_ ?_);(conv=>whnf);repeat((first|refine aF ?_|refine aT ?_);(first|refine rG Γ hm ?_|refine rD Γ hm j_ ?_);conv=>whnf))
  exact dN
 have hv0:v≠0:=by simpa using h
 obtain ⟨⟨hi0,hk⟩,_,hfk⟩:=hth h1
 have e1:nth n.ports i=n.ports[i.toNat]:=As hk
 have e2:nth n.ports far=n.ports[far.toNat]:=As hfk
 rw[e1,e2]at hc
 have ht1:=hn.tagged _ (List.getElem_mem hk)
 have ht2:=hn.tagged _ (List.getElem_mem hfk)
 have hn1:=Yl hb hk
 have hn2:=Yl hb hfk
 obtain ⟨p,hp⟩:∃ p,n.ports[i.toNat]=p:=⟨_,rfl⟩
 obtain ⟨o,ho⟩:∃ o,n.ports[far.toNat]=o:=⟨_,rfl⟩
 rw[hp]at hc ht1 hn1
 rw[ho]at hc ht2 hn2
 have hi1:=Ih p.tagged v ht1
 have hi2:=Ih o.tagged v ht2
 ((first|refine rG Γ hm ?_|refine rD Γ hm j_ ?_);(conv=>whnf);repeat((first|refine aF ?_|refine aT ?_);(first|refine rG Γ hm ?_|refine rD Γ hm j_ ?_);conv=>whnf))
 refine⟨Y,hi0,hk,?_⟩
 rw[hp]
 ((conv=>whnf);repeat((first|refine aF ?_|refine aT ?_);(first|refine rG Γ hm ?_|refine rD Γ hm j_ ?_);conv=>whnf))
 refine⟨Y,h1,hfk,?_⟩
 rw[ho]
 ((conv=>whnf);repeat((first|refine aF ?_|refine aT ?_);(first|refine rG Γ hm ?_|refine rD Γ hm j_ ?_);conv=>whnf))
 refine⟨j_,?_⟩
 ((conv=>whnf);repeat((first|refine aF ?_|refine aT ?_);(first|refine rG Γ hm ?_|refine rD Γ hm j_ ?_);conv=>whnf))
 refine⟨fun h=>?_,fun h=>?_⟩
 ·have h2:p.native=v:=by simpa using h
  rw[if_pos h2.symm]at hc
  ((first|refine rG Γ hm ?_|refine rD Γ hm j_ ?_);(conv=>whnf);repeat((first|refine aF ?_|refine aT ?_);(first|refine rG Γ hm ?_|refine rD Γ hm j_ ?_);conv=>whnf))
  refine⟨fun h=>?_,fun h=>?_⟩
  ·have h3:0<o.native:=of_decide_eq_true h
   rw[if_pos ⟨h1,by simp[C7,h2,hv0],by omega⟩]at hc
   subst hc
   ((first|refine rG Γ hm ?_|refine rD Γ hm j_ ?_);(conv=>whnf);repeat((first|refine aF ?_|refine aT ?_);(first|refine rG Γ hm ?_|refine rD Γ hm j_ ?_);conv=>whnf))
   refine⟨j_,?_⟩
   ((conv=>whnf);repeat((first|refine aF ?_|refine aT ?_);(first|refine rG Γ hm ?_|refine rD Γ hm j_ ?_);conv=>whnf))
   exact dN
  ·have h3:¬ 0<o.native:=of_decide_eq_false h
   rw[if_neg (fun hh=>hh.2.2 z_)]at hc
   subst hc
   rw[h2]at hn1
   ((first|refine rG Γ hm ?_|refine rD Γ hm j_ ?_);(conv=>whnf);repeat((first|refine aF ?_|refine aT ?_);(first|refine rG Γ hm ?_|refine rD Γ hm j_ ?_);conv=>whnf))
   refine c0 hi1 F226 ?_
   rw[hn1.2]
   ((first|refine rG Γ hm ?_|refine rD Γ hm j_ ?_);(conv=>whnf);repeat((first|refine aF ?_|refine aT ?_);(first|refine rG Γ hm ?_|refine rD Γ hm j_ ?_);conv=>whnf))
   exact dN
 have h2:¬ v=p.native:=fun e=>by simp[e]at h
 rw[if_neg h2]at hc
 ((first|refine rG Γ hm ?_|refine rD Γ hm j_ ?_);(conv=>whnf);repeat((first|refine aF ?_|refine aT ?_);(first|refine rG Γ hm ?_|refine rD Γ hm j_ ?_);conv=>whnf))
 refine c0 hi1 F226 ?_
 cases hin:inB p.tagged v
 ·rw[if_neg (fun hh=>by have:=hh.2.1;simp[C7,h2,hin]at this)]at hc
  subst hc
  ((first|refine rG Γ hm ?_|refine rD Γ hm j_ ?_);(conv=>whnf);repeat((first|refine aF ?_|refine aT ?_);(first|refine rG Γ hm ?_|refine rD Γ hm j_ ?_);conv=>whnf))
  exact dN
 ((first|refine rG Γ hm ?_|refine rD Γ hm j_ ?_);(conv=>whnf);repeat((first|refine aF ?_|refine aT ?_);(first|refine rG Γ hm ?_|refine rD Γ hm j_ ?_);conv=>whnf))
 refine c0 hi2 F226 ?_
 cases hin2:inB o.tagged v
 ·rw[hin2,if_neg qe]at hc
  subst hc
  ((first|refine rG Γ hm ?_|refine rD Γ hm j_ ?_);(conv=>whnf);repeat((first|refine aF ?_|refine aT ?_);(first|refine rG Γ hm ?_|refine rD Γ hm j_ ?_);conv=>whnf))
  exact dN
 rw[hin2,if_pos rfl,if_pos ⟨h1,by simp[C7,hv0,hin],hv0⟩]at hc
 subst hc
 ((first|refine rG Γ hm ?_|refine rD Γ hm j_ ?_);(conv=>whnf);repeat((first|refine aF ?_|refine aT ?_);(first|refine rG Γ hm ?_|refine rD Γ hm j_ ?_);conv=>whnf))
 exact dN
theorem Xg (n:Net) (hn:n.Fin) (hb:Ah n=true) (i v:Int):Sy.Spec Tryz.prog 363 [Aj n,Aa i,Aa v] [] (.tup [Aa (linkDomT n i v).1,Ab (linkDomT n i v).2]) []:=cT F363 Tryz.ntmps363 fun F hF=>by
 have q:=Ake n hn hb i v
 have hth:=Ma (n:=n) (i:=i) (v:=v)
 have hc:=linkDomT.eq_1 n i v
 generalize linkDomT n i v=r at *
 generalize crossT n i v=x at *
 obtain ⟨far,to,ok⟩:=x
 ((conv=>whnf);repeat((first|refine aF ?_|refine aT ?_);(first|refine rG Γ hm ?_|refine rD Γ hm j_ ?_);conv=>whnf))
 refine A6 3 8 (Aj n) Y Y Y ?_
 ((first|refine rG Γ hm ?_|refine rD Γ hm j_ ?_);(conv=>whnf);repeat((first|refine aF ?_|refine aT ?_);(first|refine rG Γ hm ?_|refine rD Γ hm j_ ?_);conv=>whnf))
 refine c0 q F422 ?_
 cases ok
 ·rw[if_neg qe]at hc
  subst hc
  ((first|refine rG Γ hm ?_|refine rD Γ hm j_ ?_);(conv=>whnf);repeat((first|refine aF ?_|refine aT ?_);(first|refine rG Γ hm ?_|refine rD Γ hm j_ ?_);conv=>whnf))
  exact dN
 rw[if_pos rfl]at hc
 have hf:=hth rfl
 dsimp only at hf hc
 have e2:nth n.ports far=n.ports[far.toNat]:=As hf.2
 rw[e2]at hc
 obtain ⟨o,ho⟩:∃ o,n.ports[far.toNat]'hf.2=o:=⟨_,rfl⟩
 rw[ho,T7,if_pos hb]at hc
 have q2:=Je n o.dev to hn.domains
 subst hc
 ((first|refine rG Γ hm ?_|refine rD Γ hm j_ ?_);(conv=>whnf);repeat((first|refine aF ?_|refine aT ?_);(first|refine rG Γ hm ?_|refine rD Γ hm j_ ?_);conv=>whnf))
 refine⟨Y,hf.1,hf.2,?_⟩
 rw[ho]
 ((conv=>whnf);repeat((first|refine aF ?_|refine aT ?_);(first|refine rG Γ hm ?_|refine rD Γ hm j_ ?_);conv=>whnf))
 refine cD q2 F213 ?_
 ((first|refine rG Γ hm ?_|refine rD Γ hm j_ ?_);(conv=>whnf);repeat((first|refine aF ?_|refine aT ?_);(first|refine rG Γ hm ?_|refine rD Γ hm j_ ?_);conv=>whnf))
 refine⟨j_,?_⟩
 ((conv=>whnf);repeat((first|refine aF ?_|refine aT ?_);(first|refine rG Γ hm ?_|refine rD Γ hm j_ ?_);conv=>whnf))
 exact dN
end Go.Sy.YtjenpnjajjplkaaGreatDoor
namespace Go.Sy.YtjenpnjajjplkaaGreatDoor
open Go.Proofs
attribute [local irreducible] Go.Sy.G Go.Sy.DR
set_option maxRecDepth 100000
set_option maxHeartbeats 4000000
theorem Afb (n:Net) (hn:n.Fin) (i:Int):(crossedL n i).length<2147483648:=by
 have h1:=List.length_filterMap_le (fun p=>if (linkDomT n p (nth n.domains i).vlan).2=true then some (linkDomT n p (nth n.domains i).vlan).1 else none) (E4 n i)
 have h2:=Oi n hn i
 unfold At at h2
 unfold crossedL
 omega
theorem Adh (n:Net) (hn:n.Fin) (hr:Ah n=true) (i:Int) (hi:0≤i∧i.toNat<n.domains.length):Sy.Spec Tryz.prog 297 [Aj n,Aa i] [] (.sl 1 Aa (crossedL n i)) []:=cT F297 Tryz.ntmps297 fun F hF=>by
 have qm:=Ac7 n hn hr i
 have hms:=Oi n hn i
 unfold At at hms
 have hi0:=hi.1
 have hi1:=hi.2
 have hcl:=crossedL.eq_1 n i
 rw[As hi.2]at hcl
 generalize crossedL n i=res at *
 generalize E4 n i=mem at *
 have hfl:∀ j,((mem.take j).filterMap (fun p=>if (linkDomT n p (n.domains[i.toNat]'hi.2).vlan).2=true then some (linkDomT n p (n.domains[i.toNat]'hi.2).vlan).1 else none)).length≤mem.length:=fun j=>by
  refine Nat.le_trans (List.length_filterMap_le _ _) ?_
  rw[List.length_take];omega
 refine T ?_
 refine A6 2 8 (Aj n) Y Y Y ?_
 refine C qm F362 ?_
 refine C4 5 1000 1 Aa Y Y ?_
 refine Au (fun j:Nat=>j≤mem.length) (fun j=>[(1,Aa i),(2,.ref 8 (Aj n) 0),(5,.osl 1000),(6,.sl 1 Aa mem),(7,Aa j)]) (fun j=>[(1000,.row 1 Aa ((mem.take j).filterMap (fun p=>if (linkDomT n p (n.domains[i.toNat]'hi.2).vlan).2=true then some (linkDomT n p (n.domains[i.toNat]'hi.2).vlan).1 else none)))]) (fun j=>mem.length-j) 0 [] z_ U ?_
 intro j hj
 have hflj:=hfl j
 refine T ?_
 refine⟨fun h=>?_,fun h=>?_⟩
 ·have hlt:j<mem.length:=qA h
  have hj0:((j:Nat):Int).toNat<mem.length:=hlt
  clear h
  have q:=Xg n hn hr (mem[((j:Nat):Int).toNat]'hj0) (n.domains[i.toNat]'hi.2).vlan
  have hnx:(mem.take (j+1)).filterMap (fun p=>if (linkDomT n p (n.domains[i.toNat]'hi.2).vlan).2=true then some (linkDomT n p (n.domains[i.toNat]'hi.2).vlan).1 else none)=(mem.take j).filterMap (fun p=>if (linkDomT n p (n.domains[i.toNat]'hi.2).vlan).2=true then some (linkDomT n p (n.domains[i.toNat]'hi.2).vlan).1 else none) ++
    (if (linkDomT n (mem[((j:Nat):Int).toNat]'hj0) (n.domains[i.toNat]'hi.2).vlan).2=true then [(linkDomT n (mem[((j:Nat):Int).toNat]'hj0) (n.domains[i.toNat]'hi.2).vlan).1] else []):=by
   rw[List.take_succ_eq_append_getElem hlt,List.filterMap_append]
   congr 1
   show List.filterMap _ [mem[((j:Nat):Int).toNat]'hj0]=_
   rw[List.filterMap_cons,List.filterMap_nil]
   split<;>rename_i hs<;>split at hs<;>simp_all
  generalize hU:(mem.take j).filterMap (fun p=>if (linkDomT n p (n.domains[i.toNat]'hi.2).vlan).2=true then some (linkDomT n p (n.domains[i.toNat]'hi.2).vlan).1 else none)=u at *
  generalize linkDomT n (mem[((j:Nat):Int).toNat]'hj0) (n.domains[i.toNat]'hi.2).vlan=ld at *
  obtain ⟨to,ok⟩:=ld
  dsimp only at hnx q
  cases ok with
  | false =>
   rw[if_neg y_,List.append_nil]at hnx
   refine T ?_
   refine C q F363 ?_
   exact Ae (j+1) [] hlt z_ ⟨⟨Y,Y,Y,Y,Y,Y,Y,Y,Y,Y,q_⟩,⟨.inl (congrArg (Ob.row 1 Aa) hnx),Y,q_⟩,Y,Y⟩
  | true =>
   rw[if_pos rfl]at hnx
   refine T ?_
   refine C q F363 ?_
   refine X (Ak Γ.toTy 38 rfl rfl rfl rfl rfl (.row rfl) (.lit (e:=Aa) (l:=[to]) rfl rfl) (by intro k hk;cases hk;decide) (by simp only[List.length_singleton];omega) (by simp only[List.length_singleton];omega)) ?_
   refine T ?_
   exact Ae (j+1) [(1000,38)] hlt z_ ⟨⟨Y,Y,Y,Y,Y,Y,Y,Y,Y,Y,q_⟩,⟨.inl (congrArg (Ob.row 1 Aa) hnx),Y,q_⟩,Y,Y⟩
 ·have hje:j=mem.length:=qB h
  clear h
  rw[hje,List.take_length,← hcl]
  refine Ac 1000 Y ?_
  refine T ?_
  exact D
def L8 (n:Net) (i:Nat):List (Int × Int):=(List.range i).flatMap (fun i:Nat=>(crossedL n (i:Int)).map (fun b=>((i:Int),b)))
theorem Ae7 (n:Net) (i:Nat):L8 n (i+1)=L8 n i++(crossedL n (i:Int)).map (fun b=>((i:Int),b)):=by
 rw[L8,List.range_succ,List.flatMap_append,List.flatMap_cons,List.flatMap_nil,List.append_nil];rfl
def Hz (l:List Int) (es:List (Int × Int)):List Int:=es.foldl (fun l e=>Ea l e.1 e.2) l
theorem Lu:∀ (es:List (Int × Int)) (l:List Int),(Hz l es).length=l.length
 | [],_=>rfl
 | e::es,l=>by
  show (Hz (Ea l e.1 e.2) es).length=_
  rw[Lu es,Xe]
theorem Xc (l:List Int) (es fs:List (Int × Int)):Hz l (es++fs)=Hz (Hz l es) fs:=List.foldl_append
theorem Sc (es:List (Int × Int)):∀ (k:Nat) (l:List Int),(Ep es k l).length=l.length
 | 0,_=>rfl
 | k+1,l=>by
  rw[M2]
  exact(Lu es _).trans (Sc es k l)
theorem Air (k:Nat):B8 (k+1)=B8 k++[(k:Int)]:=by
 rw[B8,List.range_succ,List.map_append];rfl
theorem Aki (n:Net) (hn:n.Fin) (hr:Ah n=true):Sy.Spec Tryz.prog 225 [Aj n,Ab false] [] (.sl 1 Aa (U0 n)) []:=cT F225 Tryz.ntmps225 fun F hF=>by
 have hfew:=(Ae9 hr).2.2.2.1
 refine T ?_
 refine A6 2 8 (Aj n) Y Y Y ?_
 refine C4 5 1000 1 Aa Y Y ?_
 refine Au (fun j:Nat=>j≤n.domains.length) (fun j=>[(1,Ab false),(2,.ref 8 (Aj n) 0),(5,.osl 1000),(6,Aa j)]) (fun j=>[(1000,.row 1 Aa (B8 j))]) (fun j=>n.domains.length-j) 0 [] z_ U ?_
 intro j hj
 have hal:=(Dy j).2
 have has:=Air j
 refine T ?_
 refine⟨fun h=>?_,fun h=>?_⟩
 ·have hlt:j<n.domains.length:=qA h
  clear h
  refine T ?_
  refine X (Ak Γ.toTy 22 rfl rfl rfl rfl rfl (.row rfl) (.lit (e:=Aa) (l:=[(j:Int)]) rfl rfl) (by intro k hk;cases hk;decide) (by simp only[List.length_singleton];omega) (by simp only[List.length_singleton];omega)) ?_
  refine T ?_
  exact Ae (j+1) [(1000,22)] hlt z_ ⟨⟨Y,Y,Y,Y,Y,Y,Y,Y,q_⟩,⟨.inl (congrArg (Ob.row 1 Aa) has),Y,q_⟩,Y,Y⟩
 have hje:j=n.domains.length:=qB h
 clear h has
 subst hje
 refine T ?_
 refine Au (fun k:Nat=>k≤n.domains.length) (fun k=>[(1,Ab false),(2,.ref 8 (Aj n) 0),(5,.osl 1000),(7,Aa k)]) (fun k=>[(1000,.row 1 Aa (Ep (L9 n) k (B8 n.domains.length)))]) (fun k=>n.domains.length-k) 0 [] z_ U ?_
 intro k hk
 have hrl:=Sc (L9 n) k (B8 n.domains.length)
 have hrs:=M2 (L9 n) k (B8 n.domains.length)
 rw[hal]at hrl
 refine T ?_
 refine⟨fun h=>?_,fun h=>?_⟩
 ·have hlt:k<n.domains.length:=qA h
  clear h
  generalize Ep (L9 n) k (B8 n.domains.length)=l0 at *
  refine T ?_
  refine Au (fun i:Nat=>i≤n.domains.length) (fun i=>[(1,Ab false),(2,.ref 8 (Aj n) 0),(5,.osl 1000),(7,Aa k),(8,Aa i)]) (fun i=>[(1000,.row 1 Aa (Hz l0 (L8 n i)))]) (fun i=>n.domains.length-i) 0 [] z_ U ?_
  intro i hi
  have hul:=Lu (L8 n i) l0
  refine T ?_
  refine⟨fun h=>?_,fun h=>?_⟩
  ·have hit:i<n.domains.length:=qA h
   clear h
   have hes:Hz l0 (L8 n (i+1))=Hz (Hz l0 (L8 n i)) ((crossedL n (i:Int)).map (fun b=>((i:Int),b))):=by rw[Ae7,Xc]
   have qc:=Adh n hn hr (i:Int) ⟨by omega,hit⟩
   have hcl:=Afb n hn (i:Int)
   have hcin:∀ b∈crossedL n (i:Int),InD n.domains.length b:=fun b hb=>by
    refine(Tt hr ((U6 hr (i:Int) b).2 ?_)).2
    exact List.mem_flatMap.2 ⟨i,List.mem_range.2 hit,List.mem_map.2 ⟨b,hb,Y⟩⟩
   generalize Hz l0 (L8 n i)=l1 at *
   generalize crossedL n (i:Int)=cr at *
   refine T ?_
   refine C qc F297 ?_
   refine Au (fun m:Nat=>m≤cr.length) (fun m=>[(1,Ab false),(2,.ref 8 (Aj n) 0),(5,.osl 1000),(7,Aa k),(8,Aa i),(9,.sl 1 Aa cr),(10,Aa m)]) (fun m=>[(1000,.row 1 Aa (Hz l1 ((cr.take m).map (fun b=>((i:Int),b)))))]) (fun m=>cr.length-m) 0 [] z_ U ?_
   intro m hm
   have hml:=Lu ((cr.take m).map (fun b=>((i:Int),b))) l1
   refine T ?_
   refine⟨fun h=>?_,fun h=>?_⟩
   ·have hmt:m<cr.length:=qA h
    have hm0:((m:Nat):Int).toNat<cr.length:=hmt
    clear h
    have hbin:=hcin _ (List.getElem_mem hm0)
    have hb0:=hbin.1
    have hb1:=hbin.2
    have hnx:Hz l1 ((cr.take (m+1)).map (fun b=>((i:Int),b)))=Ea (Hz l1 ((cr.take m).map (fun b=>((i:Int),b)))) (i:Int) (cr[((m:Nat):Int).toNat]'hm0):=by
     rw[List.take_succ_eq_append_getElem hmt,List.map_append,Xc];rfl
    generalize Hz l1 ((cr.take m).map (fun b=>((i:Int),b)))=l2 at *
    have hi2:((i:Nat):Int).toNat<l2.length:=by omega
    have hb2:(cr[((m:Nat):Int).toNat]'hm0).toNat<l2.length:=by omega
    have hne:l2≠[]:=fun e=>by rw[e]at hi2;cases hi2
    rw[Ea,As hi2,As hb2]at hnx
    have hs1:∀ x,(l2.set ((i:Nat):Int).toNat x)≠[]:=fun x e=>by
     have:=congrArg List.length e
     rw[List.length_set]at this
     exact hne (List.eq_nil_of_length_eq_zero this)
    by_cases hx:(l2[(cr[((m:Nat):Int).toNat]'hm0).toNat]'hb2)<(l2[((i:Nat):Int).toNat]'hi2)
    ·have g:decide ((l2[(cr[((m:Nat):Int).toNat]'hm0).toNat]'hb2)<(l2[((i:Nat):Int).toNat]'hi2))=true:=decide_eq_true hx
     rw[if_pos hx]at hnx
     have hb3:(cr[((m:Nat):Int).toNat]'hm0).toNat<(l2.set ((i:Nat):Int).toNat (l2[(cr[((m:Nat):Int).toNat]'hm0).toNat]'hb2)).length:=by rw[List.length_set];exact hb2
     refine T ?_
     refine⟨_,Y,Y,?_⟩
     refine T ?_
     refine⟨_,Y,Y,?_⟩
     refine T ?_
     exact Ae (m+1) [] hmt z_ ⟨⟨Y,Y,Y,Y,Y,Y,Y,Y,Y,Y,Y,Y,Y,Y,q_⟩,⟨.inl (congrArg (Ob.row 1 Aa) hnx),Y,q_⟩,Y,Y⟩
    ·have g:decide ((l2[(cr[((m:Nat):Int).toNat]'hm0).toNat]'hb2)<(l2[((i:Nat):Int).toNat]'hi2))=false:=decide_eq_false hx
     rw[if_neg hx]at hnx
     have hb3:(cr[((m:Nat):Int).toNat]'hm0).toNat<(l2.set ((i:Nat):Int).toNat (l2[((i:Nat):Int).toNat]'hi2)).length:=by rw[List.length_set];exact hb2
     refine T ?_
     refine⟨_,Y,Y,?_⟩
     refine T ?_
     refine⟨_,Y,Y,?_⟩
     refine T ?_
     exact Ae (m+1) [] hmt z_ ⟨⟨Y,Y,Y,Y,Y,Y,Y,Y,Y,Y,Y,Y,Y,Y,q_⟩,⟨.inl (congrArg (Ob.row 1 Aa) hnx),Y,q_⟩,Y,Y⟩
   ·have hme:m=cr.length:=qB h
    clear h
    rw[hme,List.take_length,← hes]
    refine T ?_
    exact Ae (i+1) [] hit z_ U
  ·have hie:i=n.domains.length:=qB h
   clear h
   have hnx:Hz l0 (L8 n i)=Ep (L9 n) (k+1) (B8 n.domains.length):=by rw[hrs,hie];rfl
   rw[hnx]
   refine T ?_
   exact Ae (k+1) [] hlt z_ U
 ·have hke:k=n.domains.length:=qB h
  clear h
  rw[hke]
  refine Ac 1000 Y ?_
  refine T ?_
  exact D
theorem Akh (n:Net) (hn:n.Fin) (hr:Ah n=true):Sy.Spec Tryz.prog 141 [Aj n] [] (.sl 1 Aa (U0 n)) []:=cT F141 Tryz.ntmps141 fun F hF=>by
 have q:=Aki n hn hr
 refine T ?_
 refine A6 1 8 (Aj n) Y Y Y ?_
 refine C q F225 ?_
 exact D
theorem Z4:∀ (l:List Int) (m x:Int),Hc m (l++[x])=min (Hc m l) x
 | [],_,_=>rfl
 | y::l,m,x=>by
  show Hc (min m y) (l++[x])=_
  rw[Z4 l];rfl
theorem Am3 (n:Net) (hn:n.Fin) (i:Nat) (hi:i<n.domains.length):Sy.Spec Tryz.prog 143 [Aj n,Aa i] [] (Aa (Hc (i:Int) (n.domains[((i:Nat):Int).toNat]'hi).peers)) []:=cT F143 Tryz.ntmps143 fun F hF=>by
 have hi0:((i:Nat):Int).toNat<n.domains.length:=hi
 have hpl:(n.domains[((i:Nat):Int).toNat]'hi0).peers.length<2147483648:=hn.peers _ (List.getElem_mem hi0)
 refine T ?_
 refine A6 2 8 (Aj n) Y Y Y ?_
 refine Au (fun j:Nat=>j≤(n.domains[((i:Nat):Int).toNat]'hi0).peers.length) (fun j=>[(1,Aa i),(2,.ref 8 (Aj n) 0),(5,Aa (Hc (i:Int) ((n.domains[((i:Nat):Int).toNat]'hi0).peers.take j))),(6,Aa j)]) (fun _=>[]) (fun j=>(n.domains[((i:Nat):Int).toNat]'hi0).peers.length-j) 0 [] z_ U ?_
 intro j hj
 refine T ?_
 refine⟨fun h=>?_,fun h=>?_⟩
 ·have hlt:j<(n.domains[((i:Nat):Int).toNat]'hi0).peers.length:=qA h
  have hj0:((j:Nat):Int).toNat<(n.domains[((i:Nat):Int).toNat]'hi0).peers.length:=hlt
  clear h
  have hnx:Hc (i:Int) ((n.domains[((i:Nat):Int).toNat]'hi0).peers.take (j+1))=min (Hc (i:Int) ((n.domains[((i:Nat):Int).toNat]'hi0).peers.take j)) ((n.domains[((i:Nat):Int).toNat]'hi0).peers[((j:Nat):Int).toNat]'hj0):=by
   rw[List.take_succ_eq_append_getElem hlt,Z4];rfl
  generalize Hc (i:Int) ((n.domains[((i:Nat):Int).toNat]'hi0).peers.take j)=m at *
  by_cases hx:((n.domains[((i:Nat):Int).toNat]'hi0).peers[((j:Nat):Int).toNat]'hj0)<m
  ·have g:decide (((n.domains[((i:Nat):Int).toNat]'hi0).peers[((j:Nat):Int).toNat]'hj0)<m)=true:=decide_eq_true hx
   rw[Int.min_eq_right z_]at hnx
   refine T ?_
   exact Ae (j+1) [] hlt z_ ⟨⟨Y,Y,Y,Y,congrArg Aa hnx,Y,Y,Y,q_⟩,q_,Y,Y⟩
  ·have g:decide (((n.domains[((i:Nat):Int).toNat]'hi0).peers[((j:Nat):Int).toNat]'hj0)<m)=false:=decide_eq_false hx
   rw[Int.min_eq_left z_]at hnx
   refine T ?_
   exact Ae (j+1) [] hlt z_ ⟨⟨Y,Y,Y,Y,congrArg Aa hnx,Y,Y,Y,q_⟩,q_,Y,Y⟩
 ·have hje:j=(n.domains[((i:Nat):Int).toNat]'hi0).peers.length:=qB h
  clear h
  rw[hje,List.take_length]
  refine T ?_
  exact D
theorem Acm (s:List Int × List Int) (e:Int × Int):(B9 s e).1.length≤s.1.length+1∧(B9 s e).2.length≤s.2.length+1:=by
 have h2:(B9 s e).2.length≤s.2.length+1:=by
  show (if inB s.1 e.1=true∧inB s.2 e.2=false then s.2++[e.2] else s.2).length≤_
  split<;>simp
 refine⟨?_,h2⟩
 show (if inB (B9 s e).2 e.2=true∧inB s.1 e.1=false then s.1++[e.1] else s.1).length≤_
 split<;>simp
theorem Lo:∀ (l:List (Int × Int)) (s:List Int × List Int),(Bw l s).1.length≤s.1.length+l.length∧(Bw l s).2.length≤s.2.length+l.length
 | [],s=>⟨by simp[Bw],by simp[Bw]⟩
 | e::l,s=>by
  obtain ⟨h1,h2⟩:=Acm s e
  obtain ⟨h3,h4⟩:=Lo l (B9 s e)
  rw[Bw,List.foldl_cons]
  rw[Bw]at h3 h4
  rw[List.length_cons]
  exact⟨by omega,by omega⟩
theorem Qq (ab:List (Int × Int)) (s:List Int × List Int):∀ k,(B0 ab k s).1.length≤s.1.length+k * ab.length∧(B0 ab k s).2.length≤s.2.length+k * ab.length
 | 0=>⟨by simp[B0],by simp[B0]⟩
 | k+1=>by
  obtain ⟨h1,h2⟩:=Qq ab s k
  obtain ⟨h3,h4⟩:=Lo ab (B0 ab k s)
  rw[E3,Nat.add_mul,Nat.one_mul]
  exact⟨by omega,by omega⟩
theorem Jh {α β:Type} {s:α × β} {a:α} {b:β} (h:s=(a,b)):s.1=a∧s.2=b:=by rw[h];exact⟨rfl,rfl⟩
theorem Aft {P M:List Int} {x y:Int} (b1:inB P x=true) (b2:inB M y=false):B9 (P,M) (x,y)=(P,M++[y]):=by simp[B9,b1,b2]
theorem Afs {P M:List Int} {x y:Int} (b1:inB P x=true) (b2:inB M y=true):B9 (P,M) (x,y)=(P,M):=by simp[B9,b1,b2]
theorem Afv {P M:List Int} {x y:Int} (b1:inB P x=false) (b2:inB M y=false):B9 (P,M) (x,y)=(P,M):=by simp[B9,b1,b2]
theorem Afu {P M:List Int} {x y:Int} (b1:inB P x=false) (b2:inB M y=true):B9 (P,M) (x,y)=(P++[x],M):=by simp[B9,b1,b2]
theorem Apv (ab:List (Int × Int)) (part mesh:Int) (hl:ab.length≤48):Sy.Spec Tryz.prog 142 [.sl 1 Aa (ab.map (·.1)),.sl 1 Aa (ab.map (·.2)),Aa part,Aa mesh] [] (Ab (wayJ ab part mesh)) []:=cT F142 Tryz.ntmps142 fun F hF=>by
 have hA:(ab.map (fun x:Int × Int=>x.1)).length=ab.length:=List.length_map _
 have hB:(ab.map (fun x:Int × Int=>x.2)).length=ab.length:=List.length_map _
 have hres:=wayJ.eq_1 ab part mesh
 generalize wayJ ab part mesh=res at *
 refine T ?_
 refine De 14 Aa [part] Y Y ?_
 refine C4 10 901 1 Aa Y Y ?_
 refine Au (fun k:Nat=>k≤2 * ab.length+1) (fun k=>[(0,.sl 1 Aa (ab.map (·.1))),(1,.sl 1 Aa (ab.map (·.2))),(3,Aa mesh),(9,.osl 1014),(10,.osl 1010),(11,Aa k)]) (fun k=>[(1014,.row 1 Aa (B0 ab k ([part],[])).1),(1010,.row 1 Aa (B0 ab k ([part],[])).2)]) (fun k=>2 * ab.length+1-k) 0 [(1014,14),(1010,901)] z_ U ?_
 intro k hk
 have hrs:=E3 ab k ([part],[])
 obtain ⟨l1,l2⟩:=Qq ab ([part],[]) k
 have hkl:k * ab.length≤97 * 48:=Nat.mul_le_mul z_ hl
 simp only[List.length_singleton,List.length_nil]at l1 l2
 refine T ?_
 refine⟨fun h=>?_,fun h=>?_⟩
 ·have hlt:k<2 * ab.length+1:=qA h
  clear h
  generalize B0 ab k ([part],[])=s0 at *
  refine T ?_
  refine Au (fun i:Nat=>i≤ab.length) (fun i=>[(0,.sl 1 Aa (ab.map (·.1))),(1,.sl 1 Aa (ab.map (·.2))),(3,Aa mesh),(9,.osl 1014),(10,.osl 1010),(11,Aa k),(12,Aa i)]) (fun i=>[(1014,.row 1 Aa (Bw (ab.take i) s0).1),(1010,.row 1 Aa (Bw (ab.take i) s0).2)]) (fun i=>ab.length-i) 0 [] z_ U ?_
  intro i hi
  obtain ⟨l3,l4⟩:=Lo (ab.take i) s0
  rw[List.length_take]at l3 l4
  refine T ?_
  refine⟨fun h=>?_,fun h=>?_⟩
  ·have hit:i<ab.length:=qA h
   have hiA:((i:Nat):Int).toNat<(ab.map (fun x:Int × Int=>x.1)).length:=by rw[hA];exact hit
   have hiB:((i:Nat):Int).toNat<(ab.map (fun x:Int × Int=>x.2)).length:=by rw[hB];exact hit
   clear h
   have hnx:Bw (ab.take (i+1)) s0=B9 (Bw (ab.take i) s0) ((ab.map (fun x:Int × Int=>x.1))[((i:Nat):Int).toNat]'hiA,(ab.map (fun x:Int × Int=>x.2))[((i:Nat):Int).toNat]'hiB):=by
    rw[List.take_succ_eq_append_getElem hit,Bw,List.foldl_append]
    simp only[List.foldl_cons,List.foldl_nil,List.getElem_map]
    rfl
   generalize Bw (ab.take i) s0=s at *
   obtain ⟨P,M⟩:=s
   dsimp only at l3 l4 hnx
   have q1:=Ih P ((ab.map (fun x:Int × Int=>x.1))[((i:Nat):Int).toNat]'hiA) (by show P.length<_;omega)
   have q2:=fun (L:List Int) (h:At L)=>Ih L ((ab.map (fun x:Int × Int=>x.2))[((i:Nat):Int).toNat]'hiB) h
   have hin:=fun L:List Int=>Ajg (l:=L) (x:=(ab.map (fun x:Int × Int=>x.2))[((i:Nat):Int).toNat]'hiB) (y:=(ab.map (fun x:Int × Int=>x.2))[((i:Nat):Int).toNat]'hiB)
   have qM:=q2 M (by show M.length<_;omega)
   have qM2:=q2 (M++[((ab.map (fun x:Int × Int=>x.2))[((i:Nat):Int).toNat]'hiB)]) (by show (M++[((ab.map (fun x:Int × Int=>x.2))[((i:Nat):Int).toNat]'hiB)]).length<_;rw[List.length_append,List.length_singleton];omega)
   rw[(hin M).2 (.inr rfl)]at qM2
   cases b1:inB P ((ab.map (fun x:Int × Int=>x.1))[((i:Nat):Int).toNat]'hiA) with
   | true =>
    rw[b1]at q1
    cases b2:inB M ((ab.map (fun x:Int × Int=>x.2))[((i:Nat):Int).toNat]'hiB) with
    | false =>
     rw[b2]at qM
     have hst:B9 (P,M) (((ab.map (fun x:Int × Int=>x.1))[((i:Nat):Int).toNat]'hiA),((ab.map (fun x:Int × Int=>x.2))[((i:Nat):Int).toNat]'hiB))=(P,M++[((ab.map (fun x:Int × Int=>x.2))[((i:Nat):Int).toNat]'hiB)]):=Aft b1 b2
     rw[hst]at hnx
     refine T ?_
     refine X (Bu [1014] Y F226 q1 (.cons (.row Y Y) (.cons (.refl _) .nil)) Y Y) ?_
     refine X (Bu [1010] Y F226 qM (.cons (.row Y Y) (.cons (.refl _) .nil)) Y Y) ?_
     refine X (Ak Γ.toTy 49 rfl rfl rfl rfl rfl (.row rfl) (.lit (e:=Aa) (l:=[((ab.map (fun x:Int × Int=>x.2))[((i:Nat):Int).toNat]'hiB)]) rfl rfl) (by intro k hk;cases hk;decide) (by simp only[List.length_singleton];omega) (by simp only[List.length_singleton];omega)) ?_
     refine X (Bu [49] Y F226 qM2 (.cons (.row Y Y) (.cons (.refl _) .nil)) Y Y) ?_
     refine X (Bu [1014] Y F226 q1 (.cons (.row Y Y) (.cons (.refl _) .nil)) Y Y) ?_
     exact Ae (i+1) [(1010,49)] hit z_ ⟨⟨Y,Y,Y,Y,Y,Y,Y,Y,Y,Y,Y,Y,Y,Y,q_⟩,⟨.inl (congrArg (Ob.row 1 Aa) (Jh hnx).1),Y,.inl (congrArg (Ob.row 1 Aa) (Jh hnx).2),Y,q_⟩,Y,Y⟩
    | true =>
     rw[b2]at qM
     have hst:B9 (P,M) (((ab.map (fun x:Int × Int=>x.1))[((i:Nat):Int).toNat]'hiA),((ab.map (fun x:Int × Int=>x.2))[((i:Nat):Int).toNat]'hiB))=(P,M):=Afs b1 b2
     rw[hst]at hnx
     refine T ?_
     refine X (Bu [1014] Y F226 q1 (.cons (.row Y Y) (.cons (.refl _) .nil)) Y Y) ?_
     refine X (Bu [1010] Y F226 qM (.cons (.row Y Y) (.cons (.refl _) .nil)) Y Y) ?_
     refine X (Bu [1010] Y F226 qM (.cons (.row Y Y) (.cons (.refl _) .nil)) Y Y) ?_
     refine X (Bu [1014] Y F226 q1 (.cons (.row Y Y) (.cons (.refl _) .nil)) Y Y) ?_
     exact Ae (i+1) [] hit z_ ⟨⟨Y,Y,Y,Y,Y,Y,Y,Y,Y,Y,Y,Y,Y,Y,q_⟩,⟨.inl (congrArg (Ob.row 1 Aa) (Jh hnx).1),Y,.inl (congrArg (Ob.row 1 Aa) (Jh hnx).2),Y,q_⟩,Y,Y⟩
   | false =>
    rw[b1]at q1
    cases b2:inB M ((ab.map (fun x:Int × Int=>x.2))[((i:Nat):Int).toNat]'hiB) with
    | false =>
     rw[b2]at qM
     have hst:B9 (P,M) (((ab.map (fun x:Int × Int=>x.1))[((i:Nat):Int).toNat]'hiA),((ab.map (fun x:Int × Int=>x.2))[((i:Nat):Int).toNat]'hiB))=(P,M):=Afv b1 b2
     rw[hst]at hnx
     refine T ?_
     refine X (Bu [1014] Y F226 q1 (.cons (.row Y Y) (.cons (.refl _) .nil)) Y Y) ?_
     refine X (Bu [1010] Y F226 qM (.cons (.row Y Y) (.cons (.refl _) .nil)) Y Y) ?_
     exact Ae (i+1) [] hit z_ ⟨⟨Y,Y,Y,Y,Y,Y,Y,Y,Y,Y,Y,Y,Y,Y,q_⟩,⟨.inl (congrArg (Ob.row 1 Aa) (Jh hnx).1),Y,.inl (congrArg (Ob.row 1 Aa) (Jh hnx).2),Y,q_⟩,Y,Y⟩
    | true =>
     rw[b2]at qM
     have hst:B9 (P,M) (((ab.map (fun x:Int × Int=>x.1))[((i:Nat):Int).toNat]'hiA),((ab.map (fun x:Int × Int=>x.2))[((i:Nat):Int).toNat]'hiB))=(P++[((ab.map (fun x:Int × Int=>x.1))[((i:Nat):Int).toNat]'hiA)],M):=Afu b1 b2
     rw[hst]at hnx
     refine T ?_
     refine X (Bu [1014] Y F226 q1 (.cons (.row Y Y) (.cons (.refl _) .nil)) Y Y) ?_
     refine X (Bu [1010] Y F226 qM (.cons (.row Y Y) (.cons (.refl _) .nil)) Y Y) ?_
     refine X (Bu [1014] Y F226 q1 (.cons (.row Y Y) (.cons (.refl _) .nil)) Y Y) ?_
     refine X (Ak Γ.toTy 71 rfl rfl rfl rfl rfl (.row rfl) (.lit (e:=Aa) (l:=[((ab.map (fun x:Int × Int=>x.1))[((i:Nat):Int).toNat]'hiA)]) rfl rfl) (by intro k hk;cases hk;decide) (by simp only[List.length_singleton];omega) (by simp only[List.length_singleton];omega)) ?_
     exact Ae (i+1) [(1014,71)] hit z_ ⟨⟨Y,Y,Y,Y,Y,Y,Y,Y,Y,Y,Y,Y,Y,Y,q_⟩,⟨.inl (congrArg (Ob.row 1 Aa) (Jh hnx).1),Y,.inl (congrArg (Ob.row 1 Aa) (Jh hnx).2),Y,q_⟩,Y,Y⟩
  ·have hie:i=ab.length:=qB h
   clear h
   rw[hie,List.take_length,← hrs]
   refine T ?_
   exact Ae (k+1) [] hlt z_ U
 ·have hke:k=2 * ab.length+1:=qB h
  clear h
  rw[hke]at l1 l2 ⊢
  rw[hke]at hkl
  have q:=Ih (B0 ab (2 * ab.length+1) ([part],[])).2 mesh (by show _<2147483648;omega)
  rw[← hres]at q
  refine T ?_
  refine X (Bu [1010] Y F226 q (.cons (.row Y Y) (.cons (.refl _) .nil)) Y Y) ?_
  exact D
theorem Alj (n:Net):(U0 n).length=n.domains.length:=by
 rw[U0,Sc,(Dy _).2]
theorem Am4 (n:Net) (hn:n.Fin) (hr:Ah n=true):Sy.Spec Tryz.prog 40 [Aj n] [] (.tup [Aa (loopT n).1,Ab (loopT n).2]) []:=cT F40 Tryz.ntmps40 fun F hF=>by
 have qL:=Akh n hn hr
 have hres:=Agv hr
 have hpl:=Alj n
 have hfew:=(Ae9 hr).2.2.2.1
 generalize loopT n=res at *
 generalize U0 n=part at *
 refine T ?_
 refine A6 1 8 (Aj n) Y Y Y ?_
 refine C qL F141 ?_
 refine C4 5 900 1 Aa Y Y ?_
 refine C4 6 901 1 Aa Y Y ?_
 refine Au (fun x:Nat × List (Int × Int)=>x.1≤n.domains.length∧x.2.length≤x.1∧Vl part x.2 x.1 (n.domains.drop x.1)=res) (fun x=>[(1,.ref 8 (Aj n) 0),(4,.sl 1 Aa part),(5,.osl 1900),(6,.osl 1901),(7,Aa x.1)]) (fun x=>[(1900,.row 1 Aa (x.2.map (·.1))),(1901,.row 1 Aa (x.2.map (·.2)))]) (fun x=>n.domains.length-x.1) (0,[]) [(1900,900),(1901,901)] ⟨by omega,by simp,hres⟩ U ?_
 rintro ⟨i,ab⟩ ⟨h1,h2,hI⟩
 dsimp only at h1 h2 hI ⊢
 have hA:(ab.map (fun x:Int × Int=>x.1)).length=ab.length:=List.length_map _
 have hB:(ab.map (fun x:Int × Int=>x.2)).length=ab.length:=List.length_map _
 refine T ?_
 refine⟨fun h=>?_,fun h=>?_⟩
 ·have hlt:i<n.domains.length:=qA h
  have hi0:((i:Nat):Int).toNat<n.domains.length:=hlt
  have hip:((i:Nat):Int).toNat<part.length:=by rw[hpl];exact hlt
  clear h
  have hpp:(n.domains[((i:Nat):Int).toNat]'hi0).peers.length<2147483648:=hn.peers _ (List.getElem_mem hi0)
  rw[List.drop_eq_getElem_cons hlt,Vl,As hip]at hI
  have qm:=Am3 n hn i hlt
  have qw:=Apv ab (part[((i:Nat):Int).toNat]'hip) (Hc (i:Int) (n.domains[((i:Nat):Int).toNat]'hi0).peers) z_
  have hde:n.domains[i]=(n.domains[((i:Nat):Int).toNat]'hi0):=rfl
  rw[hde]at hI
  by_cases hpe:(n.domains[((i:Nat):Int).toNat]'hi0).peers=[]
  ·have g:(((n.domains[((i:Nat):Int).toNat]'hi0).peers.length:Int) == 0)=true:=by rw[hpe];rfl
   rw[if_pos hpe]at hI
   refine T ?_
   exact Ae (i+1,ab) [] ⟨hlt,by dsimp only;omega,hI⟩ (by dsimp only;omega) U
  have g:(((n.domains[((i:Nat):Int).toNat]'hi0).peers.length:Int) == 0)=false:=by
   rw[beq_eq_false_iff_ne]
   have:=List.length_pos_iff.2 hpe
   omega
  rw[if_neg hpe]at hI
  cases hw:wayJ ab (part[((i:Nat):Int).toNat]'hip) (Hc (i:Int) (n.domains[((i:Nat):Int).toNat]'hi0).peers) with
  | true =>
   rw[hw]at qw
   rw[hw,if_pos rfl]at hI
   subst hI
   refine T ?_
   refine C qm F143 ?_
   refine Xd (Bu [1900,1901] Y F142 qw (.cons (.row Y Y) (.cons (.row Y Y) (.cons (.refl _) (.cons (.refl _) .nil)))) Y Y) ?_
   exact D
  | false =>
   rw[hw]at qw
   rw[hw,if_neg y_]at hI
   refine T ?_
   refine C qm F143 ?_
   refine Xd (Bu [1900,1901] Y F142 qw (.cons (.row Y Y) (.cons (.row Y Y) (.cons (.refl _) (.cons (.refl _) .nil)))) Y Y) ?_
   refine X (Ak Γ.toTy 47 rfl rfl rfl rfl rfl (.row rfl) (.lit (e:=Aa) (l:=[(part[((i:Nat):Int).toNat]'hip)]) rfl rfl) (by intro k hk;cases hk;decide) (by simp only[List.length_singleton];omega) (by simp only[List.length_singleton];omega)) ?_
   refine C qm F143 ?_
   refine X (Ak Γ.toTy 53 rfl rfl rfl rfl rfl (.row rfl) (.lit (e:=Aa) (l:=[Hc (i:Int) (n.domains[((i:Nat):Int).toNat]'hi0).peers]) rfl rfl) (by intro k hk;cases hk;decide) (by simp only[List.length_singleton];omega) (by simp only[List.length_singleton];omega)) ?_
   exact Ae (i+1,ab++[((part[((i:Nat):Int).toNat]'hip),Hc (i:Int) (n.domains[((i:Nat):Int).toNat]'hi0).peers)]) [(1900,47),(1901,53)] ⟨hlt,by dsimp only;rw[List.length_append,List.length_singleton];omega,hI⟩ (by dsimp only;omega)
    ⟨⟨rfl,rfl,rfl,rfl,rfl,rfl,rfl,rfl,rfl,rfl,trivial⟩,⟨.inl (congrArg (Ob.row 1 Aa) (List.map_append)),rfl,.inl (congrArg (Ob.row 1 Aa) (List.map_append)),rfl,trivial⟩,rfl,rfl⟩
 ·have hie:i=n.domains.length:=qB h
  clear h
  rw[hie,List.drop_length,Vl]at hI
  subst hI
  refine T ?_
  exact D
end Go.Sy.YtjenpnjajjplkaaGreatDoor
