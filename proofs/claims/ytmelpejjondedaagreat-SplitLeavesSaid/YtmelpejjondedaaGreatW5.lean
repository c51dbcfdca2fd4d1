/-
  K26 Sy24 T1 T2 T3 T4 V6 V7 V8 T5 T6 T7 T8 T9 T10 T11 T12 T13 T15 T16 T17 T14 T19 T21 Z0 Z1 Z2: parts of a proof, joined by program.
-/
import Derived.Test.YtmelpejjondedaaGreatW4
import Derived.Test.YtmelpejjondedaaGreatW3
namespace Go.Sy.YtmelpejjondedaaGreat
open Go.Proofs
theorem Is (l:List Nat):(Co l).length=2 * l.length:=by
 induction l with
 | nil=>rfl
 | cons a l ih=>simp only[Co,List.flatMap_cons,List.length_append,List.length_cons,List.length_nil]at ih ⊢;omega
theorem E8 (l:List Nat) (n:Nat):Co (l++[n])=Co l++[UInt8.ofNat (n / 256),UInt8.ofNat n]:=by simp[Co]
theorem I7 (b:List UInt8) (k m:Nat):numAt b k m<256 ^ m:=by
 have h:=Jk _ ((b.drop k).take m) rfl
 have h2:((b.drop k).take m).length≤m:=by rw[List.length_take];omega
 exact Nat.lt_of_lt_of_le h (Nat.pow_le_pow_right qx h2)
theorem Mq {b:List UInt8} {k:Nat} (h:k+2≤b.length):numAt b k 2=(b[k]'qn).toNat * 256+(b[k+1]'qn).toNat:=by
 rw[numAt,M6 h,Adx]
theorem Y1 {b:List UInt8} {k:Nat} (h:k<b.length):bAt b k=b[k]:=Ac7 h
theorem Ahg {b:List UInt8} {k:Nat} (h:k+3≤b.length):(b.drop k).take 3=[b[k]'qn,b[k+1]'qn,b[k+2]'qn]:=by
 rw[List.drop_eq_getElem_cons qn,List.drop_eq_getElem_cons (i:=k+1) qn,List.drop_eq_getElem_cons (i:=k+2) qn]
 rfl
theorem Ahf {b:List UInt8} {k:Nat} (h:k+4≤b.length):(b.drop k).take 4=[b[k]'qn,b[k+1]'qn,b[k+2]'qn,b[k+3]'qn]:=by
 rw[List.drop_eq_getElem_cons qn,List.drop_eq_getElem_cons (i:=k+1) qn,List.drop_eq_getElem_cons (i:=k+2) qn,List.drop_eq_getElem_cons (i:=k+3) qn]
 rfl
theorem numAt3 {b:List UInt8} {k:Nat} (h:k+3≤b.length):numAt b k 3=((b[k]'qn).toNat * 256+(b[k+1]'qn).toNat) * 256+(b[k+2]'qn).toNat:=by
 rw[numAt,Ahg h]
 simp[Hn]
theorem numAt4 {b:List UInt8} {k:Nat} (h:k+4≤b.length):numAt b k 4=numAt b k 2 * 65536+numAt b (k+2) 2:=by
 have e:b[k+2+1]'qn=b[k+3]'qn:=rfl
 rw[numAt,Ahf h,Mq qn,Mq qn,e]
 simp[Hn]
 omega
theorem Ii (f:FrameM):(Vs f).length=14+f.body.length:=by
 simp[Vs,frame,Cs]
 omega
theorem Me (p:PacketM) (s:Nat):(Hi p s).length=20:=by rw[Hi,Is];rfl
theorem Kr (p:PacketM):(Tb p).length=20+p.body.length:=by rw[Tb,List.length_append,Me]
theorem Zd (s d:Nat) (b:List UInt8):(Aha s d b).length=8+b.length:=by rw[Aha,List.length_append,Is];rfl
theorem Hw (v:Nat):(J7 v).length=8:=rfl
theorem C5:FrameOK noF:=⟨by decide,by decide,by decide,by decide⟩
theorem Uz (ip:Nat) (h:ip<4294967296):Hl ip<281474976710656:=by rw[Hl,Int.toNat_natCast];omega
theorem Vz (n:Net) (port dom:Int) (f:FrameM) (hf:FrameOK f):(leaveT n port dom f).1.length≤1518:=by
 have h4:=hf.body
 unfold leaveT
 split
 ·simp
 split
 ·simp
 split
 ·simp
 split
 ·rw[Ii];omega
 split
 ·simp
 ·rw[Ii]
  rename_i h
  have h2:(tagT f (nth n.domains dom).vlan).2=0:=Classical.byContradiction h
  unfold tagT at h2 ⊢
  split
  ·rw[if_pos (by assumption)]at h2;cases h2
  rw[if_neg (by assumption)]at h2
  split
  ·rw[if_pos (by assumption)]at h2;cases h2
  ·dsimp only
   simp
   omega
theorem Ux {b:List UInt8} (h:(ipTakeT b).2=0):PacketOK (ipTakeT b).1∧(ipTakeT b).1.body.length+20≤b.length:=by
 unfold ipTakeT at h ⊢
 split
 ·rw[if_pos (by assumption)]at h;cases h
 rw[if_neg (by assumption)]at h
 split
 ·rw[if_pos (by assumption)]at h;cases h
 rw[if_neg (by assumption)]at h
 split
 ·rw[if_pos (by assumption)]at h;cases h
 rw[if_neg (by assumption)]at h
 split
 ·rw[if_pos (by assumption)]at h;cases h
 rw[if_neg (by assumption)]at h
 split
 ·rw[if_pos (by assumption)]at h;cases h
 have l1:=(bAt b 1).toNat_lt
 have l8:=(bAt b 8).toNat_lt
 have l9:=(bAt b 9).toNat_lt
 have n4:=I7 b 4 2
 have n12:=I7 b 12 4
 have n16:=I7 b 16 4
 refine⟨⟨?_,?_,?_,?_,?_,?_⟩,?_⟩
 ·show (bAt b 1).toNat≤255;omega
 ·show numAt b 4 2≤65535;omega
 ·show (bAt b 8).toNat≤255;omega
 ·show (bAt b 9).toNat≤255;omega
 ·exact n12
 ·exact n16
 ·show ((b.take (numAt b 2 2)).drop 20).length+20≤b.length
  rw[List.length_drop,List.length_take]
  omega
theorem Alw {b:List UInt8} (h:(ipTakeT b).2≠0):(ipTakeT b).1=noP:=by
 unfold ipTakeT at h ⊢
 split
 ·rfl
 rw[if_neg (by assumption)]at h
 split
 ·rfl
 rw[if_neg (by assumption)]at h
 split
 ·rfl
 rw[if_neg (by assumption)]at h
 split
 ·rfl
 rw[if_neg (by assumption)]at h
 split
 ·rfl
 rw[if_neg (by assumption)]at h
 exact absurd E h
theorem Acn:PacketOK noP:=⟨by decide,by decide,by decide,by decide,by decide,by decide⟩
theorem Ac0 (p:PacketM) (s:Nat):((Hi p 0).set 10 (UInt8.ofNat (s / 256))).set 11 (UInt8.ofNat s)=Hi p s:=by
 simp only[Hi,Co,List.flatMap_cons,List.flatMap_nil,List.cons_append,List.nil_append,List.set_cons_succ,List.set_cons_zero]
theorem Ag2 (a b v:Nat) (f:FrameM) (ha:a<4294967296) (hb:b<4294967296):PacketOK (L2 a b v f):=⟨Nat.zero_le _,Nat.zero_le _,by show (64:Nat)≤255;decide,by show (17:Nat)≤255;decide,ha,hb⟩
theorem Hm (a b v:Nat) (f:FrameM):(L2 a b v f).body.length=30+f.body.length:=by
 simp only[L2,Zd,List.length_append,Hw,Ii];omega
theorem Xi (a b:Nat) (v:Int) (f:FrameM):(wrapT a b v f).1.length≤1514:=by
 unfold wrapT
 split
 ·simp
 split
 ·simp
 split
 ·simp
 ·simp only[frame,List.length_append,Cs,Kr,Hm,List.length_cons,List.length_nil];omega
theorem X7 (n:Net) (dom peer:Int) (f:FrameM):(meshT n dom peer f).1.length≤1514:=by
 unfold meshT
 split
 ·simp
 split
 ·simp
 ·exact Xi _ _ _ _
theorem Aka {b:List UInt8}:(udpTakeT b).2.2.1.length≤b.length:=by
 unfold udpTakeT
 repeat' split
 all_goals first | (simp;done) | (simp only[List.length_drop,List.length_take];omega)
theorem vniT_body {b:List UInt8}:(vniT b).2.1.length≤b.length:=by
 unfold vniT
 repeat' split
 all_goals first | (simp;done) | (simp only[List.length_drop];omega)
theorem Qz (b:List UInt8):PacketOK (outerT b).1∧(outerT b).1.body.length≤b.length:=by
 unfold outerT
 split
 ·exact⟨Acn,by simp[noP]⟩
 split
 ·exact⟨Acn,by simp[noP]⟩
 split
 ·exact⟨Acn,by simp[noP]⟩
 ·rename_i h1 h2 h3
  have h4:(takeF b).2=0:=Classical.byContradiction h1
  have h5:(ipTakeT (takeF b).1.body).2=0:=Classical.byContradiction h3
  obtain ⟨h6,h7⟩:=Ux h5
  refine⟨h6,?_⟩
  have h8:(takeF b).1.body.length≤b.length:=by
   unfold takeF
   repeat' split
   all_goals simp[noF]
  dsimp only
  omega
theorem Wz (b:List UInt8):FrameOK (Iz b).2.1∧0≤(Iz b).1:=by
 unfold Iz
 repeat' split
 all_goals first | exact⟨C5,Int.le_refl _⟩ | skip
 rename_i h1 h2 h3 h4 h5
 refine⟨Zf (Classical.byContradiction h4),?_⟩
 show 0≤(vniT (udpTakeT b).2.2.1).1
 unfold vniT
 repeat' split
 all_goals omega
theorem Tt (b:List UInt8):(Bp b).1<4294967296∧(Bp b).2.1<4294967296∧0≤(Bp b).2.2.1∧FrameOK (Bp b).2.2.2.1:=by
 unfold Bp
 split
 ·exact⟨Nat.zero_lt_succ _,Nat.zero_lt_succ _,Int.le_refl _,C5⟩
 split
 ·exact⟨Nat.zero_lt_succ _,Nat.zero_lt_succ _,Int.le_refl _,C5⟩
 ·exact⟨(Qz b).1.src,(Qz b).1.dst,(Wz _).2,(Wz _).1⟩
theorem W8 (n:Net) (port:Int) (f:FrameM) (hf:FrameOK f) (tg:Bool) (vid:Int):FrameOK (Ic n port f tg vid).2.1:=by
 unfold Ic
 split
 ·exact C5
 split
 ·exact C5
 ·exact hf
theorem Q8 (n:Net) (port:Int) (b:List UInt8):FrameOK (enterT n port b).2.1:=by
 unfold enterT
 split
 ·exact C5
 split
 ·exact C5
 rename_i h1 h2
 have h3:=Zf (Classical.byContradiction h2)
 split
 ·split
  ·exact C5
  ·rename_i h5
   exact W8 _ _ _ (Ahk h3 (Classical.byContradiction h5)) _ _
 ·exact W8 _ _ _ h3 _ _
theorem Aah (n:Net) (port:Int) (b:List UInt8):FrameOK (linkT n port b).2.2.1:=by
 unfold linkT
 split
 ·exact C5
 ·exact Q8 _ _ _
theorem Abb (n:Net) (b:List UInt8):FrameOK (comeT n b).2.2.1:=by
 unfold comeT
 split
 ·exact C5
 split
 ·exact C5
 split
 ·exact C5
 split
 ·exact C5
 ·exact(Tt b).2.2.2
theorem Ak8 (n:Net) (hm:n.Num) (irb:Int) (f:FrameM) (hin:∀ (d:Int),(lookT n irb d).2=true→0≤(lookT n irb d).1∧(lookT n irb d).1.toNat<n.irbs.length):FrameOK (hopT n irb f).2.1:=by
 unfold hopT
 split
 ·exact C5
 split
 ·exact C5
 split
 ·exact C5
 split
 ·exact C5
 split
 ·exact C5
 split
 ·exact C5
 rename_i h1 h2 h3 h4 h5 h6
 have hp:=(Ux (Classical.byContradiction h3)).1
 have hl:=hin ((ipTakeT f.body).1.dst:Int) (by simpa using h5)
 have ha:=hm.addr _ (List.getElem_mem hl.2)
 rw[← An hl.2]at ha
 refine⟨Uz _ hp.dst,?_,?_,?_⟩
 ·show Hl (nth n.irbs _).addr<_
  rw[Hl];omega
 ·show (2048:Nat)≤65535;decide
 ·show (Tb (Ac3 (ipTakeT f.body).1)).length≤1504
  rw[Kr]
  show 20+(ipTakeT f.body).1.body.length≤1504
  omega
end Go.Sy.YtmelpejjondedaaGreat
namespace Go.Sy
structure Meth (P:Program) (t:TypeId) (name:String) (f:FuncId) (pr:Bool) (e:TypeId):Prop where
 row:∃ i m,P.info? t=some i∧i.methods.find? (·.name == name)=some m∧m.path=#[]∧m.func=some (f,pr)
 under:P.underlying t=some (.pointer e)
theorem T3 {P:Program} {t:TypeId} {name:String} {f:FuncId} {e:TypeId} (hm:Meth P t name f true e) (w:World) (v:Value):(Go.method (P.types.size+Made.depth) t v name).run P w=.ok (f,v) w:=by
 obtain ⟨⟨i,m,h1,h2,h3,h4⟩,hu⟩:=hm
 show (Go.method (P.types.size+99+1) t v name).run P w=_
 rw[Go.method]
 simp only[Sem.run_bind,run_typeInfo w h1,Result.andThen_ok,h2,h3,Go.follow,Sem.run_pure,h4,Go.receiverAt,run_underlying hu,Go.Place.get]
theorem T1 {P:Program} {t:TypeId} {name:String} {f:FuncId} {e:TypeId} (hm:Meth P t name f false e) (w:World) (a:Addr) {v:Value} (hv:(loadVar e a).run P w=.ok v w):(Go.method (P.types.size+Made.depth) t (.pointer (some a)) name).run P w=.ok (f,v) w:=by
 obtain ⟨⟨i,m,h1,h2,h3,h4⟩,hu⟩:=hm
 show (Go.method (P.types.size+99+1) t (.pointer (some a)) name).run P w=_
 rw[Go.method]
 have he:(#[]:Array FieldStep).isEmpty=true:=rfl
 simp only[Sem.run_bind,run_typeInfo w h1,Result.andThen_ok,h2,h3,Go.follow,Sem.run_pure,h4,Go.receiverAt,run_underlying hu,Go.Place.get,he,if_true]
 have hs : ∀ n : String, (Builtin.ssaWrapNilChk_ #[t] t #[.pointer (some a), strVal "", strVal n]).run P w = .ok (.pointer (some a)) w := fun n => rfl
 simp only[hs,Result.andThen_ok,asAddr,Sem.run_pure,hv]
theorem Mj {P:Program} {o:Oper} {s:SS} {rd:List Nat} {f:FuncId} {fn:Func} {c:Code} {t e:TypeId} {name:String} {x:Operand} {xs:List Operand} {ts:Array TypeId} {y:SV} (hm:Meth P t name f true e) (hf:Fun P f fn c) (h:o.op=.call ⟨.invoke x name,xs.toArray,ts⟩) (hx:ev s x=.ifc t y) :
  J5 P o s rd f (y::xs.map (ev s)) :=
 fun κ a w hr _=>by
  have h1:=hr x (by simp[h,Op.operands,Call.operands])
  rw[hx]at h1
  simp only[Rd]at h1
  obtain ⟨u,e1,e2⟩:=h1
  refine⟨u::xs.map a.eval,?_,?_⟩
  ·have hcall:=Ho hf (u::xs.map a.eval).toArray w
   have hmeth:=T3 hm w u
   simp only[execOp,h,resolve,invoke,e1,Sem.run_bind,Sem.run_pure,Result.andThen_ok]at hcall ⊢
   simp only[callMethod]
   rw[← hcall]
   have htk:(xs.map a.eval).take xs.length=xs.map a.eval:=List.take_of_length_le qy
   simp[hmeth,Sem.run_bind,htk]
  ·simp only[RdL]
   exact⟨_,_,E,e2,Ir xs (fun y hy=>hr y (by simp[h,Op.operands,Call.operands,hy]))⟩
theorem A5 {P:Program} (Γ:Ty P) {o:Oper} {s:SS} {f:FuncId} {fn:Func} {c:Code} {t e:TypeId} {ti:TI} {name:String} {x:Operand} {xs:List Operand} {ts:Array TypeId} {k off:Nat} {l:List SV} {z:SV} (hm:Meth P t name f false e) (hf:Fun P f fn c) (h:o.op=.call ⟨.invoke x name,xs.toArray,ts⟩)
  (hx:ev s x=.ifc t (.ptr k off)) (hk:s.h k=.box l) (ht:Γ.get e=some ti) (hz:H7 ti l off=some z):J5 P o s [k] f (z::xs.map (ev s)) :=
 fun κ a w hr ho=>by
  have h1:=hr x (by simp[h,Op.operands,Call.operands])
  rw[hx]at h1
  simp only[Rd]at h1
  obtain ⟨u,e1,e2⟩:=h1
  have hob:=ho k qy
  rw[hk]at hob
  obtain ⟨b,f1,f2⟩:=hob.cellsAt
  rw[f1]at e2
  simp only at e2
  subst e2
  obtain ⟨v,g1,g2⟩:=Hz (P:=P) Γ ht f2 hz
  rw[Nat.zero_add]at g1
  refine⟨v::xs.map a.eval,?_,?_⟩
  ·have hcall:=Ho hf (v::xs.map a.eval).toArray w
   have hmeth:=T1 hm w ⟨b,off,none⟩ g1
   simp only[execOp,h,resolve,invoke,e1,Sem.run_bind,Sem.run_pure,Result.andThen_ok]at hcall ⊢
   simp only[callMethod]
   rw[← hcall]
   have htk:(xs.map a.eval).take xs.length=xs.map a.eval:=List.take_of_length_le qy
   simp[hmeth,Sem.run_bind,htk]
  ·simp only[RdL]
   exact⟨_,_,E,g2,Ir xs (fun y hy=>hr y (by simp[h,Op.operands,Call.operands,hy]))⟩
theorem Sx {P:Program} (Γ:Ty P) {o:Oper} {s:SS} {x:Operand} {xt t:TypeId} {ti:TI} {y:SV} {ok:Bool} (h:o.op=.typeAssert x xt t ok) (hx:ev s x=.ifc t y) (ht:Γ.get t=some ti) (hk:ti.k matches .bool | .int _ | .string | .slice .. | .struct _ | .ptr | .func) :
  Good P o s ⟨if ok then .tup [y,Ad true] else y,[],[]⟩ :=
 Good.pure fun κ a w _ hr _=>by
  have h1:=hr x (by simp[h,Op.operands])
  rw[hx]at h1
  simp only[Rd]at h1
  obtain ⟨u,e1,e2⟩:=h1
  obtain ⟨d,info,z,k1,k2,_⟩:=Γ.ok t ti ht
  have hni:∀ ms,d≠.interface ms:=by
   obtain ⟨k,n,zz⟩:=ti
   intro ms hd
   subst hd
   cases k<;>simp_all[TK.ok]
  have hrun:(Instr.typeAssert (.iface t u) xt t ok).run P w=.ok (if ok then .tuple #[u,.bool true] else u) w:=by
   cases d<;>first
    | exact absurd rfl (hni _)
    | (cases ok<;>simp[Instr.typeAssert,run_underlying k1])
  refine⟨if ok then .tuple #[u,.bool true] else u,by simp[execOp,h,e1,hrun],?_⟩
  cases ok
  ·exact e2
  ·simp only[if_true,Rd,RdL]
   exact⟨[u,.bool true],E,_,_,E,e2,_,_,E,by simp[Ad,Rd],E⟩
def Alv (P:Program) (t:TypeId) (name:String) (f:FuncId) (pr:Bool):Bool :=
 match P.info? t with
 | some i=>(match i.methods.find? (·.name == name) with
  | some m=>m.path.isEmpty && (match m.func with | some (g,b)=>Nat.beq g f && (b == pr) | none=>false)
  | none=>false)
 | none=>false
theorem Meth.of {P:Program} {t:TypeId} {name:String} {f:FuncId} {pr:Bool} {e:TypeId} (h:Alv P t name f pr=true) (hu:P.underlying t=some (.pointer e)):Meth P t name f pr e:=by
 refine⟨?_,hu⟩
 unfold Alv at h
 split at h
 ·rename_i i hi
  split at h
  ·rename_i m hm
   simp only[Bool.and_eq_true]at h
   obtain ⟨h1,h2⟩:=h
   split at h2
   ·rename_i g b hf
    simp only[Bool.and_eq_true,beq_iff_eq]at h2
    obtain ⟨h3,rfl⟩:=h2
    have h3:=Nat.eq_of_beq_eq_true h3
    subst h3
    exact⟨i,m,hi,hm,by simpa using h1,hf⟩
   ·cases h2
  ·cases h
 ·cases h
end Go.Sy
namespace Go.Sy.YtmelpejjondedaaGreat
open Go.Proofs
attribute [local irreducible] Go.Sy.G Go.Sy.DR
set_option maxRecDepth 20000
set_option maxHeartbeats 4000000
structure Item where
 (root cost dev:Int)
instance:Inhabited Item:=⟨⟨0,0,0⟩⟩
def A8 (x:Item):SV:=.agg [Aa x.root,Aa x.cost,Aa x.dev]
def Bo (x y:Item):Bool:=decide (x.root<y.root) || (x.root == y.root && decide (x.cost<y.cost))
theorem Qx (q:List Item):Sy.Spec Tryz.prog 234 [.sl 3 A8 q] [] (Aa q.length) []:=Ab Γ hm 100 F234 Tryz.ntmps234 rfl fun F hF=>by
 conv=>whnf
 exact Ac E (.cons .tmp .nil) E E
theorem H4 (q:List Item) (i j:Nat) (hi:i<q.length) (hj:j<q.length):Sy.Spec Tryz.prog 384 [.sl 3 A8 q,Aa i,Aa j] [] (Ad (Bo q[i] q[j])) []:=Ab Γ hm 100 F384 Tryz.ntmps384 rfl fun F hF=>by
 have e1:q[(i:Int).toNat]'qn=q[i]:=rfl
 have e2:q[(j:Int).toNat]'qn=q[j]:=rfl
 conv=>whnf
 (repeat' (first | (refine⟨fun h=>?_,fun h=>?_⟩<;>(repeat (first | simp only[decide_eq_true_eq]at h | simp only[decide_eq_false_iff_not]at h | simp only[beq_iff_eq]at h | simp only[beq_eq_false_iff_ne]at h))<;>((refine rd qq ?_);(conv=>whnf))) | (refine Ac rfl (.cons .tmp .nil) ?_ rfl) | (refine⟨qq,?_⟩;((conv=>whnf))) | (refine⟨by (omega),by (omega),?_⟩;((conv=>whnf)))))
 all_goals (refine congrArg Ad ?_;clear hF;grind [Bo])
theorem H3 (q:List Item) (i j:Nat) (hi:i<q.length) (hj:j<q.length):Sy.Spec Tryz.prog 387 [.osl 0,Aa i,Aa j] [(0,.row 3 A8 q)] (.tup []) [(0,.row 3 A8 ((q.set i q[j]).set j q[i]))]:=Ab Γ hm 100 F387 Tryz.ntmps387 rfl fun F hF=>by
 have e1:q[(i:Int).toNat]'qn=q[i]:=rfl
 have e2:q[(j:Int).toNat]'qn=q[j]:=rfl
 conv=>whnf
 refine⟨by omega,by omega,?_⟩
 conv=>whnf
 refine⟨E,by omega,?_⟩
 rw[e2]
 conv=>whnf
 refine⟨by omega,by omega,?_⟩
 conv=>whnf
 refine⟨E,by omega,?_⟩
 rw[e1]
 conv=>whnf
 refine⟨by omega,by omega,?_⟩
 conv=>whnf
 refine⟨E,by omega,q[j],E,E,?_⟩
 conv=>whnf
 refine⟨by omega,by simp;omega,?_⟩
 conv=>whnf
 refine⟨E,by simp;omega,q[i],E,E,?_⟩
 conv=>whnf
 refine⟨qq,?_⟩
 conv=>whnf
 exact Bg E .nil [] [(0,.row 3 A8 ((q.set i q[j]).set j q[i]))] (fun _ h=>h) E E ⟨Y,⟨.inl E,E,Y⟩,E,E⟩
theorem Ab7 (q:List Item) (x:Item) (hq:q.length<1000000):Sy.Spec Tryz.prog 386 [.ptr 0 0,.ifc 345 (A8 x)] [(0,.box [.osl 1]),(1,.row 3 A8 q)] (.tup []) [(0,.box [.osl 2]),(1,.non),(2,.row 3 A8 (q++[x]))]:=Ab Γ hm 100 F386 Tryz.ntmps386 rfl fun F hF=>by
 conv=>whnf
 refine Ah (Sx Γ.toTy E E E E) E E ?_
 (refine rg ?_;(conv=>whnf);refine aT ?_;refine rg ?_;conv=>whnf)
 refine Bs (Al Γ.toTy 18 E E E E E (.row E) (.lit (l:=[x]) E E) qy (by simp;omega) (by simp;omega)) qq E ?_
 refine rd qq ?_;conv=>whnf
 refine⟨qq,?_⟩
 conv=>whnf
 exact Bg E .nil [(2,18)] [(0,.box [.osl 2]),(1,.non),(2,.row 3 A8 (q++[x]))] (fun _ h=>h) E E ⟨Y,⟨.inl E,E,.inl E,E,.inl E,E,Y⟩,E,E⟩
theorem Afn (q:List Item) (hq:q≠[]) (hl:q.length<1000000):Sy.Spec Tryz.prog 385 [.ptr 0 0] [(0,.box [.osl 1]),(1,.row 3 A8 q)] (.ifc 345 (A8 (q.getLast hq))) [(0,.box [.osl 2]),(1,.non),(2,.row 3 A8 q.dropLast)]:=Ab Γ hm 100 F385 Tryz.ntmps385 rfl fun F hF=>by
 have h0:0<q.length:=List.length_pos_iff.2 hq
 have e1:q[((q.length:Int)-1).toNat]'qn=q.getLast hq:=by
  rw[List.getLast_eq_getElem]
  congr 1
  omega
 conv=>whnf
 refine⟨by unfold I64;omega,?_⟩
 conv=>whnf
 refine⟨by omega,by omega,?_⟩
 conv=>whnf
 refine⟨E,by omega,?_⟩
 rw[e1]
 conv=>whnf
 refine⟨qq,?_⟩
 conv=>whnf
 refine⟨by unfold I64;omega,?_⟩
 conv=>whnf
 refine Bs (U1 Γ.toTy (d:=23) (hi:=q.length-1) E E E E E qx E (.inl ⟨E,E⟩) (.inr ⟨_,_,E,congrArg (fun z=>SV.val (.int .i64 z)) qn⟩) qn) qq E ?_
 rw[← List.dropLast_eq_take]
 refine rd qq ?_;conv=>whnf
 refine⟨qq,?_⟩
 conv=>whnf
 exact done E (.cons .tmp .nil) [(2,23)] [(0,.box [.osl 2]),(1,.non),(2,.row 3 A8 q.dropLast)] (fun _ h=>h) E E ⟨Y,⟨.inl E,E,.inl E,E,.inl E,E,Y⟩,E,E⟩
end Go.Sy.YtmelpejjondedaaGreat
namespace Go.Sy.YtmelpejjondedaaGreat
open Go.Proofs
attribute [local irreducible] Go.Sy.G Go.Sy.DR
set_option maxRecDepth 100000
set_option maxHeartbeats 4000000
theorem mLen : Meth Tryz.prog 340 "Len" 234 false 342 := .of (by kernel_rfl) Tryz.underlying340
theorem Aab : Meth Tryz.prog 340 "Less" 384 false 342 := .of (by kernel_rfl) Tryz.underlying340
theorem Aaa : Meth Tryz.prog 340 "Swap" 387 false 342 := .of (by kernel_rfl) Tryz.underlying340
theorem mPush : Meth Tryz.prog 340 "Push" 386 true 342 := .of (by kernel_rfl) Tryz.underlying340
theorem mPop : Meth Tryz.prog 340 "Pop" 385 true 342 := .of (by kernel_rfl) Tryz.underlying340
def C3 (q:List Item) (i j:Nat):List Item:=(q.set i (q.getD j default)).set j (q.getD i default)
theorem Av (q:List Item) (i j:Nat):(C3 q i j).length=q.length:=by simp[C3]
def upF:Nat→List Item→Nat→List Item
 | 0,q,_=>q
 | n+1,q,j=>if j=0 then q else if Bo (q.getD j default) (q.getD ((j-1) / 2) default) then upF n (C3 q ((j-1) / 2) j) ((j-1) / 2) else q
theorem Zb:∀ (n m:Nat) (q:List Item) (j:Nat),j≤n→j≤m→upF n q j=upF m q j
 | 0,m,q,j,h,_=>by
  have:j=0:=by omega
  subst this
  cases m<;>simp[upF]
 | n+1,0,q,j,_,h=>by
  have:j=0:=by omega
  subst this
  simp[upF]
 | n+1,m+1,q,j,h1,h2=>by
  rw[upF,upF]
  split
  ·rfl
  ·split
   ·exact Zb n m _ _ qn qn
   ·rfl
theorem Ag8 (r:List Item):∀ (i:Nat),i≠0→upF i r i=if Bo (r.getD i default) (r.getD ((i-1) / 2) default) then upF ((i-1) / 2) (C3 r ((i-1) / 2) i) ((i-1) / 2) else r
 | 0,h=>absurd rfl h
 | m+1,_=>by
  rw[upF,if_neg qn]
  split
  ·exact Zb _ _ _ _ qn qn
  ·rfl
theorem upS (q:List Item) (j:Nat) (hj:j<q.length) (hl:q.length<1000000) :
  Sy.Spec Tryz.prog 285 [.ifc 340 (.ptr 0 0),Aa j] [(0,.box [.osl 1]),(1,.row 3 A8 q)] (.tup []) [(0,.box [.osl 1]),(1,.row 3 A8 (upF j q j))]:=Ab Γ hm 100 F285 Tryz.ntmps285 rfl fun F hF=>by
 conv=>whnf
 refine Lb (α:={p:List Item × Nat // upF p.2 p.1 p.2=upF j q j∧p.1.length=q.length∧p.2<p.1.length}) (fun p=>[(0,.ifc 340 (.ptr 0 0)),(1,Aa p.1.2)]) (fun p=>[(0,.box [.osl 1]),(1,.row 3 A8 p.1.1)]) (fun p=>p.1.2) ⟨(q,j),E,E,hj⟩ []
  ⟨⟨rfl,rfl,rfl,rfl,trivial⟩,⟨.inl rfl,rfl,.inl rfl,rfl,trivial⟩,rfl,rfl⟩ ?_
 rintro ⟨⟨r,i⟩,h1,h2,h3⟩
 simp only at h1 h2 h3
 dsimp only
 have hw:IntKind.i64.wrap (((i:Int)-1).tdiv 2)=(((i-1) / 2:Nat):Int):=by
  rcases Nat.eq_zero_or_pos i with h0 | h0
  ·subst h0;rfl
  ·have:((i:Int)-1)=((i-1:Nat):Int):=by omega
   rw[this,Int.tdiv_eq_ediv_of_nonneg qn,IntKind.wrap_i64]
   omega
 refine rg ?_;conv=>whnf
 refine⟨by unfold I64;omega,?_⟩
 conv=>whnf
 refine⟨by decide,?_⟩
 rw[hw]
 conv=>whnf
 refine⟨fun h=>?_,fun h=>?_⟩
 ·have h0:i=0:=by
   have:(((i-1) / 2:Nat):Int)=i:=by simpa using h
   omega
  subst h0
  have e:upF j q j=r:=by rw[← h1];rfl
  rw[e]
  (refine rg ?_;(conv=>whnf);refine aT ?_;refine rg ?_;conv=>whnf)
  exact Bg E .nil [] [(0,.box [.osl 1]),(1,.row 3 A8 r)] (fun _ h=>h) E E ⟨Y,⟨.inl E,E,.inl E,E,Y⟩,E,E⟩
 have h0:i≠0:=by
  intro h0
  subst h0
  exact absurd h qx
 have hp:(i-1) / 2<r.length:=by omega
 have hless:=H4 r i ((i-1) / 2) h3 hp
 refine rg ?_;conv=>whnf
 refine Ah (C8 [1] (A5 Γ.toTy Aab F384 E E E E E) hless (.cons (.row E E) (.cons (.refl _) (.cons (.refl _) .nil))) E E) E E ?_
 refine rg ?_;conv=>whnf
 have hu:upF i r i=if Bo r[i] r[(i-1) / 2] then upF ((i-1) / 2) (C3 r ((i-1) / 2) i) ((i-1) / 2) else r:=by
  rw[Ag8 r i h0,Az h3,Az hp]
 refine⟨fun h=>?_,fun h=>?_⟩
 ·have hlt:Bo r[i] r[(i-1) / 2]=false:=by simpa using h
  have e:upF j q j=r:=by rw[← h1,hu,hlt];rfl
  rw[e]
  refine rg ?_;conv=>whnf
  exact Bg E .nil [] [(0,.box [.osl 1]),(1,.row 3 A8 r)] (fun _ h=>h) E E ⟨Y,⟨.inl E,E,.inl E,E,Y⟩,E,E⟩
 have hlt:Bo r[i] r[(i-1) / 2]=true:=by simpa using h
 rw[hlt,if_pos rfl]at hu
 have hsw:=H3 r ((i-1) / 2) i hp h3
 have e:(r.set ((i-1) / 2) r[i]).set i r[(i-1) / 2]=C3 r ((i-1) / 2) i:=by
  rw[C3,Az h3,Az hp]
 rw[e]at hsw
 refine rg ?_;conv=>whnf
 refine Ah (Cc [(0,1)] (A5 Γ.toTy Aaa F387 E E E E E) hsw E ⟨E,Y⟩ E ⟨.inl E,Y⟩) E E ?_
 refine rg ?_;conv=>whnf
 exact Mm (α:={p:List Item × Nat // upF p.2 p.1 p.2=upF j q j∧p.1.length=q.length∧p.2<p.1.length}) (L:=fun p=>[(0,.ifc 340 (.ptr 0 0)),(1,Aa p.1.2)]) (O:=fun p=>[(0,.box [.osl 1]),(1,.row 3 A8 p.1.1)]) (μ:=fun p=>p.1.2) (x:=⟨(r,i),h1,h2,h3⟩)
  ⟨(C3 r ((i-1) / 2) i,(i-1) / 2),by rw[← h1,hu],by rw[Av];exact h2,by rw[Av];exact hp⟩ [] (by simp only;omega)
  ⟨⟨rfl,rfl,rfl,rfl,trivial⟩,⟨.inl rfl,rfl,.inl rfl,rfl,trivial⟩,rfl,rfl⟩
theorem Ts:∀ (n:Nat) (q:List Item) (j:Nat),(upF n q j).length=q.length
 | 0,q,j=>rfl
 | n+1,q,j=>by
  rw[upF]
  split
  ·rfl
  ·split
   ·rw[Ts n,Av]
   ·rfl
def L9 (q:List Item) (x:Item):List Item:=upF q.length (q++[x]) q.length
theorem W1 (q:List Item) (x:Item) (hl:q.length<999999) :
  Sy.Spec Tryz.prog 233 [.ifc 340 (.ptr 0 0),.ifc 345 (A8 x)] [(0,.box [.osl 1]),(1,.row 3 A8 q)] (.tup []) [(0,.box [.osl 2]),(1,.non),(2,.row 3 A8 (L9 q x))]:=Ab Γ hm 100 F233 Tryz.ntmps233 rfl fun F hF=>by
 have hpush:=Ab7 q x qn
 have hlen:=Qx (q++[x])
 have hup:=upS (q++[x]) q.length qy (by simp;omega)
 have hln:(((q++[x]).length:Nat):Int)-1=(q.length:Int):=by simp
 conv=>whnf
 refine Ah (Cc (rd:=[]) [(2,6)] (Mj mPush F386 E E) hpush E ⟨E,E,Y⟩ E ⟨.inl E,.inl E,.inr E,Y⟩) E E ?_
 refine rg ?_;conv=>whnf
 refine Ah (C8 [6] (A5 Γ.toTy mLen F234 E E E E E) hlen (.cons (.row E E) .nil) E E) E E ?_
 refine rg ?_;conv=>whnf
 refine⟨by unfold I64;simp;omega,?_⟩
 rw[hln]
 conv=>whnf
 refine Ah (Ai [(1,6)] E F285 hup E ⟨E,E,Y⟩ E ⟨.inl E,.inl E,Y⟩) E E ?_
 refine rg ?_;conv=>whnf
 exact Bg E .nil [(2,6)] [(0,.box [.osl 2]),(1,.non),(2,.row 3 A8 (L9 q x))] (fun _ h=>h) E E ⟨Y,⟨.inl E,E,.inl E,E,.inl E,E,Y⟩,E,E⟩
def Cy (q:List Item) (i n:Nat):Nat:=if 2 * i+2<n∧Bo (q.getD (2 * i+2) default) (q.getD (2 * i+1) default)=true then 2 * i+2 else 2 * i+1
theorem Ji (q:List Item) (i n:Nat) (h:2 * i+1<n):Cy q i n<n∧i<Cy q i n:=by
 unfold Cy
 split<;>omega
def Cz:Nat→List Item→Nat→Nat→List Item × Nat
 | 0,q,i,_=>(q,i)
 | f+1,q,i,n=>if 2 * i+1<n then (if Bo (q.getD (Cy q i n) default) (q.getD i default) then Cz f (C3 q i (Cy q i n)) (Cy q i n) n else (q,i)) else (q,i)
theorem Mz:∀ (f g:Nat) (q:List Item) (i n:Nat),n≤f+i→n≤g+i→Cz f q i n=Cz g q i n
 | 0,g,q,i,n,h1,h2=>by
  cases g with
  | zero=>rfl
  | succ g=>rw[Cz,Cz,if_neg qn]
 | f+1,0,q,i,n,h1,h2=>by rw[Cz,Cz,if_neg qn]
 | f+1,g+1,q,i,n,h1,h2=>by
  rw[Cz,Cz]
  split
  ·rename_i h
   have:=Ji q i n h
   split
   ·exact Mz f g _ _ n qn qn
   ·rfl
  ·rfl
theorem Adh (r:List Item) (i n:Nat):Cz (n-i) r i n=if 2 * i+1<n then (if Bo (r.getD (Cy r i n) default) (r.getD i default) then Cz (n-Cy r i n) (C3 r i (Cy r i n)) (Cy r i n) n else (r,i)) else (r,i):=by
 rw[Mz (n-i) (n-i+1) r i n qn qn,Cz]
 split
 ·rename_i h
  have:=Ji r i n h
  split
  ·exact Mz _ _ _ _ _ qn qn
  ·rfl
 ·rfl
theorem Qc:∀ (f:Nat) (q:List Item) (i n:Nat),(Cz f q i n).1.length=q.length
 | 0,_,_,_=>rfl
 | f+1,q,i,n=>by
  rw[Cz]
  split
  ·split
   ·rw[Qc f,Av]
   ·rfl
  ·rfl
theorem downS (q:List Item) (i0 n:Nat) (hn:n≤q.length) (hi:i0<q.length) (hl:q.length<1000000) :
  Sy.Spec Tryz.prog 286 [.ifc 340 (.ptr 0 0),Aa i0,Aa n] [(0,.box [.osl 1]),(1,.row 3 A8 q)] (Ad (decide (((Cz (n-i0) q i0 n).2:Int)>i0))) [(0,.box [.osl 1]),(1,.row 3 A8 (Cz (n-i0) q i0 n).1)]:=Ab Γ hm 100 F286 Tryz.ntmps286 rfl fun F hF=>by
 generalize hD:Cz (n-i0) q i0 n=D
 conv=>whnf
 refine Lb (α:={p:List Item × Nat // Cz (n-p.2) p.1 p.2 n=D∧p.1.length=q.length∧p.2<p.1.length}) (fun p=>[(0,.ifc 340 (.ptr 0 0)),(1,Aa i0),(2,Aa n),(7,Aa p.1.2)]) (fun p=>[(0,.box [.osl 1]),(1,.row 3 A8 p.1.1)]) (fun p=>n-p.1.2) ⟨(q,i0),hD,E,hi⟩ []
  ⟨⟨rfl,rfl,rfl,rfl,rfl,rfl,rfl,rfl,trivial⟩,⟨.inl rfl,rfl,.inl rfl,rfl,trivial⟩,rfl,rfl⟩ ?_
 rintro ⟨⟨r,i⟩,h1,h2,h3⟩
 simp only at h1 h2 h3
 dsimp only
 have h10:=h1
 rw[Adh]at h1
 have hj1:(2:Int) * i+1=((2 * i+1:Nat):Int):=by omega
 have hj2:((2 * i+1:Nat):Int)+1=((2 * i+2:Nat):Int):=by omega
 refine rg ?_;conv=>whnf
 refine⟨by unfold I64;omega,?_⟩
 conv=>whnf
 refine⟨by unfold I64;omega,?_⟩
 rw[hj1]
 conv=>whnf
 refine⟨fun h=>?_,fun h=>?_⟩
 ·have hge:¬ 2 * i+1<n:=by have:=of_decide_eq_true h;omega
  rw[if_neg hge]at h1
  rw[← h1]
  (refine rg ?_;(conv=>whnf);refine aT ?_;refine rg ?_;conv=>whnf)
  exact done E (.cons .tmp .nil) [] [(0,.box [.osl 1]),(1,.row 3 A8 r)] (fun _ h=>h) E E ⟨Y,⟨.inl E,E,.inl E,E,Y⟩,E,E⟩
 have hlt:2 * i+1<n:=by have:=of_decide_eq_false h;omega
 rw[if_pos hlt]at h1
 (refine rg ?_;(conv=>whnf);refine aF ?_;refine rg ?_;conv=>whnf)
 refine⟨by unfold I64;omega,?_⟩
 rw[hj2]
 conv=>whnf
 refine⟨fun h=>?_,fun h=>?_⟩
 ·have h2n:2 * i+2<n:=by have:=of_decide_eq_true h;omega
  have hA:2 * i+2<r.length:=by omega
  have hB:2 * i+1<r.length:=by omega
  have hlc:=H4 r (2 * i+2) (2 * i+1) hA hB
  refine rg ?_;conv=>whnf
  refine Ah (C8 [1] (A5 Γ.toTy Aab F384 E E E E E) hlc (.cons (.row E E) (.cons (.refl _) (.cons (.refl _) .nil))) E E) E E ?_
  refine rg ?_;conv=>whnf
  refine⟨fun h=>?_,fun h=>?_⟩
  ·have hc:Cy r i n=2 * i+2:=by rw[Cy,if_pos ⟨h2n,by rw[Az hA,Az hB];exact h⟩]
   have hJ:=hA
   refine rg ?_;conv=>whnf
   rw[hc,Az hJ,Az h3]at h1
   have hls:=H4 r (2 * i+2) i hJ h3
   refine Ah (C8 [1] (A5 Γ.toTy Aab F384 E E E E E) hls (.cons (.row E E) (.cons (.refl _) (.cons (.refl _) .nil))) E E) E E ?_
   refine rg ?_;conv=>whnf
   refine⟨fun h=>?_,fun h=>?_⟩
   ·have hf:Bo r[2 * i+2] r[i]=false:=by simpa using h
    rw[hf]at h1
    have e:D=(r,i):=h1.symm
    rw[e]
    refine rg ?_;conv=>whnf
    exact done E (.cons .tmp .nil) [] [(0,.box [.osl 1]),(1,.row 3 A8 r)] (fun _ h=>h) E E ⟨Y,⟨.inl E,E,.inl E,E,Y⟩,E,E⟩
   have hf:Bo r[2 * i+2] r[i]=true:=by simpa using h
   rw[hf,if_pos rfl]at h1
   have hsw:=H3 r i (2 * i+2) h3 hJ
   have e:(r.set i r[2 * i+2]).set (2 * i+2) r[i]=C3 r i (2 * i+2):=by
    rw[C3,Az h3,Az hJ]
   rw[e]at hsw
   refine rg ?_;conv=>whnf
   refine Ah (Cc [(0,1)] (A5 Γ.toTy Aaa F387 E E E E E) hsw E ⟨E,Y⟩ E ⟨.inl E,Y⟩) E E ?_
   refine rg ?_;conv=>whnf
   exact Mm (α:={p:List Item × Nat // Cz (n-p.2) p.1 p.2 n=D∧p.1.length=q.length∧p.2<p.1.length}) (L:=fun p=>[(0,.ifc 340 (.ptr 0 0)),(1,Aa i0),(2,Aa n),(7,Aa p.1.2)]) (O:=fun p=>[(0,.box [.osl 1]),(1,.row 3 A8 p.1.1)]) (μ:=fun p=>n-p.1.2) (x:=⟨(r,i),h10,h2,h3⟩)
    ⟨(C3 r i (2 * i+2),2 * i+2),h1,by rw[Av];exact h2,by rw[Av];exact hJ⟩ [] (by simp only;omega)
    ⟨⟨rfl,rfl,rfl,rfl,rfl,rfl,rfl,rfl,trivial⟩,⟨.inl rfl,rfl,.inl rfl,rfl,trivial⟩,rfl,rfl⟩
  ·have hc:Cy r i n=2 * i+1:=by rw[Cy,if_neg (fun hh=>by rw[Az hA,Az hB,h]at hh;exact absurd hh.2 qy)]
   have hJ:=hB
   refine rg ?_;conv=>whnf
   rw[hc,Az hJ,Az h3]at h1
   have hls:=H4 r (2 * i+1) i hJ h3
   refine Ah (C8 [1] (A5 Γ.toTy Aab F384 E E E E E) hls (.cons (.row E E) (.cons (.refl _) (.cons (.refl _) .nil))) E E) E E ?_
   refine rg ?_;conv=>whnf
   refine⟨fun h=>?_,fun h=>?_⟩
   ·have hf:Bo r[2 * i+1] r[i]=false:=by simpa using h
    rw[hf]at h1
    have e:D=(r,i):=h1.symm
    rw[e]
    refine rg ?_;conv=>whnf
    exact done E (.cons .tmp .nil) [] [(0,.box [.osl 1]),(1,.row 3 A8 r)] (fun _ h=>h) E E ⟨Y,⟨.inl E,E,.inl E,E,Y⟩,E,E⟩
   have hf:Bo r[2 * i+1] r[i]=true:=by simpa using h
   rw[hf,if_pos rfl]at h1
   have hsw:=H3 r i (2 * i+1) h3 hJ
   have e:(r.set i r[2 * i+1]).set (2 * i+1) r[i]=C3 r i (2 * i+1):=by
    rw[C3,Az h3,Az hJ]
   rw[e]at hsw
   refine rg ?_;conv=>whnf
   refine Ah (Cc [(0,1)] (A5 Γ.toTy Aaa F387 E E E E E) hsw E ⟨E,Y⟩ E ⟨.inl E,Y⟩) E E ?_
   refine rg ?_;conv=>whnf
   exact Mm (α:={p:List Item × Nat // Cz (n-p.2) p.1 p.2 n=D∧p.1.length=q.length∧p.2<p.1.length}) (L:=fun p=>[(0,.ifc 340 (.ptr 0 0)),(1,Aa i0),(2,Aa n),(7,Aa p.1.2)]) (O:=fun p=>[(0,.box [.osl 1]),(1,.row 3 A8 p.1.1)]) (μ:=fun p=>n-p.1.2) (x:=⟨(r,i),h10,h2,h3⟩)
    ⟨(C3 r i (2 * i+1),2 * i+1),h1,by rw[Av];exact h2,by rw[Av];exact hJ⟩ [] (by simp only;omega)
    ⟨⟨rfl,rfl,rfl,rfl,rfl,rfl,rfl,rfl,trivial⟩,⟨.inl rfl,rfl,.inl rfl,rfl,trivial⟩,rfl,rfl⟩
 ·have h2n:¬ 2 * i+2<n:=by have:=of_decide_eq_false h;omega
  have hJ:2 * i+1<r.length:=by omega
  have hc:Cy r i n=2 * i+1:=by rw[Cy,if_neg (fun hh=>h2n hh.1)]
  (refine rg ?_;(conv=>whnf);refine aF ?_;refine rg ?_;conv=>whnf)
  rw[hc,Az hJ,Az h3]at h1
  have hls:=H4 r (2 * i+1) i hJ h3
  refine Ah (C8 [1] (A5 Γ.toTy Aab F384 E E E E E) hls (.cons (.row E E) (.cons (.refl _) (.cons (.refl _) .nil))) E E) E E ?_
  refine rg ?_;conv=>whnf
  refine⟨fun h=>?_,fun h=>?_⟩
  ·have hf:Bo r[2 * i+1] r[i]=false:=by simpa using h
   rw[hf]at h1
   have e:D=(r,i):=h1.symm
   rw[e]
   refine rg ?_;conv=>whnf
   exact done E (.cons .tmp .nil) [] [(0,.box [.osl 1]),(1,.row 3 A8 r)] (fun _ h=>h) E E ⟨Y,⟨.inl E,E,.inl E,E,Y⟩,E,E⟩
  have hf:Bo r[2 * i+1] r[i]=true:=by simpa using h
  rw[hf,if_pos rfl]at h1
  have hsw:=H3 r i (2 * i+1) h3 hJ
  have e:(r.set i r[2 * i+1]).set (2 * i+1) r[i]=C3 r i (2 * i+1):=by
   rw[C3,Az h3,Az hJ]
  rw[e]at hsw
  refine rg ?_;conv=>whnf
  refine Ah (Cc [(0,1)] (A5 Γ.toTy Aaa F387 E E E E E) hsw E ⟨E,Y⟩ E ⟨.inl E,Y⟩) E E ?_
  refine rg ?_;conv=>whnf
  exact Mm (α:={p:List Item × Nat // Cz (n-p.2) p.1 p.2 n=D∧p.1.length=q.length∧p.2<p.1.length}) (L:=fun p=>[(0,.ifc 340 (.ptr 0 0)),(1,Aa i0),(2,Aa n),(7,Aa p.1.2)]) (O:=fun p=>[(0,.box [.osl 1]),(1,.row 3 A8 p.1.1)]) (μ:=fun p=>n-p.1.2) (x:=⟨(r,i),h10,h2,h3⟩)
   ⟨(C3 r i (2 * i+1),2 * i+1),h1,by rw[Av];exact h2,by rw[Av];exact hJ⟩ [] (by simp only;omega)
   ⟨⟨rfl,rfl,rfl,rfl,rfl,rfl,rfl,rfl,trivial⟩,⟨.inl rfl,rfl,.inl rfl,rfl,trivial⟩,rfl,rfl⟩
def Cb (q:List Item):List Item:=(Cz (q.length-1-0) (C3 q 0 (q.length-1)) 0 (q.length-1)).1
theorem C7 (q:List Item):(Cb q).length=q.length:=by rw[Cb,Qc,Av]
theorem C1 {q:List Item} (h:q≠[]):Cb q≠[]:=fun e=>h (List.eq_nil_of_length_eq_zero (by rw[← C7,e];rfl))
theorem Ai4 (q:List Item) (hq:q≠[]) (hl:q.length<1000000) :
  Sy.Spec Tryz.prog 235 [.ifc 340 (.ptr 0 0)] [(0,.box [.osl 1]),(1,.row 3 A8 q)] (.ifc 345 (A8 ((Cb q).getLast (C1 hq)))) [(0,.box [.osl 2]),(1,.non),(2,.row 3 A8 (Cb q).dropLast)]:=Ab Γ hm 100 F235 Tryz.ntmps235 rfl fun F hF=>by
 have h0:0<q.length:=List.length_pos_iff.2 hq
 have hlen:=Qx q
 have hsw:=H3 q 0 (q.length-1) h0 qn
 have e:(q.set 0 q[q.length-1]).set (q.length-1) q[0]=C3 q 0 (q.length-1):=by
  rw[C3,Az (show q.length-1<q.length by omega),Az h0]
 rw[e]at hsw
 have hdn:=downS (C3 q 0 (q.length-1)) 0 (q.length-1) (by rw[Av];omega) (by rw[Av];exact h0) (by rw[Av];exact hl)
 have hpop:=Afn (Cb q) (C1 hq) (by rw[C7];exact hl)
 have hln:(q.length:Int)-1=((q.length-1:Nat):Int):=by omega
 conv=>whnf
 refine Ah (C8 [1] (A5 Γ.toTy mLen F234 E E E E E) hlen (.cons (.row E E) .nil) E E) E E ?_
 refine rg ?_;conv=>whnf
 refine⟨by unfold I64;omega,?_⟩
 rw[hln]
 conv=>whnf
 refine Ah (Cc [(0,1)] (A5 Γ.toTy Aaa F387 E E E E E) hsw E ⟨E,Y⟩ E ⟨.inl E,Y⟩) E E ?_
 refine rg ?_;conv=>whnf
 refine Ah (Ai [] E F286 hdn E ⟨E,E,Y⟩ E ⟨.inl E,.inl E,Y⟩) E E ?_
 refine rg ?_;conv=>whnf
 refine Ah (Cc (rd:=[]) [(2,14)] (Mj mPop F385 E E) hpop E ⟨E,E,Y⟩ E ⟨.inl E,.inl E,.inr E,Y⟩) E E ?_
 refine rg ?_;conv=>whnf
 exact done E (.cons .tmp .nil) [(2,14)] [(0,.box [.osl 2]),(1,.non),(2,.row 3 A8 (Cb q).dropLast)] (fun _ h=>h) E E ⟨Y,⟨.inl E,E,.inl E,E,.inl E,E,Y⟩,E,E⟩
end Go.Sy.YtmelpejjondedaaGreat
namespace Go.Sy.YtmelpejjondedaaGreat
open Go.Proofs
attribute [local irreducible] Go.Sy.G Go.Sy.DR
set_option maxRecDepth 20000
set_option maxHeartbeats 4000000
theorem great1 {n:Net} (h:n.ports.any (fun p=>decide (100<p.tagged.length))=true):D3 n=true:=by simp only[D3,h,Bool.or_true,Bool.true_or]
theorem great2 {n:Net} (h:n.domains.any (fun p=>decide (100<p.peers.length))=true):D3 n=true:=by simp only[D3,h,Bool.or_true,Bool.true_or]
theorem great3 {n:Net} (h:n.floods.any (fun p=>decide (100<p.addrs.length))=true):D3 n=true:=by simp only[D3,h,Bool.or_true,Bool.true_or]
theorem great4 {n:Net} (h:n.vrfs.any (fun v=>decide (100<v.imports.length) || decide (100<v.exports.length))=true):D3 n=true:=by simp only[D3,h,Bool.or_true]
theorem greatS (n:Net):Sy.Spec Tryz.prog 10 [Aq n] [] (Ad (D3 n)) []:=Ab Γ hm 100 F10 Tryz.ntmps10 rfl fun F hF=>by
 conv=>whnf
 (repeat' (first | (refine⟨fun h=>?_,fun h=>?_⟩<;>(repeat (first | simp only[decide_eq_true_eq]at h | simp only[decide_eq_false_iff_not]at h))<;>((refine rg ?_);(conv=>whnf);repeat((refine aT ?_);(refine rg ?_);(conv=>whnf)))) | (refine Ac rfl (.cons .tmp .nil) ?_ rfl)))
 all_goals first
  | (refine congrArg Ad ?_;clear hF;grind [D3])
  | skip
 have l1:n.ports.length≤200:=by omega
 have l2:n.domains.length≤200:=by omega
 have l3:n.floods.length≤200:=by omega
 have l4:n.vrfs.length≤200:=by omega
 refine B0 1 8 (Aq n) E E E ?_
 refine Bc n.ports.length (fun j=>Em (fun _ p=>!(decide (100<p.tagged.length))) n.ports j) (fun j=>[(1,.ref 8 (Aq n) 0),(3,Aa j)]) (fun _=>[]) [] (Be _ _) ⟨⟨E,E,E,E,Y⟩,Y,E,E⟩ ?_
 intro j hj hI
 refine rg ?_;conv=>whnf
 refine⟨fun h=>?_,fun h=>?_⟩
 ·have hjl:j<n.ports.length:=by simpa using h
  refine rg ?_;conv=>whnf
  (repeat' (first | (refine⟨fun h=>?_,fun h=>?_⟩<;>(repeat (first | simp only[decide_eq_true_eq]at h | simp only[decide_eq_false_iff_not]at h))<;>((refine rg ?_);(conv=>whnf))) | (refine Ac rfl (.cons .tmp .nil) ?_ rfl) | (refine⟨qq,?_⟩;((conv=>whnf))) | (refine⟨by (omega),by (omega),?_⟩;((conv=>whnf))) | (refine⟨by (unfold I64;omega),?_⟩;((conv=>whnf))) | refine Ba [] hI hjl ?_ ⟨⟨rfl,rfl,rfl,rfl,trivial⟩,trivial,rfl,rfl⟩))
  all_goals (simp only[Int.toNat_natCast]at *)
  ·refine congrArg Ad ?_
   exact great1 (Qj hjl (by simp;omega))
  ·exact Bb hI hjl (by simp;omega)
 have a1:n.ports.any (fun p=>decide (100<p.tagged.length))=false:=Lt hI (by simpa using h)
 clear hI hj h
 refine rg ?_;conv=>whnf
 refine Bc n.domains.length (fun j=>Em (fun _ p=>!(decide (100<p.peers.length))) n.domains j) (fun j=>[(1,.ref 8 (Aq n) 0),(4,Aa j)]) (fun _=>[]) [] (Be _ _) ⟨⟨E,E,E,E,Y⟩,Y,E,E⟩ ?_
 intro j hj hI
 refine rg ?_;conv=>whnf
 refine⟨fun h=>?_,fun h=>?_⟩
 ·have hjl:j<n.domains.length:=by simpa using h
  refine rg ?_;conv=>whnf
  (repeat' (first | (refine⟨fun h=>?_,fun h=>?_⟩<;>(repeat (first | simp only[decide_eq_true_eq]at h | simp only[decide_eq_false_iff_not]at h))<;>((refine rg ?_);(conv=>whnf))) | (refine Ac rfl (.cons .tmp .nil) ?_ rfl) | (refine⟨qq,?_⟩;((conv=>whnf))) | (refine⟨by (omega),by (omega),?_⟩;((conv=>whnf))) | (refine⟨by (unfold I64;omega),?_⟩;((conv=>whnf))) | refine Ba [] hI hjl ?_ ⟨⟨rfl,rfl,rfl,rfl,trivial⟩,trivial,rfl,rfl⟩))
  all_goals (simp only[Int.toNat_natCast]at *)
  ·refine congrArg Ad ?_
   exact great2 (Qj hjl (by simp;omega))
  ·exact Bb hI hjl (by simp;omega)
 have a2:n.domains.any (fun p=>decide (100<p.peers.length))=false:=Lt hI (by simpa using h)
 clear hI hj h
 refine rg ?_;conv=>whnf
 refine Bc n.floods.length (fun j=>Em (fun _ p=>!(decide (100<p.addrs.length))) n.floods j) (fun j=>[(1,.ref 8 (Aq n) 0),(5,Aa j)]) (fun _=>[]) [] (Be _ _) ⟨⟨E,E,E,E,Y⟩,Y,E,E⟩ ?_
 intro j hj hI
 refine rg ?_;conv=>whnf
 refine⟨fun h=>?_,fun h=>?_⟩
 ·have hjl:j<n.floods.length:=by simpa using h
  refine rg ?_;conv=>whnf
  (repeat' (first | (refine⟨fun h=>?_,fun h=>?_⟩<;>(repeat (first | simp only[decide_eq_true_eq]at h | simp only[decide_eq_false_iff_not]at h))<;>((refine rg ?_);(conv=>whnf))) | (refine Ac rfl (.cons .tmp .nil) ?_ rfl) | (refine⟨qq,?_⟩;((conv=>whnf))) | (refine⟨by (omega),by (omega),?_⟩;((conv=>whnf))) | (refine⟨by (unfold I64;omega),?_⟩;((conv=>whnf))) | refine Ba [] hI hjl ?_ ⟨⟨rfl,rfl,rfl,rfl,trivial⟩,trivial,rfl,rfl⟩))
  all_goals (simp only[Int.toNat_natCast]at *)
  ·refine congrArg Ad ?_
   exact great3 (Qj hjl (by simp;omega))
  ·exact Bb hI hjl (by simp;omega)
 have a3:n.floods.any (fun p=>decide (100<p.addrs.length))=false:=Lt hI (by simpa using h)
 clear hI hj h
 refine rg ?_;conv=>whnf
 refine Bc n.vrfs.length (fun j=>Em (fun _ v=>!(decide (100<v.imports.length) || decide (100<v.exports.length))) n.vrfs j) (fun j=>[(1,.ref 8 (Aq n) 0),(6,Aa j)]) (fun _=>[]) [] (Be _ _) ⟨⟨E,E,E,E,Y⟩,Y,E,E⟩ ?_
 intro j hj hI
 refine rg ?_;conv=>whnf
 refine⟨fun h=>?_,fun h=>?_⟩
 ·have hjl:j<n.vrfs.length:=by simpa using h
  refine rg ?_;conv=>whnf
  (repeat' (first | (refine⟨fun h=>?_,fun h=>?_⟩<;>(repeat (first | simp only[decide_eq_true_eq]at h | simp only[decide_eq_false_iff_not]at h))<;>((refine rg ?_);(conv=>whnf);repeat((refine aT ?_);(refine rg ?_);(conv=>whnf)))) | (refine Ac rfl (.cons .tmp .nil) ?_ rfl) | (refine⟨qq,?_⟩;((conv=>whnf))) | (refine⟨by (omega),by (omega),?_⟩;((conv=>whnf))) | (refine⟨by (unfold I64;omega),?_⟩;((conv=>whnf))) | refine Ba [] hI hjl ?_ ⟨⟨rfl,rfl,rfl,rfl,trivial⟩,trivial,rfl,rfl⟩))
  all_goals (simp only[Int.toNat_natCast]at *)
  all_goals first
   | exact Bb hI hjl (by simp;omega)
   | (refine congrArg Ad ?_;exact great4 (Qj hjl (by simp;omega)))
 have a4:n.vrfs.any (fun v=>decide (100<v.imports.length) || decide (100<v.exports.length))=false:=Lt hI (by simpa using h)
 clear hI hj h
 refine rg ?_;conv=>whnf
 refine Ac E (.cons .tmp .nil) (congrArg Ad ?_) E
 rw[D3,a1,a2,a3,a4]
 simp
 omega
def Cv:Vec→List Vec→Vec
 | v,[]=>v
 | v,x::l=>Cv (if Wp x v then x else v) l
def zeroV:Vec:=⟨0,0,0,0,0⟩
def Jy:List Vec→Vec × Bool
 | []=>(zeroV,false)
 | v::l=>(Cv v (v::l),true)
theorem Us:∀ (v:Vec) (l:List Vec),Cv v l=v∨Cv v l∈l
 | v,[]=>.inl rfl
 | v,x::l=>by
  rw[Cv]
  rcases Us (if Wp x v then x else v) l with h | h
  ·rw[h]
   split
   ·exact .inr qy
   ·exact .inl E
  ·exact .inr (by simp[h])
theorem Aaj (v:Vec) (l:List Vec) (j:Nat) (h:j<l.length):Cv v (l.take (j+1))=(if Wp l[j] (Cv v (l.take j)) then l[j] else Cv v (l.take j)):=by
 have key:∀ (a b:List Vec) (v:Vec),Cv v (a++b)=Cv (Cv v a) b:=by
  intro a
  induction a with
  | nil=>intro b v;rfl
  | cons x a ih=>intro b v;rw[List.cons_append,Cv,Cv,ih]
 rw[List.take_succ_eq_append_getElem h,key]
 rfl
theorem leastS (l:List Vec) (hl:Am l):Sy.Spec Tryz.prog 236 [.sl 5 Kc l] [] (.tup [Kc (Jy l).1,Ad (Jy l).2]) []:=Ab Γ hm 100 F236 Tryz.ntmps236 rfl fun F hF=>by
 unfold Am at hl
 have hR:∀ h:0<l.length,Jy l=(Cv l[0] l,true):=fun h=>by
  cases l with
  | nil=>simp at h
  | cons v t=>rfl
 conv=>whnf
 refine⟨fun h=>?_,fun h=>?_⟩
 ·have:l=[]:=List.eq_nil_of_length_eq_zero (by have:(l.length:Int)=0:=(by simpa using h);omega)
  subst this
  refine rg ?_;conv=>whnf
  exact done E (.cons (.cell E E E E) (.cons .tmp .nil)) [] [] (fun _ h=>h) E E ⟨Y,Y,E,E⟩
 have h0:0<l.length:=by
  have:¬ (l.length:Int)=0:=by simpa using h
  omega
 rw[hR h0]
 refine rg ?_;conv=>whnf
 refine⟨E,by decide,h0,?_⟩
 conv=>whnf
 have e0:l[(0:Int).toNat]'(h0)=l[0]:=rfl
 generalize hv:l[0]=v at *
 refine A1 l.length (fun j=>[(0,.sl 5 Kc l),(2,.ptr 2 0),(4,.ptr 4 0),(14,.sl 5 Kc l),(15,Aa l.length),(16,Aa j)]) (fun j=>[(2,.box [Aa 0,Aa 0,Aa 0,Aa 0,Aa 0]),(4,.box [Aa (Cv v (l.take j)).root,Aa (Cv v (l.take j)).cost,Aa (Cv v (l.take j)).bridge,Aa (Cv v (l.take j)).port,Aa (Cv v (l.take j)).own])]) []
  ⟨⟨rfl,rfl,rfl,rfl,rfl,rfl,rfl,rfl,rfl,rfl,rfl,rfl,trivial⟩,⟨.inl rfl,rfl,.inl (by subst hv;rfl),rfl,trivial⟩,rfl,rfl⟩ ?_
 intro j hj
 refine rg ?_;conv=>whnf
 refine⟨fun h=>?_,fun h=>?_⟩
 ·have hlt:j<l.length:=by simpa using h
  have hdrop:=Aaj v l j hlt
  generalize hx:l[j]=x at hdrop
  have hx':l[(j:Int).toNat]'qn=x:=hx
  generalize hmn:Cv v (l.take j)=m at hdrop
  refine rg ?_;conv=>whnf
  refine⟨E,by omega,by omega,?_⟩
  rw[hx']
  conv=>whnf
  refine Ag (lessS x m) F287 E E E E E ?_
  refine rg ?_;conv=>whnf
  refine⟨fun h2=>?_,fun h2=>?_⟩
  ·rw[h2,if_pos rfl]at hdrop
   refine rg ?_;conv=>whnf
   refine⟨by unfold I64;omega,?_⟩
   conv=>whnf
   exact Ar [] hlt ⟨⟨E,E,E,E,E,E,E,E,E,E,E,E,Y⟩,⟨.inl E,E,.inl (by rw[hdrop];rfl),E,Y⟩,E,E⟩
  ·rw[h2]at hdrop
   refine rg ?_;conv=>whnf
   refine⟨by unfold I64;omega,?_⟩
   conv=>whnf
   exact Ar [] hlt ⟨⟨E,E,E,E,E,E,E,E,E,E,E,E,Y⟩,⟨.inl E,E,.inl (by rw[hdrop];rfl),E,Y⟩,E,E⟩
 ·have hjl:¬ j<l.length:=by simpa using h
  rw[List.take_of_length_le qn]
  refine rg ?_;conv=>whnf
  exact done E (.cons (.cell E E E E) (.cons .tmp .nil)) [] [] (fun _ h=>h) E E ⟨Y,Y,E,E⟩
theorem leastR_mem {l:List Vec} (h:(Jy l).2=true):(Jy l).1∈l:=by
 cases l with
 | nil=>cases h
 | cons v t =>
  rcases Us v (v::t) with h | h
  ·show Cv v (v::t)∈v::t
   rw[h];simp
  ·exact h
theorem Sj (n:Net):∀ x∈C4 n,0≤x∧x<n.devices.length:=fun x hx=>by
 rw[Zv,I5]at hx
 obtain ⟨i,hi,rfl⟩:=List.mem_map.1 hx
 have hi:=List.mem_range.1 hi
 have h1:=List.countP_le_length (p:=fun k=>B6 n (k:Nat) i) (l:=List.range n.devices.length)
 rw[List.length_range]at h1
 have h2:(List.range n.devices.length).countP (fun k=>B6 n (k:Nat) i)≠n.devices.length:=fun e=>by
  have:=List.countP_eq_length.1 (e.trans List.length_range.symm) i (List.mem_range.2 hi)
  rw[J4]at this
  cases this
 omega
theorem Iv (n:Net):(C4 n).length=n.devices.length:=by rw[Zv,I5];simp
end Go.Sy.YtmelpejjondedaaGreat
namespace Go.Sy.YtmelpejjondedaaGreat
open Go.Proofs
attribute [local irreducible] Go.Sy.G Go.Sy.DR
set_option maxRecDepth 100000
set_option maxHeartbeats 4000000
def L6 (n:Net) (up:List Bool) (ranks:List Int) (x y:SV):List SV:=[.sl 5 Bh n.devices,.sl 7 A9 n.ports,.sl 3 Cf n.links,.sl 6 Au n.domains,.sl 4 Bf n.statics,.sl 4 Bw n.floods,.sl 5 Ct n.vrfs,.sl 5 Dn n.irbs,.sl 1 Ad up,.sl 1 Aa ranks,x,y]
def Cp (n:Net) (up:List Bool) (i:Nat):Int :=
 let p:=n.ports.getD i default
 if p.link<0 || !(up.getD p.link.toNat false) then -1 else (nth n.links p.link).a+(nth n.links p.link).b-i
theorem farS (n:Net) (up:List Bool) (ranks:List Int) (x y:SV) (_hx:(x.boxed && x.data && y.boxed && y.data && Nat.beq (cellsOf x).length 1 && Nat.beq (cellsOf y).length 1)=true) (i:Nat) (hr:Af n=true) (hu:up.length=n.links.length) (hi:i<n.ports.length) :
  Sy.Spec Tryz.prog 158 [.ref 12 (.agg (L6 n up ranks x y)) 0,Aa i] [] (Aa (Cp n up i)) []:=Ab Γ hm 100 F158 Tryz.ntmps158 rfl fun F hF=>by
 have hpl:=Li hr hi
 have hf:=Dh hr
 have e1:n.ports[(i:Int).toNat]'qn=n.ports[i]:=rfl
 have hfar:Cp n up i=if n.ports[i].link<0 || !(up.getD n.ports[i].link.toNat false) then -1 else (nth n.links n.ports[i].link).a+(nth n.links n.ports[i].link).b-i:=by
  rw[Cp,Az hi]
 generalize hp:n.ports[i]=p at *
 have hle:=fun h=>Ja hr (i:=p.link.toNat) h
 conv=>whnf
 refine⟨E,by omega,by omega,?_⟩
 rw[e1]
 conv=>whnf
 (repeat' (first | (refine⟨fun h=>?_,fun h=>?_⟩<;>(repeat (first | simp only[decide_eq_true_eq]at h | simp only[decide_eq_false_iff_not]at h | simp only[Bool.not_eq_true']at h | simp only[Bool.not_eq_false']at h))<;>((first|refine rg ?_|refine rd qq ?_);(conv=>whnf))) | (refine Ac rfl (.cons .tmp .nil) ?_ rfl) | (refine⟨qq,?_⟩;((conv=>whnf);repeat((refine aT ?_);(refine rg ?_);(conv=>whnf)))) | (refine⟨by (first | omega | ((have hq:=hle qn;unfold I64;omega))),by (first | omega | ((have hq:=hle qn;unfold I64;omega))),?_⟩;((conv=>whnf)))))
 all_goals (refine congrArg Aa ?_;rw[hfar])
 ·simp_all
 ·have h1:up.getD p.link.toNat false=false:=by rw[Az qn];assumption
  rw[h1];simp
 ·have h1:up.getD p.link.toNat false=true:=by rw[Az qn];assumption
  rw[h1,An qn]
  simp_all
def Kg (n:Net) (up:List Bool) (ranks roots costs:List Int):SV:=.ref 12 (.agg (L6 n up ranks (.sl 1 Aa roots) (.sl 1 Aa costs))) 0
def I2 (n:Net) (ranks costs:List Int) (i k:Nat):Bool :=
 let a:=(n.ports.getD i default).dev
 let b:=(n.ports.getD k default).dev
 decide (nth costs a<nth costs b) || (nth costs a == nth costs b && decide (nth ranks a<nth ranks b))
theorem Abx (n:Net) (up:List Bool) (ranks roots costs:List Int) (i k:Nat) (hr:Af n=true) (hrk:ranks.length=n.devices.length) (hc:costs.length=n.devices.length) (hi:i<n.ports.length) (hk:k<n.ports.length) :
  Sy.Spec Tryz.prog 159 [Kg n up ranks roots costs,Aa i,Aa k] [] (Ad (I2 n ranks costs i k)) []:=Ab Γ hm 100 F159 Tryz.ntmps159 rfl fun F hF=>by
 have hd1:=Kn hr hi
 have hd2:=Kn hr hk
 have e1:n.ports[(i:Int).toNat]'qn=n.ports[i]:=rfl
 have e2:n.ports[(k:Int).toNat]'qn=n.ports[k]:=rfl
 have hres:I2 n ranks costs i k=(decide (nth costs n.ports[i].dev<nth costs n.ports[k].dev) || (nth costs n.ports[i].dev == nth costs n.ports[k].dev && decide (nth ranks n.ports[i].dev<nth ranks n.ports[k].dev))):=by
  rw[I2,Az hi,Az hk]
 rw[An qn,An qn,An qn,An qn]at hres
 conv=>whnf
 (repeat' (first | (refine⟨fun h=>?_,fun h=>?_⟩<;>(repeat (first | simp only[decide_eq_true_eq]at h | simp only[decide_eq_false_iff_not]at h | simp only[beq_iff_eq]at h | simp only[beq_eq_false_iff_ne]at h))<;>((refine rd qq ?_);(conv=>whnf))) | (refine Ac rfl (.cons .tmp .nil) ?_ rfl) | (refine⟨qq,?_⟩;((conv=>whnf))) | (refine⟨by (first | omega | (simp only[Int.toNat_natCast];omega)),by (first | omega | (simp only[Int.toNat_natCast];omega)),?_⟩;((conv=>whnf)))))
 all_goals (refine congrArg Ad ?_;rw[hres];clear hF hres hr;simp only[Int.toNat_natCast]at *;grind)
theorem U9 {n:Net} {up:List Bool} (h:Af n=true) {i:Nat} (hi:i<n.ports.length) (hf:0≤Cp n up i):Cp n up i<n.ports.length:=by
 have hp:=Jr h hi
 have hpl:=Li h hi
 simp only[Ij,Bool.and_eq_true,Bool.or_eq_true,beq_iff_eq]at hp
 have hp:=hp.2
 unfold Cp at *
 rw[Az hi]at *
 simp only at *
 split at hf
 ·omega
 ·rename_i hc
  rw[if_neg hc]
  simp only[Bool.or_eq_true,decide_eq_true_eq,not_or]at hc
  rcases hp with hp | hp
  ·omega
  ·have hl:n.ports[i].link.toNat<n.links.length:=by omega
   have he:=Ja h hl
   rw[An hl]at *
   omega
def Vl (n:Net) (up:List Bool) (ranks roots costs:List Int) (dev:Int) (i:Nat):Option Vec :=
 let p:=n.ports.getD i default
 let far:=Cp n up i
 let there:=(nth n.ports far).dev
 if p.dev == dev && decide (0≤far) then some ⟨nth roots there,nth costs there+p.cost,nth ranks there,far,i⟩ else none
def Jj (n:Net) (up:List Bool) (ranks roots costs:List Int) (dev:Int) (j:Nat):List Vec:=(List.range j).filterMap (Vl n up ranks roots costs dev)
theorem Ado (n:Net) (up:List Bool) (ranks roots costs:List Int) (dev:Int) (j:Nat):Jj n up ranks roots costs dev (j+1)=Jj n up ranks roots costs dev j++(Vl n up ranks roots costs dev j).toList:=by
 rw[Jj,List.range_succ,List.filterMap_append]
 cases h:Vl n up ranks roots costs dev j<;>simp[Jj,h]
theorem Qi (n:Net) (up:List Bool) (ranks roots costs:List Int) (dev:Int) (j:Nat):(Jj n up ranks roots costs dev j).length≤j:=by
 have:=List.length_filterMap_le (Vl n up ranks roots costs dev) (List.range j)
 simpa [Jj] using this
def Ml (n:Net) (up:List Bool) (ranks roots costs:List Int) (dev:Int):Int :=
 let r:=Jy (Jj n up ranks roots costs dev n.ports.length)
 if !r.2 || nth roots dev == nth ranks dev then -1 else r.1.own
theorem bestS (n:Net) (up:List Bool) (ranks roots costs:List Int) (dev:Int) (hr:Af n=true) (hu:up.length=n.links.length) (hcost:Cq n=true) (hrk:ranks.length=n.devices.length) (hro:roots.length=n.devices.length) (hc:costs.length=n.devices.length)
  (hb:∀ c∈costs,0≤c∧c<1000000000) (hd:0≤dev∧dev<n.devices.length) :
  Sy.Spec Tryz.prog 160 [Kg n up ranks roots costs,Aa dev] [] (Aa (Ml n up ranks roots costs dev)) []:=Ab Γ hm 100 F160 Tryz.ntmps160 rfl fun F hF=>by
 have hf:=Dh hr
 conv=>whnf
 refine Ca 5 1000 5 Kc E E ?_
 refine A1 n.ports.length (fun j=>[(0,Kg n up ranks roots costs),(1,Aa dev),(5,.osl 1000),(16,.sl 7 A9 n.ports),(17,Aa n.ports.length),(18,Aa j)]) (fun j=>[(1000,.row 5 Kc (Jj n up ranks roots costs dev j))]) []
  ⟨⟨rfl,rfl,rfl,rfl,rfl,rfl,rfl,rfl,rfl,rfl,rfl,rfl,trivial⟩,⟨.inl rfl,rfl,trivial⟩,rfl,rfl⟩ ?_
 intro j hj
 refine rg ?_;conv=>whnf
 refine⟨fun h=>?_,fun h=>?_⟩
 ·have hlt:j<n.ports.length:=by simpa using h
  have e1:n.ports[(j:Int).toNat]'qn=n.ports[j]:=rfl
  have hfar:=farS n up ranks (.sl 1 Aa roots) (.sl 1 Aa costs) rfl j hr hu hlt
  have hfl:=U9 (up:=up) hr hlt
  have hsucc:=Ado n up ranks roots costs dev j
  have hbl:=Qi n up ranks roots costs dev j
  have hcand:Vl n up ranks roots costs dev j=if n.ports[j].dev == dev && decide (0≤Cp n up j) then some ⟨nth roots (nth n.ports (Cp n up j)).dev,nth costs (nth n.ports (Cp n up j)).dev+n.ports[j].cost,nth ranks (nth n.ports (Cp n up j)).dev,Cp n up j,j⟩ else none:=by
   rw[Vl,Az hlt]
  generalize Cp n up j=k at *
  have hpc:1≤n.ports[j].cost∧n.ports[j].cost≤65535:=by
   simp only[Cq,Bool.not_eq_true',List.any_eq_false]at hcost
   have:=hcost _ (List.getElem_mem hlt)
   simp only[Iq,Bool.or_eq_true,decide_eq_true_eq,not_or]at this
   omega
  obtain ⟨p,hp⟩:∃ p,n.ports[j]=p:=⟨_,rfl⟩
  rw[hp]at e1 hcand hpc
  refine rg ?_;conv=>whnf
  refine⟨E,by omega,by omega,?_⟩
  rw[e1]
  conv=>whnf
  refine Ag hfar F158 E E E E E ?_
  refine rg ?_;conv=>whnf
  refine⟨fun h=>?_,fun h=>?_⟩
  ·refine rg ?_;conv=>whnf
   refine⟨fun h2=>?_,fun h2=>?_⟩
   ·have hk0:0≤k:=of_decide_eq_true h2
    have hk1:=hfl hk0
    rw[if_pos (by simp only[Bool.and_eq_true,decide_eq_true_eq];exact⟨h,hk0⟩),An (l:=n.ports) (i:=k) qn]at hcand
    have hpd:=Kn hr (i:=k.toNat) qn
    obtain ⟨q,hq⟩:∃ q,n.ports[k.toNat]'qn=q:=⟨_,rfl⟩
    rw[hq]at hcand hpd
    have hcb:=hb (costs[q.dev.toNat]'qn) (List.getElem_mem _)
    rw[An (l:=roots) (i:=q.dev) qn,An (l:=costs) (i:=q.dev) qn,An (l:=ranks) (i:=q.dev) qn]at hcand
    refine rg ?_;conv=>whnf
    refine⟨E,hk0,by omega,?_⟩
    rw[hq]
    conv=>whnf
    refine⟨qq,?_⟩
    refine⟨by omega,by omega,?_⟩
    conv=>whnf
    refine⟨qq,?_⟩
    refine⟨by omega,by omega,?_⟩
    conv=>whnf
    refine⟨by unfold I64;omega,?_⟩
    conv=>whnf
    refine⟨qq,?_⟩
    refine⟨by omega,by omega,?_⟩
    conv=>whnf
    refine Bs (Al Γ.toTy 72 E E E E E (.row E) (.lit (l:=[(⟨roots[q.dev.toNat]'qn,costs[q.dev.toNat]'qn+p.cost,ranks[q.dev.toNat]'qn,k,j⟩:Vec)]) E E) qy (by simp;omega) (by simp;omega)) qq E ?_
    refine rd qq ?_;conv=>whnf
    refine⟨qq,?_⟩
    conv=>whnf
    refine⟨by unfold I64;omega,?_⟩
    conv=>whnf
    refine Ar [(1000,72)] hlt ⟨⟨E,E,E,E,E,E,E,E,E,E,E,E,Y⟩,⟨.inl (congrArg (Ob.row 5 Kc) ?_),E,Y⟩,E,E⟩
    rw[hsucc,hcand]
    rfl
   ·have hk0:¬ 0≤k:=of_decide_eq_false h2
    rw[if_neg (by simp only[Bool.and_eq_true,decide_eq_true_eq];exact fun hh=>hk0 hh.2)]at hcand
    refine rg ?_;conv=>whnf
    refine⟨by unfold I64;omega,?_⟩
    conv=>whnf
    refine Ar [] hlt ⟨⟨E,E,E,E,E,E,E,E,E,E,E,E,Y⟩,⟨.inl (congrArg (Ob.row 5 Kc) ?_),E,Y⟩,E,E⟩
    rw[hsucc,hcand]
    simp
  ·rw[if_neg (by rw[h];simp)]at hcand
   (refine rg ?_;(conv=>whnf);refine aF ?_;refine rg ?_;conv=>whnf)
   refine⟨by unfold I64;omega,?_⟩
   conv=>whnf
   refine Ar [] hlt ⟨⟨E,E,E,E,E,E,E,E,E,E,E,E,Y⟩,⟨.inl (congrArg (Ob.row 5 Kc) ?_),E,Y⟩,E,E⟩
   rw[hsucc,hcand]
   simp
 ·have hjl:j=n.ports.length:=by
   have:¬ j<n.ports.length:=by simpa using h
   omega
  subst hjl
  have hbl:=Qi n up ranks roots costs dev n.ports.length
  have hbi:Ml n up ranks roots costs dev=if !(Jy (Jj n up ranks roots costs dev n.ports.length)).2 || nth roots dev == nth ranks dev then -1 else (Jy (Jj n up ranks roots costs dev n.ports.length)).1.own:=rfl
  rw[An qn,An qn]at hbi
  have hls:=leastS (Jj n up ranks roots costs dev n.ports.length) (by unfold Am;omega)
  generalize Jy (Jj n up ranks roots costs dev n.ports.length)=r at hls hbi
  obtain ⟨v,ok⟩:=r
  simp only at hls hbi
  rw[hbi]
  refine rg ?_;conv=>whnf
  refine At 1000 E ?_
  refine Ag hls F236 E E E E E ?_
  refine rg ?_;conv=>whnf
  (repeat' (first | (refine⟨fun h=>?_,fun h=>?_⟩<;>(repeat (first | simp only[beq_iff_eq]at h | simp only[beq_eq_false_iff_ne]at h | simp only[Bool.not_eq_true']at h | simp only[Bool.not_eq_false']at h))<;>((first|refine rg ?_|refine rd qq ?_);(conv=>whnf))) | (refine Ac rfl (.cons .tmp .nil) ?_ rfl) | (refine⟨qq,?_⟩;((conv=>whnf);repeat((refine aT ?_);(refine rg ?_);(conv=>whnf)))) | (refine⟨by (omega),by (omega),?_⟩;((conv=>whnf)))))
  all_goals (refine congrArg Aa ?_;clear hF hls hbi;grind)
theorem best_lt {n:Net} {up:List Bool} {ranks roots costs:List Int} {dev:Int} (h:0≤Ml n up ranks roots costs dev):Ml n up ranks roots costs dev<n.ports.length:=by
 have hmem:=@leastR_mem (Jj n up ranks roots costs dev n.ports.length)
 unfold Ml at *
 simp only at *
 split at h
 ·omega
 ·rename_i hc
  rw[if_neg hc]
  simp only[Bool.or_eq_true,Bool.not_eq_true',not_or]at hc
  have h2:=hmem (by simpa using hc.1)
  obtain ⟨i,hi,he⟩:=List.mem_filterMap.1 h2
  have hi:=List.mem_range.1 hi
  unfold Vl at he
  simp only at he
  split at he
  ·have e:=congrArg Vec.own (Option.some.inj he)
   simp only at e
   omega
  ·cases he
def Ad8 (n:Net) (up:List Bool) (ranks costs:List Int) (i:Nat):Int :=
 if Cp n up i<0 then 0 else if I2 n ranks costs i (Cp n up i).toNat then 2 else 3
def Ex (n:Net) (up:List Bool) (ranks costs:List Int) (j:Nat):List Int:=(List.range n.ports.length).map fun i=>if i<j then Ad8 n up ranks costs i else 0
theorem L7 (n:Net) (up:List Bool) (ranks costs:List Int) (j:Nat):(Ex n up ranks costs j).length=n.ports.length:=by simp[Ex]
theorem Zp (n:Net) (up:List Bool) (ranks costs:List Int):Ex n up ranks costs 0=List.replicate n.ports.length 0:=by
 rw[Ex]
 exact List.ext_getElem qy qy
theorem Zq (n:Net) (up:List Bool) (ranks costs:List Int) (j:Nat) (hj:j<n.ports.length):Ex n up ranks costs (j+1)=(Ex n up ranks costs j).set j (Ad8 n up ranks costs j):=by
 refine List.ext_getElem (by simp[Ex]) (fun i h1 h2=>?_)
 rw[List.getElem_set]
 simp only[Ex,List.getElem_map,List.getElem_range]
 rcases Nat.lt_trichotomy i j with h | h | h
 ·rw[if_pos qn,if_neg qn,if_pos h]
 ·subst h;rw[if_pos qn,if_pos rfl]
 ·rw[if_neg qn,if_neg qn,if_neg qn]
theorem Zr (n:Net) (up:List Bool) (ranks costs:List Int) (j:Nat) (h:Ad8 n up ranks costs j=0):Ex n up ranks costs (j+1)=Ex n up ranks costs j:=by
 simp only[Ex]
 refine List.map_congr_left (fun i _=>?_)
 by_cases hij:i<j
 ·rw[if_pos qn,if_pos hij]
 ·by_cases he:i=j
  ·subst he;rw[if_pos qn,if_neg hij,h]
  ·rw[if_neg qn,if_neg hij]
def Iu (n:Net) (up:List Bool) (ranks roots costs:List Int):Nat→List Int
 | 0=>Ex n up ranks costs n.ports.length
 | d+1=>if 0≤Ml n up ranks roots costs d then (Iu n up ranks roots costs d).set (Ml n up ranks roots costs d).toNat 1 else Iu n up ranks roots costs d
theorem E5 (n:Net) (up:List Bool) (ranks roots costs:List Int):∀ d,(Iu n up ranks roots costs d).length=n.ports.length
 | 0=>L7 n up ranks costs _
 | d+1=>by
  rw[Iu]
  split
  ·rw[List.length_set,E5]
  ·rw[E5]
theorem rolesS (n:Net) (up:List Bool) (ranks roots costs:List Int) (hr:Af n=true) (hu:up.length=n.links.length) (hcost:Cq n=true) (hrk:ranks.length=n.devices.length) (hro:roots.length=n.devices.length) (hc:costs.length=n.devices.length)
  (hb:∀ c∈costs,0≤c∧c<1000000000) :
  Sy.Spec Tryz.prog 85 [Kg n up ranks roots costs] [] (.sl 1 Aa (Iu n up ranks roots costs n.devices.length)) []:=Ab Γ hm 100 F85 Tryz.ntmps85 rfl fun F hF=>by
 have hf:=Dh hr
 conv=>whnf
 refine Ah (Bt Γ.toTy (d:=14) (n:=n.ports.length) Aa 0 E E E E E E E E qn qn E E E) E E ?_
 rw[← Zp n up ranks costs]
 refine rg ?_;conv=>whnf
 refine A1 n.ports.length (fun j=>[(0,Kg n up ranks roots costs),(3,.osl 14),(20,Aa n.ports.length),(21,Aa j)]) (fun j=>[(14,.row 1 Aa (Ex n up ranks costs j))]) []
  ⟨⟨rfl,rfl,rfl,rfl,rfl,rfl,rfl,rfl,trivial⟩,⟨.inl rfl,rfl,trivial⟩,rfl,rfl⟩ ?_
 intro j hj
 refine rg ?_;conv=>whnf
 refine⟨fun h=>?_,fun h=>?_⟩
 ·have hlt:j<n.ports.length:=by simpa using h
  have hfar:=farS n up ranks (.sl 1 Aa roots) (.sl 1 Aa costs) rfl j hr hu hlt
  have hfl:=U9 (up:=up) hr hlt
  have hlen:=L7 n up ranks costs j
  have hrole:Ad8 n up ranks costs j=if Cp n up j<0 then 0 else if I2 n ranks costs j (Cp n up j).toNat then 2 else 3:=rfl
  have hsucc:=Zq n up ranks costs j hlt
  have hsame:=Zr n up ranks costs j
  generalize Cp n up j=k at *
  refine rg ?_;conv=>whnf
  refine Ag hfar F158 E E E E E ?_
  refine rg ?_;conv=>whnf
  refine⟨fun h=>?_,fun h=>?_⟩
  ·have hk:k<0:=of_decide_eq_true h
   rw[if_pos hk]at hrole
   refine rg ?_;conv=>whnf
   refine⟨by unfold I64;omega,?_⟩
   conv=>whnf
   exact Ar [] hlt ⟨⟨E,E,E,E,E,E,E,E,Y⟩,⟨.inl (congrArg (Ob.row 1 Aa) (hsame hrole)),E,Y⟩,E,E⟩
  have hk:¬ k<0:=of_decide_eq_false h
  rw[if_neg hk]at hrole
  obtain ⟨m,rfl⟩:∃ m:Nat,k=m:=⟨k.toNat,by omega⟩
  have hah:=Abx n up ranks roots costs j m hr hrk hc hlt qn
  rw[Int.toNat_natCast]at hrole
  refine rg ?_;conv=>whnf
  refine Ag hah F159 E E E E E ?_
  refine rg ?_;conv=>whnf
  refine⟨fun h=>?_,fun h=>?_⟩
  ·rw[h,if_pos rfl]at hrole
   rw[hrole]at hsucc
   refine rg ?_;conv=>whnf
   refine⟨by omega,by omega,?_⟩
   conv=>whnf
   refine⟨E,by omega,2,E,E,?_⟩
   conv=>whnf
   refine⟨by unfold I64;omega,?_⟩
   conv=>whnf
   exact Ar [] hlt ⟨⟨E,E,E,E,E,E,E,E,Y⟩,⟨.inl (congrArg (Ob.row 1 Aa) hsucc),E,Y⟩,E,E⟩
  ·rw[h]at hrole
   simp only[Bool.false_eq_true,if_false]at hrole
   rw[hrole]at hsucc
   refine rg ?_;conv=>whnf
   refine⟨by omega,by omega,?_⟩
   conv=>whnf
   refine⟨E,by omega,3,E,E,?_⟩
   conv=>whnf
   refine⟨by unfold I64;omega,?_⟩
   conv=>whnf
   exact Ar [] hlt ⟨⟨E,E,E,E,E,E,E,E,Y⟩,⟨.inl (congrArg (Ob.row 1 Aa) hsucc),E,Y⟩,E,E⟩
 have hjl:j=n.ports.length:=by
  have:¬ j<n.ports.length:=by simpa using h
  omega
 subst hjl
 refine rg ?_;conv=>whnf
 refine A1 n.devices.length (fun d=>[(0,Kg n up ranks roots costs),(3,.osl 14),(47,Aa n.devices.length),(48,Aa d)]) (fun d=>[(14,.row 1 Aa (Iu n up ranks roots costs d))]) []
  ⟨⟨rfl,rfl,rfl,rfl,rfl,rfl,rfl,rfl,trivial⟩,⟨.inl rfl,rfl,trivial⟩,rfl,rfl⟩ ?_
 clear hj h
 intro d hdle
 refine rg ?_;conv=>whnf
 refine⟨fun h=>?_,fun h=>?_⟩
 ·have hlt:d<n.devices.length:=by simpa using h
  have hbs:=bestS n up ranks roots costs d hr hu hcost hrk hro hc hb qn
  have hbl:=@best_lt n up ranks roots costs d
  have hlen:=E5 n up ranks roots costs d
  have hsucc:Iu n up ranks roots costs (d+1)=if 0≤Ml n up ranks roots costs d then (Iu n up ranks roots costs d).set (Ml n up ranks roots costs d).toNat 1 else Iu n up ranks roots costs d:=rfl
  generalize Ml n up ranks roots costs d=k at *
  refine rg ?_;conv=>whnf
  refine Ag hbs F160 E E E E E ?_
  refine rg ?_;conv=>whnf
  refine⟨fun h=>?_,fun h=>?_⟩
  ·have hk:0≤k:=of_decide_eq_true h
   rw[if_pos hk]at hsucc
   refine rg ?_;conv=>whnf
   refine⟨hk,by omega,?_⟩
   conv=>whnf
   refine⟨E,by omega,1,E,E,?_⟩
   conv=>whnf
   refine⟨by unfold I64;omega,?_⟩
   conv=>whnf
   exact Ar [] hlt ⟨⟨E,E,E,E,E,E,E,E,Y⟩,⟨.inl (congrArg (Ob.row 1 Aa) hsucc),E,Y⟩,E,E⟩
  ·have hk:¬ 0≤k:=of_decide_eq_false h
   rw[if_neg hk]at hsucc
   refine rg ?_;conv=>whnf
   refine⟨by unfold I64;omega,?_⟩
   conv=>whnf
   exact Ar [] hlt ⟨⟨E,E,E,E,E,E,E,E,Y⟩,⟨.inl (congrArg (Ob.row 1 Aa) hsucc),E,Y⟩,E,E⟩
 have hdl:d=n.devices.length:=by
  have:¬ d<n.devices.length:=by simpa using h
  omega
 subst hdl
 refine rg ?_;conv=>whnf
 refine At 14 E ?_
 exact Ac E (.cons .tmp .nil) E E
def Wj (n:Net) (up:List Bool) (ranks:List Int) (roots costs:List Int):Obs:=[(0,.box (L6 n up ranks (.osl 1) (.osl 2))),(1,.row 1 Aa roots),(2,.row 1 Aa costs)]
theorem farR (n:Net) (up:List Bool) (ranks roots costs:List Int) (i:Nat) (hr:Af n=true) (hu:up.length=n.links.length) (hi:i<n.ports.length) :
  Sy.Spec Tryz.prog 158 [.ptr 0 0,Aa i] (Wj n up ranks roots costs) (Aa (Cp n up i)) (Wj n up ranks roots costs):=Ab Γ hm 100 F158 Tryz.ntmps158 rfl fun F hF=>by
 have hpl:=Li hr hi
 have hf:=Dh hr
 have e1:n.ports[(i:Int).toNat]'qn=n.ports[i]:=rfl
 have hfar:Cp n up i=if n.ports[i].link<0 || !(up.getD n.ports[i].link.toNat false) then -1 else (nth n.links n.ports[i].link).a+(nth n.links n.ports[i].link).b-i:=by
  rw[Cp,Az hi]
 generalize hp:n.ports[i]=p at *
 have hle:=fun h=>Ja hr (i:=p.link.toNat) h
 conv=>whnf
 refine⟨E,by omega,by omega,?_⟩
 rw[e1]
 conv=>whnf
 (repeat' (first | (refine⟨fun h=>?_,fun h=>?_⟩<;>(repeat (first | simp only[decide_eq_true_eq]at h | simp only[decide_eq_false_iff_not]at h | simp only[Bool.not_eq_true']at h | simp only[Bool.not_eq_false']at h))<;>((first|refine rg ?_|refine rd qq ?_);(conv=>whnf))) | (refine⟨qq,?_⟩;((conv=>whnf);repeat((refine aT ?_);(refine rg ?_);(conv=>whnf)))) | (refine⟨by (first | omega | ((have hq:=hle qn;unfold I64;omega))),by (first | omega | ((have hq:=hle qn;unfold I64;omega))),?_⟩;((conv=>whnf))) | refine done rfl (.cons .tmp .nil) [] (Wj n up ranks roots costs) (fun _ h=>h) ?_ rfl ⟨trivial,⟨.inl rfl,rfl,.inl rfl,rfl,.inl rfl,rfl,trivial⟩,rfl,rfl⟩))
 all_goals (refine congrArg Aa ?_;rw[hfar])
 ·simp_all
 ·have h1:up.getD p.link.toNat false=false:=by rw[Az qn];assumption
  rw[h1];simp
 ·have h1:up.getD p.link.toNat false=true:=by rw[Az qn];assumption
  rw[h1,An qn]
  simp_all
def Cj (n:Net) (up:List Bool) (x:Item) (q:List Item) (i:Nat):List Item :=
 if (n.ports.getD i default).dev=x.dev∧0≤Cp n up i then L9 q ⟨x.root,x.cost+(nth n.ports (Cp n up i)).cost,(nth n.ports (Cp n up i)).dev⟩ else q
def Jt (n:Net) (up:List Bool) (s:List Item × List Int × List Int):List Item × List Int × List Int :=
 let x:=(Cb s.1).getLast?.getD default
 let q:=(Cb s.1).dropLast
 if 0≤nth s.2.1 x.dev then (q,s.2) else ((List.range n.ports.length).foldl (Cj n up x) q,s.2.1.set x.dev.toNat x.root,s.2.2.set x.dev.toNat x.cost)
def D2 (n:Net) (up:List Bool):Nat→List Item × List Int × List Int→List Item × List Int × List Int
 | 0,s=>s
 | f+1,s=>if s.1=[] then s else D2 n up f (Jt n up s)
end Go.Sy.YtmelpejjondedaaGreat
namespace Go.Sy.YtmelpejjondedaaGreat
theorem Mo (q:List Item) (i j:Nat) (hi:i<q.length) (hj:j<q.length):(C3 q i j).Perm q:=by
 rw[C3,Az hi,Az hj]
 exact List.set_set_perm hi hj
theorem Y9:∀ (f:Nat) (q:List Item) (j:Nat),j<q.length→(upF f q j).Perm q
 | 0,_,_,_=>.refl _
 | f+1,q,j,hj=>by
  rw[upF]
  split
  ·exact .refl _
  ·split
   ·exact(Y9 f _ _ (by rw[Av];omega)).trans (Mo q _ _ qn hj)
   ·exact .refl _
theorem Ve:∀ (f:Nat) (q:List Item) (i n:Nat),i<q.length→n≤q.length→(Cz f q i n).1.Perm q
 | 0,_,_,_,_,_=>.refl _
 | f+1,q,i,n,hi,hn=>by
  rw[Cz]
  split
  ·rename_i h
   have hc:=Ji q i n h
   split
   ·exact(Ve f _ _ n (by rw[Av];omega) (by rw[Av];exact hn)).trans (Mo q _ _ hi qn)
   ·exact .refl _
  ·exact .refl _
theorem Jv (q:List Item) (x:Item):(L9 q x).Perm (x::q) :=
 (Y9 _ _ _ qy).trans (List.perm_append_comm (l₁:=q) (l₂:=[x]))
theorem Hs (q:List Item) (x:Item):(L9 q x).length=q.length+1:=by rw[L9,Ts];simp
theorem Lj (q:List Item) (hq:q≠[]):(Cb q).Perm q:=by
 have h0:0<q.length:=List.length_pos_iff.2 hq
 exact(Ve _ _ _ _ (by rw[Av];exact h0) (by rw[Av];omega)).trans (Mo q _ _ h0 qn)
def Ig (q:List Item) (n:Nat):Prop:=∀ c,0<c→c<n→c<q.length→Bo (q.getD c default) (q.getD ((c-1) / 2) default)=false
theorem J0 {x y z:Item} (h1:Bo y x=false) (h2:Bo z y=false):Bo z x=false:=by
 unfold Bo at *
 grind
theorem Ac4 {q:List Item} {n:Nat} (h:Ig q n) (hn:n≤q.length):∀ c,c<n→Bo (q.getD c default) (q.getD 0 default)=false:=by
 intro c
 induction c using Nat.strongRecOn with
 | ind c ih =>
  intro hc
  rcases Nat.eq_zero_or_pos c with h0 | h0
  ·subst h0;unfold Bo;grind
  ·have h1:=h c h0 hc qn
   have h2:=ih ((c-1) / 2) qn qn
   exact J0 h2 h1
theorem Dd (q:List Item) (i j c:Nat) (hi:i<q.length) (hj:j<q.length):(C3 q i j).getD c default=if c=j then q.getD i default else if c=i then q.getD j default else q.getD c default:=by
 rw[C3]
 simp only[List.getD_eq_getElem?_getD,List.getElem?_set,List.length_set]
 by_cases h1:c=j
 ·subst h1;simp[hj]
 ·rw[if_neg (Ne.symm h1),if_neg h1]
  by_cases h2:c=i
  ·subst h2;simp[hi]
  ·rw[if_neg (Ne.symm h2),if_neg h2]
theorem J1 {x y:Item} (h:Bo x y=true):Bo y x=false:=by
 unfold Bo at *
 grind
structure UpInv (q:List Item) (j n:Nat):Prop where
 heap:∀ c,0<c→c<n→c≠j→Bo (q.getD c default) (q.getD ((c-1) / 2) default)=false
 over:∀ c,0<c→c<n→(c-1) / 2=j→0<j→Bo (q.getD c default) (q.getD ((j-1) / 2) default)=false
theorem Za (n:Nat):∀ (f:Nat) (q:List Item) (j:Nat),j≤f→j<n→n≤q.length→UpInv q j n→Ig (upF f q j) n
 | 0,q,j,hf,hj,hn,hI=>by
  have:j=0:=by omega
  subst this
  exact fun c h0 hc _=>hI.heap c h0 hc qn
 | f+1,q,j,hf,hj,hn,hI=>by
  rw[upF]
  split
  ·rename_i h0
   subst h0
   exact fun c h0 hc _=>hI.heap c h0 hc qn
  ·rename_i h0
   split
   ·rename_i hlt
    have hp:(j-1) / 2<j:=by omega
    refine Za n f _ _ qn qn (by rw[Av];exact hn) ⟨fun c hc0 hcn hcp=>?_,fun c hc0 hcn hpar hp0=>?_⟩
    ·rw[Dd _ _ _ _ qn qn,Dd _ _ _ _ qn qn]
     by_cases hcj:c=j
     ·subst hcj
      rw[if_pos rfl,if_neg qn,if_pos rfl]
      exact J1 hlt
     ·rw[if_neg hcj,if_neg hcp]
      by_cases hpj:(c-1) / 2=j
      ·rw[if_pos hpj]
       exact hI.over c hc0 hcn hpj qn
      ·rw[if_neg hpj]
       by_cases hpp:(c-1) / 2=(j-1) / 2
       ·rw[if_pos hpp]
        have:=hI.heap c hc0 hcn hcj
        rw[hpp]at this
        exact J0 (J1 hlt) this
       ·rw[if_neg hpp]
        exact hI.heap c hc0 hcn hcj
    ·rw[Dd _ _ _ _ qn qn,Dd _ _ _ _ qn qn]
     have hpI:=hI.heap ((j-1) / 2) hp0 qn qn
     rw[if_neg (show ((j-1) / 2-1) / 2≠j by omega),if_neg (show ((j-1) / 2-1) / 2≠(j-1) / 2 by omega)]
     by_cases hcj:c=j
     ·rw[if_pos hcj];exact hpI
     ·rw[if_neg hcj,if_neg qn]
      have:=hI.heap c hc0 hcn hcj
      rw[hpar]at this
      exact J0 hpI this
   ·rename_i hlt
    intro c hc0 hcn _
    by_cases hcj:c=j
    ·subst hcj;simpa using hlt
    ·exact hI.heap c hc0 hcn hcj
theorem Jc {q r:List Item} {c:Nat} (h:c<q.length):(q++r).getD c default=q.getD c default:=by
 simp[List.getD_eq_getElem?_getD,List.getElem?_append_left h]
theorem Uh (q:List Item) (x:Item) (h:Ig q q.length):Ig (L9 q x) (L9 q x).length:=by
 rw[Hs]
 refine Za (q.length+1) _ _ _ (Nat.le_refl _) qn qy ⟨fun c hc0 hcn hcj=>?_,fun c hc0 hcn hpar hp0=>by omega⟩
 rw[Jc qn,Jc qn]
 exact h c hc0 qn qn
structure DownInv (q:List Item) (i n:Nat):Prop where
 heap:∀ c,0<c→c<n→(c-1) / 2≠i→Bo (q.getD c default) (q.getD ((c-1) / 2) default)=false
 over:∀ c,0<c→c<n→(c-1) / 2=i→0<i→Bo (q.getD c default) (q.getD ((i-1) / 2) default)=false
theorem Ags (q:List Item) (i n c:Nat) (_h:2 * i+1<n) (hc0:0<c) (hc:c<n) (hp:(c-1) / 2=i):Bo (q.getD c default) (q.getD (Cy q i n) default)=false:=by
 have hcc:c=2 * i+1∨c=2 * i+2:=by omega
 unfold Cy
 split
 ·rename_i hh
  rcases hcc with rfl | rfl
  ·exact J1 hh.2
  ·unfold Bo;grind
 ·rename_i hh
  rcases hcc with rfl | rfl
  ·unfold Bo;grind
  ·cases hlt:Bo (q.getD (2 * i+2) default) (q.getD (2 * i+1) default) with
   | false=>rfl
   | true=>exact absurd ⟨hc,hlt⟩ hh
theorem Vf (n:Nat):∀ (f:Nat) (q:List Item) (i:Nat),n≤f+i→i<q.length→n≤q.length→DownInv q i n→Ig (Cz f q i n).1 n
 | 0,q,i,hf,hi,hn,hI=>fun c hc0 hc _=>hI.heap c hc0 hc qn
 | f+1,q,i,hf,hi,hn,hI=>by
  rw[Cz]
  split
  ·rename_i h
   have hcl:=Ji q i n h
   have hpar:(Cy q i n-1) / 2=i:=by unfold Cy;split<;>omega
   have hle:=fun c=>Ags q i n c h
   generalize Cy q i n=k at *
   split
   ·rename_i hlt
    refine Vf n f _ _ qn (by rw[Av];omega) (by rw[Av];exact hn) ⟨fun c hc0 hcn hck=>?_,fun c hc0 hcn hcp hk0=>?_⟩
    ·rw[Dd _ _ _ _ hi qn,Dd _ _ _ _ hi qn,if_neg hck]
     by_cases hc1:c=k
     ·subst hc1
      rw[if_pos rfl,if_pos hpar]
      exact J1 hlt
     ·rw[if_neg hc1]
      by_cases hc2:c=i
      ·subst hc2
       rw[if_pos rfl,if_neg qn]
       exact hI.over k qn hcl.1 hpar hc0
      ·rw[if_neg hc2]
       by_cases hc3:(c-1) / 2=i
       ·rw[if_pos hc3];exact hle c hc0 hcn hc3
       ·rw[if_neg hc3];exact hI.heap c hc0 hcn hc3
    ·rw[Dd _ _ _ _ hi qn,Dd _ _ _ _ hi qn]
     rw[if_neg qn,if_neg qn,hpar,if_neg qn,if_pos rfl]
     have:=hI.heap c hc0 hcn qn
     rwa [hcp]at this
   ·rename_i hlt
    intro c hc0 hcn _
    by_cases hc3:(c-1) / 2=i
    ·rw[hc3]
     exact J0 (by simpa using hlt) (hle c hc0 hcn hc3)
    ·exact hI.heap c hc0 hcn hc3
  ·exact fun c hc0 hc _=>hI.heap c hc0 hc qn
theorem Vd (n:Nat):∀ (f:Nat) (q:List Item) (i c:Nat),i<n→n≤q.length→n≤c→(Cz f q i n).1.getD c default=q.getD c default
 | 0,_,_,_,_,_,_=>rfl
 | f+1,q,i,c,hi,hn,hc=>by
  rw[Cz]
  split
  ·rename_i h
   have hcl:=Ji q i n h
   split
   ·rw[Vd n f _ _ c qn (by rw[Av];exact hn) hc,Dd _ _ _ _ qn qn,if_neg qn,if_neg qn]
   ·rfl
  ·rfl
theorem Zy (q:List Item) (hq:q≠[]):(Cb q).getLast (C1 hq)=q.getD 0 default:=by
 have h0:0<q.length:=List.length_pos_iff.2 hq
 rw[List.getLast_eq_getElem,← Az (show (Cb q).length-1<(Cb q).length by rw[C7];omega),C7]
 by_cases h1:q.length=1
 ·have:Cb q=q:=by
   obtain ⟨x,rfl⟩:=List.length_eq_one_iff.1 h1
   rfl
  rw[this,h1]
 ·rw[Cb,Vd _ _ _ _ _ qn (by rw[Av];omega) (Nat.le_refl _),Dd _ _ _ _ h0 qn,if_pos rfl]
theorem Afo (q:List Item) (hq:q≠[]):(Cb q).dropLast++[q.getD 0 default]=Cb q:=by
 rw[← Zy q hq];exact List.dropLast_concat_getLast (C1 hq)
theorem Ah5 (q:List Item) (hq:q≠[]):(q.getD 0 default::(Cb q).dropLast).Perm q :=
 ((List.perm_append_comm (l₁:=[q.getD 0 default]) (l₂:=(Cb q).dropLast)).trans (by rw[Afo q hq])).trans (Lj q hq)
theorem Ah6 (q:List Item) (hq:q≠[]) (h:Ig q q.length):Ig (Cb q).dropLast (Cb q).dropLast.length:=by
 have h0:0<q.length:=List.length_pos_iff.2 hq
 have hd:(Cb q).dropLast.length=q.length-1:=by rw[List.length_dropLast,C7]
 have hh:Ig (Cb q) (q.length-1):=by
  rw[Cb]
  refine Vf (q.length-1) _ _ _ qn (by rw[Av];exact h0) (by rw[Av];omega) ⟨fun c hc0 hcn hp=>?_,fun c hc0 hcn hp h=>by omega⟩
  rw[Dd _ _ _ _ h0 qn,Dd _ _ _ _ h0 qn,if_neg qn,if_neg qn,if_neg qn,if_neg hp]
  exact h c hc0 qn qn
 intro c hc0 hcn _
 rw[hd]at hcn
 have hl:=C7 q
 have e:∀ k,k<q.length-1→(Cb q).dropLast.getD k default=(Cb q).getD k default:=fun k hk=>by
  rw[Az (show k<(Cb q).dropLast.length by omega),Az (show k<(Cb q).length by omega),List.getElem_dropLast]
 rw[e c hcn,e _ qn]
 exact hh c hc0 hcn qn
theorem Afp (q:List Item) (h:Ig q q.length):∀ x∈q,Bo x (q.getD 0 default)=false:=fun x hx=>by
 obtain ⟨c,hc,rfl⟩:=List.getElem_of_mem hx
 have:=Ac4 h (Nat.le_refl _) c hc
 rwa [Az hc]at this
def Da (ranks:List Int) (j:Nat):List Item:=(List.range j).foldl (fun q (i:Nat)=>L9 q ⟨ranks.getD i 0,0,i⟩) []
theorem Hb (ranks:List Int) (j:Nat):Da ranks (j+1)=L9 (Da ranks j) ⟨ranks.getD j 0,0,j⟩:=by
 rw[Da,List.range_succ,List.foldl_append];rfl
theorem It (ranks:List Int):∀ j,(Da ranks j).length=j
 | 0=>rfl
 | j+1=>by rw[Hb,Hs,It ranks j]
def Ou (roots:List Int):Nat:=roots.countP (fun r=>decide (r<0))
def reachM (s:List Item × List Int × List Int):Nat:=41 * Ou s.2.1+s.1.length
structure ReachInv (n:Net) (s:List Item × List Int × List Int):Prop where
 rootsL:s.2.1.length=n.devices.length
 costsL:s.2.2.length=n.devices.length
 items:∀ x∈s.1,0≤x.dev∧x.dev<n.devices.length∧0≤x.root∧0≤x.cost∧x.cost+65535 * Ou s.2.1≤65535 * n.devices.length
 few:s.1.length+40 * Ou s.2.1≤1000
theorem Aio (roots:List Int):Ou roots≤roots.length:=List.countP_le_length
theorem Afz {roots:List Int} {i:Nat} {v:Int} (h:i<roots.length) (h0:roots[i]<0) (hv:0≤v):Ou (roots.set i v)+1=Ou roots:=by
 have h1:0<roots.countP (fun r=>decide (r<0)):=List.countP_pos_iff.2 ⟨roots[i],List.getElem_mem h,by simpa using h0⟩
 have hv':¬ v<0:=by omega
 rw[Ou,Ou,List.countP_set h]
 simp only[h0,hv',decide_true,decide_false,if_true,Bool.false_eq_true,if_false]
 omega
theorem Xw (n:Net) (up:List Bool) (x:Item) (hr:Af n=true) (hcost:Cq n=true) {m:Nat} (hx:0≤x.root∧0≤x.cost∧x.cost+65535 * (m+1)≤65535 * n.devices.length) (q:List Item)
  (hq:∀ y∈q,0≤y.dev∧y.dev<n.devices.length∧0≤y.root∧0≤y.cost∧y.cost+65535 * m≤65535 * n.devices.length) (i:Nat) (hi:i<n.ports.length) :
  (∀ y∈Cj n up x q i,0≤y.dev∧y.dev<n.devices.length∧0≤y.root∧0≤y.cost∧y.cost+65535 * m≤65535 * n.devices.length)∧(Cj n up x q i).length≤q.length+1:=by
 rw[Cj]
 split
 ·rename_i h
  have hlt:=U9 hr hi h.2
  have hk:(Cp n up i).toNat<n.ports.length:=by omega
  have hd:=Kn hr hk
  have hpc:1≤n.ports[(Cp n up i).toNat].cost∧n.ports[(Cp n up i).toNat].cost≤65535:=by
   simp only[Cq,Bool.not_eq_true',List.any_eq_false]at hcost
   have:=hcost _ (List.getElem_mem hk)
   simp only[Iq,Bool.or_eq_true,decide_eq_true_eq,not_or]at this
   omega
  have e:nth n.ports (Cp n up i)=n.ports[(Cp n up i).toNat]:=An (l:=n.ports) (i:=Cp n up i) qn
  rw[e]
  refine⟨fun y hy=>?_,by rw[Hs];omega⟩
  rcases List.mem_cons.1 ((Jv q _).mem_iff.1 hy) with rfl | hy
  ·simp only
   omega
  ·exact hq y hy
 ·exact⟨hq,by omega⟩
theorem Ud (n:Net) (up:List Bool) (x:Item) (hr:Af n=true) (hcost:Cq n=true) {m:Nat} (hx:0≤x.root∧0≤x.cost∧x.cost+65535 * (m+1)≤65535 * n.devices.length) (q:List Item)
  (hq:∀ y∈q,0≤y.dev∧y.dev<n.devices.length∧0≤y.root∧0≤y.cost∧y.cost+65535 * m≤65535 * n.devices.length):∀ i,i≤n.ports.length →
  (∀ y∈(List.range i).foldl (Cj n up x) q,0≤y.dev∧y.dev<n.devices.length∧0≤y.root∧0≤y.cost∧y.cost+65535 * m≤65535 * n.devices.length)∧((List.range i).foldl (Cj n up x) q).length≤q.length+i
 | 0,_=>⟨hq,by simp⟩
 | i+1,hi=>by
  obtain ⟨h1,h2⟩:=Ud n up x hr hcost hx q hq i qn
  rw[List.range_succ,List.foldl_append]
  obtain ⟨h3,h4⟩:=Xw n up x hr hcost hx _ h1 i qn
  exact⟨h3,by simp only[List.foldl_cons,List.foldl_nil];omega⟩
theorem Ut {q:List Item} (hq:q≠[]):(Cb q).getLast?.getD default=(Cb q).getLast (C1 hq):=by
 rw[List.getLast?_eq_some_getLast (C1 hq)];rfl
theorem H2 (n:Net) (up:List Bool) (hr:Af n=true) (hcost:Cq n=true) (s:List Item × List Int × List Int) (hI:ReachInv n s) (hne:s.1≠[]):ReachInv n (Jt n up s)∧reachM (Jt n up s)<reachM s:=by
 have hf:=Dh hr
 have hx:=hI.items _ ((Lj s.1 hne).mem_iff.1 (List.getLast_mem (C1 hne)))
 have hd:∀ y∈(Cb s.1).dropLast,y∈s.1:=fun y hy=>(Lj s.1 hne).mem_iff.1 ((List.dropLast_sublist _).subset hy)
 have h0:0<s.1.length:=List.length_pos_iff.2 hne
 have hdl:(Cb s.1).dropLast.length+1=s.1.length:=by rw[List.length_dropLast,C7];omega
 have hfew:=hI.few
 rw[Jt,Ut hne]
 generalize (Cb s.1).getLast (C1 hne)=x at *
 split
 ·exact⟨⟨hI.rootsL,hI.costsL,fun y hy=>hI.items y (hd y hy),by simp only;omega⟩,by unfold reachM;simp only;omega⟩
 ·rename_i hneg
  have hk:x.dev.toNat<s.2.1.length:=by rw[hI.rootsL];omega
  rw[An (l:=s.2.1) (i:=x.dev) (by rw[hI.rootsL];omega)]at hneg
  have hm:=Afz hk qn hx.2.2.1
  obtain ⟨h1,h2⟩:=Ud n up x hr hcost (m:=Ou (s.2.1.set x.dev.toNat x.root)) ⟨hx.2.2.1,hx.2.2.2.1,by have:=hx.2.2.2.2;omega⟩ (Cb s.1).dropLast (fun y hy=>by have:=hI.items y (hd y hy);omega) n.ports.length (Nat.le_refl _)
  exact⟨⟨by simp only[List.length_set];exact hI.rootsL,by simp only[List.length_set];exact hI.costsL,h1,by simp only;omega⟩,by unfold reachM;simp only;omega⟩
theorem Si (n:Net) (up:List Bool) (hr:Af n=true) (hcost:Cq n=true):∀ (f g:Nat) (s:List Item × List Int × List Int),ReachInv n s→reachM s≤f→reachM s≤g→D2 n up f s=D2 n up g s
 | 0,0,_,_,_,_=>rfl
 | 0,g+1,s,_,h,_=>by
  have:s.1=[]:=List.eq_nil_of_length_eq_zero (by unfold reachM at h;omega)
  rw[D2,D2,if_pos this]
 | f+1,0,s,_,_,h=>by
  have:s.1=[]:=List.eq_nil_of_length_eq_zero (by unfold reachM at h;omega)
  rw[D2,D2,if_pos this]
 | f+1,g+1,s,hI,h1,h2=>by
  rw[D2,D2]
  split
  ·rfl
  ·rename_i hne
   obtain ⟨h3,h4⟩:=H2 n up hr hcost s hI hne
   exact Si n up hr hcost f g _ h3 qn qn
def Hg (n:Net) (up:List Bool) (s:List Item × List Int × List Int):List Item × List Int × List Int:=D2 n up (reachM s) s
theorem Ab5 (n:Net) (up:List Bool) (s:List Item × List Int × List Int) (h:s.1=[]):Hg n up s=s:=by
 rw[Hg]
 cases reachM s with
 | zero=>rfl
 | succ m=>rw[D2,if_pos h]
theorem Zu (n:Net) (up:List Bool) (hr:Af n=true) (hcost:Cq n=true) (s:List Item × List Int × List Int) (hI:ReachInv n s) (hne:s.1≠[]):Hg n up s=Hg n up (Jt n up s):=by
 obtain ⟨h3,h4⟩:=H2 n up hr hcost s hI hne
 rw[Hg,Hg]
 obtain ⟨m,hm⟩:∃ m,reachM s=m+1:=⟨reachM s-1,by omega⟩
 rw[hm,D2,if_neg hne]
 exact Si n up hr hcost _ _ _ h3 qn (Nat.le_refl _)
theorem Se (ranks:List Int) (m:Nat) (hrr:∀ r∈ranks,0≤r):∀ j,j≤ranks.length→∀ y∈Da ranks j,0≤y.dev∧y.dev<m+ranks.length∧0≤y.root∧y.cost=0
 | 0,_,y,hy=>by simp[Da]at hy
 | j+1,hj,y,hy=>by
  rw[Hb]at hy
  rcases List.mem_cons.1 ((Jv _ _).mem_iff.1 hy) with rfl | hy
  ·have h1:=hrr (ranks[j]'qn) (List.getElem_mem _)
   have h2:(0:Int)≤(j:Int)∧(j:Int)<m+ranks.length:=by omega
   exact⟨h2.1,h2.2,by rw[Az (show j<ranks.length by omega)];exact h1,E⟩
  ·exact Se ranks m hrr j qn y hy
theorem Wi (n:Net) (ranks roots costs:List Int) (hr:Af n=true) (hrk:ranks.length=n.devices.length) (hro:roots.length=n.devices.length) (hc:costs.length=n.devices.length) (hrr:∀ r∈ranks,0≤r):ReachInv n (Da ranks ranks.length,roots,costs):=by
 have hf:=Dh hr
 have hm:=Aio roots
 refine⟨hro,hc,fun y hy=>?_,by simp only[It];omega⟩
 have:=Se ranks 0 hrr _ (Nat.le_refl _) y hy
 simp only
 omega
def Le2 (r c r' c':Int):Prop:=r<r'∨(r=r'∧c≤c')
theorem Af9 {x y:Item} (h:Bo y x=false):Le2 x.root x.cost y.root y.cost:=by
 simp only[Bo,Bool.or_eq_false_iff,decide_eq_false_iff_not,Bool.and_eq_false_iff,beq_eq_false_iff_ne]at h
 unfold Le2
 omega
theorem Af8 {a b c d e f:Int} (h1:Le2 a b c d) (h2:Le2 c d e f):Le2 a b e f:=by
 unfold Le2 at *
 omega
theorem Aak {a b c d m:Int} (h1:Le2 a b c d) (hm:0≤m):Le2 a b c (d+m):=by
 unfold Le2 at *
 omega
def Hop (n:Net) (up:List Bool) (i j:Nat):Prop:=i<n.ports.length∧Cp n up i=j
theorem Kv {n:Net} {up:List Bool} (hr:Af n=true) {i j:Nat} (h:Hop n up i j):j<n.ports.length:=by
 have:=U9 (up:=up) hr h.1 (by rw[h.2];omega)
 rw[h.2]at this
 omega
theorem W0 {n:Net} {up:List Bool} (hr:Af n=true) {i j:Nat} (h:Hop n up i j) :
  ∃ k:Nat,k<n.links.length∧(nth n.ports i).link=k∧(nth n.ports j).link=k∧up.getD k false=true∧(((nth n.links k).a=i∧(nth n.links k).b=j)∨((nth n.links k).a=j∧(nth n.links k).b=i))∧Do n i≠Do n j:=by
 have hj:=Kv hr h
 obtain ⟨hi,hf⟩:=h
 have hp:=Jr hr hi
 have hpl:=Li hr hi
 simp only[Ij,Bool.and_eq_true,Bool.or_eq_true,beq_iff_eq]at hp
 have hp:=hp.2
 have e:nth n.ports i=n.ports[i]:=An (l:=n.ports) (i:=(i:Int)) (by simpa using hi)
 unfold Cp at hf
 rw[Az hi]at hf
 simp only at hf
 split at hf
 ·omega
 ·rename_i hc
  simp only[Bool.or_eq_true,decide_eq_true_eq,not_or,Bool.not_eq_true',Bool.not_eq_false]at hc
  rcases hp with hp | hp
  ·omega
  ·have hl:n.ports[i].link.toNat<n.links.length:=by omega
   have hlk:=T8 hr hl
   have he:=Ja hr hl
   have ek:((n.ports[i].link.toNat:Nat):Int)=n.ports[i].link:=by omega
   refine⟨n.ports[i].link.toNat,hl,by rw[e];omega,?_⟩
   simp only[Sq,Bool.and_eq_true,beq_iff_eq,bne_iff_ne]at hlk
   obtain ⟨⟨⟨_,hne⟩,h1⟩,h2⟩:=hlk
   rw[ek]
   rw[An (l:=n.links) (i:=n.ports[i].link) qn]at hf hp ⊢
   generalize n.links[n.ports[i].link.toNat]=l at *
   rcases hp.2 with ha | hb
   ·have hb:l.b=j:=by omega
    rw[ha,hb]at hne
    rw[hb]at h2
    exact⟨by omega,by simpa using hc.2,.inl ⟨ha,hb⟩,hne⟩
   ·have ha:l.a=j:=by omega
    rw[ha,hb]at hne
    rw[ha]at h1
    exact⟨by omega,by simpa using hc.2,.inr ⟨ha,hb⟩,fun h=>hne h.symm⟩
theorem Aaq {n:Net} {up:List Bool} (hr:Af n=true) {i j:Nat} (h:Hop n up i j):Hop n up j i:=by
 have hj:=Kv hr h
 obtain ⟨k,hk,_,h2,h3,h4,_⟩:=W0 hr h
 refine⟨hj,?_⟩
 unfold Cp
 have e:n.ports.getD j default=nth n.ports j:=rfl
 rw[e]
 simp only[h2,Int.toNat_natCast,h3]
 rw[if_neg qy]
 omega
theorem Lk {n:Net} (hr:Af n=true) {i:Nat} (hi:i<n.ports.length):0≤Do n i∧Do n i<n.devices.length:=by
 rw[Do,An (l:=n.ports) (i:=(i:Int)) (by simpa using hi)]
 exact Kn hr hi
def Der (n:Net) (up:List Bool) (K R C:Int→Int) (r c d:Int):Prop :=
 (r=K d∧c=0)∨∃ i j:Nat,Hop n up i j∧Do n i=d∧0≤R (Do n j)∧r=R (Do n j)∧c=C (Do n j)+Om n i
structure Dij (n:Net) (up:List Bool) (K:Int→Int) (q:List Item) (R C:Int→Int):Prop where
 heap:Ig q q.length
 items:∀ x∈q,Der n up K R C x.root x.cost x.dev
 done:∀ d:Int,0≤d→d<n.devices.length→0≤R d→Der n up K R C (R d) (C d) d
 own:∀ d:Int,0≤d→d<n.devices.length→R d<0→⟨K d,0,d⟩∈q
 push:∀ i j:Nat,Hop n up i j→R (Do n i)<0→0≤R (Do n j)→⟨R (Do n j),C (Do n j)+Om n i,Do n i⟩∈q
 low:∀ d:Int,0≤d→d<n.devices.length→0≤R d→∀ x∈q,Le2 (R d) (C d) x.root x.cost
 self:∀ d:Int,0≤d→d<n.devices.length→0≤R d→Le2 (R d) (C d) (K d) 0
 tri:∀ i j:Nat,Hop n up i j→0≤R (Do n i)→0≤R (Do n j)→Le2 (R (Do n i)) (C (Do n i)) (R (Do n j)) (C (Do n j)+Om n i)
theorem Ub (n:Net) (up:List Bool) (x:Item) (q:List Item) (y:Item):∀ m,y∈(List.range m).foldl (Cj n up x) q↔y∈q∨∃ i,i<m∧Do n i=x.dev∧0≤Cp n up i∧y=⟨x.root,x.cost+(nth n.ports (Cp n up i)).cost,(nth n.ports (Cp n up i)).dev⟩
 | 0=>by simp
 | m+1=>by
  rw[List.range_succ,List.foldl_append]
  simp only[List.foldl_cons,List.foldl_nil]
  rw[Cj]
  have ih:=Ub n up x q y m
  have e:(n.ports.getD m default).dev=Do n m:=rfl
  rw[e]
  split
  ·rename_i h
   rw[(Jv _ _).mem_iff,List.mem_cons,ih]
   constructor
   ·rintro (h1 | h1 | ⟨i,h1,h2⟩)
    ·exact .inr ⟨m,by omega,h.1,h.2,h1⟩
    ·exact .inl h1
    ·exact .inr ⟨i,by omega,h2⟩
   ·rintro (h1 | ⟨i,h1,h2,h3,h4⟩)
    ·exact .inr (.inl h1)
    ·by_cases hm:i=m
     ·subst hm;exact .inl h4
     ·exact .inr (.inr ⟨i,by omega,h2,h3,h4⟩)
  ·rename_i h
   rw[ih]
   constructor
   ·rintro (h1 | ⟨i,h1,h2⟩)
    ·exact .inl h1
    ·exact .inr ⟨i,by omega,h2⟩
   ·rintro (h1 | ⟨i,h1,h2,h3,h4⟩)
    ·exact .inl h1
    ·by_cases hm:i=m
     ·subst hm;exact absurd ⟨h2,h3⟩ h
     ·exact .inr ⟨i,by omega,h2,h3,h4⟩
theorem Sh (n:Net) (up:List Bool) (x:Item) (q:List Item) (h:Ig q q.length):∀ m,Ig ((List.range m).foldl (Cj n up x) q) ((List.range m).foldl (Cj n up x) q).length
 | 0=>h
 | m+1=>by
  rw[List.range_succ,List.foldl_append]
  simp only[List.foldl_cons,List.foldl_nil]
  have ih:=Sh n up x q h m
  rw[Cj]
  split
  ·exact Uh _ _ ih
  ·exact ih
theorem Vg {n:Net} {up:List Bool} {K R C R' C':Int→Int} {r c d:Int} (h:Der n up K R C r c d) (hs:∀ e,0≤R e→R' e=R e∧C' e=C e):Der n up K R' C' r c d:=by
 rcases h with h | ⟨i,j,h1,h2,h3,h4,h5⟩
 ·exact .inl h
 ·obtain ⟨e1,e2⟩:=hs _ h3
  exact .inr ⟨i,j,h1,h2,by rw[e1];exact h3,by rw[e1];exact h4,by rw[e2];exact h5⟩
theorem Ajp {n:Net} {up:List Bool} {K R C:Int→Int} {q q':List Item} {x:Item} (h:Dij n up K q R C) (hp:(x::q').Perm q) (hh:Ig q' q'.length) (hx:0≤R x.dev):Dij n up K q' R C:=by
 have hm:∀ y,y∈q↔y=x∨y∈q':=fun y=>by rw[← hp.mem_iff,List.mem_cons]
 refine⟨hh,fun y hy=>h.items y ((hm y).2 (.inr hy)),h.done,fun d h0 h1 h2=>?_,fun i j hij h1 h2=>?_,fun d h0 h1 h2 y hy=>h.low d h0 h1 h2 y ((hm y).2 (.inr hy)),h.self,h.tri⟩
 ·rcases (hm _).1 (h.own d h0 h1 h2) with e | e
  ·rw[← e]at hx;simp only at hx;omega
  ·exact e
 ·rcases (hm _).1 (h.push i j hij h1 h2) with e | e
  ·rw[← e]at hx;simp only at hx;omega
  ·exact e
theorem Ajo {n:Net} {up:List Bool} {K R C R' C':Int→Int} {q q':List Item} {x:Item} (hr:Af n=true) (hcost:Cq n=true) (h:Dij n up K q R C) (hp:(x::q').Perm q) (hh:Ig q' q'.length)
  (hmin:∀ y∈q,Bo y x=false) (hx:R x.dev<0) (hx0:0≤x.root) (_hxd:0≤x.dev∧x.dev<n.devices.length)
  (hR:∀ e,R' e=if e=x.dev then x.root else R e) (hC:∀ e,C' e=if e=x.dev then x.cost else C e) :
  Dij n up K ((List.range n.ports.length).foldl (Cj n up x) q') R' C':=by
 have hm:∀ y,y∈q↔y=x∨y∈q':=fun y=>by rw[← hp.mem_iff,List.mem_cons]
 have hn:=fun y=>Ub n up x q' y n.ports.length
 have hs:∀ e,0≤R e→R' e=R e∧C' e=C e:=fun e he=>by
  have:e≠x.dev:=fun h=>by rw[h]at he;omega
  rw[hR,hC,if_neg this,if_neg this]
  exact⟨E,E⟩
 have hRd:R' x.dev=x.root:=by rw[hR,if_pos rfl]
 have hCd:C' x.dev=x.cost:=by rw[hC,if_pos rfl]
 have hxq:x∈q:=(hm x).2 (.inl rfl)
 have hle:∀ y∈q,Le2 x.root x.cost y.root y.cost:=fun y hy=>Af9 (hmin y hy)
 have hnew:∀ y,y∈(List.range n.ports.length).foldl (Cj n up x) q'↔y∈q'∨∃ i j:Nat,Hop n up i j∧Do n i=x.dev∧y=⟨x.root,x.cost+Om n j,Do n j⟩:=fun y=>by
  rw[hn y]
  constructor
  ·rintro (h1 | ⟨i,h1,h2,h3,h4⟩)
   ·exact .inl h1
   ·obtain ⟨j,hj⟩:∃ j:Nat,Cp n up i=j:=⟨(Cp n up i).toNat,by omega⟩
    rw[hj]at h4
    exact .inr ⟨i,j,⟨h1,hj⟩,h2,h4⟩
  ·rintro (h1 | ⟨i,j,h1,h2,h3⟩)
   ·exact .inl h1
   ·refine .inr ⟨i,h1.1,h2,by rw[h1.2];omega,?_⟩
    rw[h1.2]
    exact h3
 refine⟨Sh n up x q' hh _,fun y hy=>?_,fun d h0 h1 h2=>?_,fun d h0 h1 h2=>?_,fun i j hij h1 h2=>?_,fun d h0 h1 h2 y hy=>?_,fun d h0 h1 h2=>?_,fun i j hij h1 h2=>?_⟩
 ·rcases (hnew y).1 hy with hy | ⟨i,j,h1,h2,rfl⟩
  ·exact Vg (h.items y ((hm y).2 (.inr hy))) hs
  ·exact .inr ⟨j,i,Aaq hr h1,E,by rw[h2,hRd];exact hx0,by rw[h2,hRd],by rw[h2,hCd]⟩
 ·by_cases hd:d=x.dev
  ·subst hd
   rw[hRd,hCd]
   exact Vg (h.items x hxq) hs
  ·rw[hR,if_neg hd]at h2
   obtain ⟨e1,e2⟩:=hs d h2
   rw[e1,e2]
   exact Vg (h.done d h0 h1 h2) hs
 ·have hd:d≠x.dev:=fun e=>by rw[e,hRd]at h2;omega
  rw[hR,if_neg hd]at h2
  refine(hnew _).2 (.inl ?_)
  rcases (hm _).1 (h.own d h0 h1 h2) with e | e
  ·exact absurd (congrArg Item.dev e) hd
  ·exact e
 ·have hd:Do n i≠x.dev:=fun e=>by rw[e,hRd]at h1;omega
  rw[hR,if_neg hd]at h1
  by_cases hj:Do n j=x.dev
  ·rw[hj,hRd,hCd]
   exact(hnew _).2 (.inr ⟨j,i,Aaq hr hij,hj,E⟩)
  ·rw[hR,if_neg hj]at h2
   obtain ⟨e1,e2⟩:=hs _ h2
   rw[e1,e2]
   refine(hnew _).2 (.inl ?_)
   rcases (hm _).1 (h.push i j hij h1 h2) with e | e
   ·exact absurd (congrArg Item.dev e) hd
   ·exact e
 ·have hdx:Le2 (R' d) (C' d) x.root x.cost:=by
   by_cases hd:d=x.dev
   ·subst hd;rw[hRd,hCd];exact .inr ⟨rfl,Int.le_refl _⟩
   ·rw[hR,if_neg hd]at h2
    obtain ⟨e1,e2⟩:=hs d h2
    rw[e1,e2]
    exact h.low d h0 h1 h2 x hxq
  rcases (hnew y).1 hy with hy | ⟨i,j,h3,_,rfl⟩
  ·exact Af8 hdx (hle y ((hm y).2 (.inr hy)))
  ·exact Aak hdx (by have:=Z3 hcost (Kv hr h3);omega)
 ·by_cases hd:d=x.dev
  ·subst hd
   rw[hRd,hCd]
   exact hle _ (h.own _ h0 h1 hx)
  ·rw[hR,if_neg hd]at h2
   obtain ⟨e1,e2⟩:=hs d h2
   rw[e1,e2]
   exact h.self d h0 h1 h2
 ·have hj:=Kv hr hij
  have hpc:=Z3 hcost hij.1
  have hne:=(W0 hr hij).choose_spec.2.2.2.2.2
  by_cases hd:Do n i=x.dev
  ·rw[hd,hRd,hCd]
   have hjd:Do n j≠x.dev:=fun e=>hne (by rw[hd,e])
   rw[hR,if_neg hjd]at h2
   obtain ⟨e1,e2⟩:=hs _ h2
   rw[e1,e2]
   exact hle _ (h.push i j hij (by rw[hd];exact hx) h2)
  ·rw[hR,if_neg hd]at h1
   obtain ⟨e1,e2⟩:=hs _ h1
   rw[e1,e2]
   by_cases hjd:Do n j=x.dev
   ·rw[hjd,hRd,hCd]
    have hdl:=Lk hr hij.1
    exact Aak (h.low _ hdl.1 hdl.2 h1 x hxq) qn
   ·rw[hR,if_neg hjd]at h2
    obtain ⟨e3,e4⟩:=hs _ h2
    rw[e3,e4]
    exact h.tri i j hij h1 h2
def atI (l:List Int) (e:Int):Int:=if e<0 then -1 else nth l e
theorem Ie {l:List Int} {e:Int} (h:0≤e):atI l e=nth l e:=by rw[atI,if_neg qn]
theorem Aes {l:List Int} {d v:Int} (h0:0≤d) (h1:d<l.length) (e:Int):atI (l.set d.toNat v) e=if e=d then v else atI l e:=by
 by_cases he:e<0
 ·rw[atI,if_pos he,if_neg qn,atI,if_pos he]
 ·rw[atI,if_neg he,atI,if_neg he,nth,nth,List.getElem?_set]
  by_cases hd:e=d
  ·subst hd
   rw[if_pos rfl,if_pos rfl,if_pos qn]
   rfl
  ·rw[if_neg qn,if_neg hd]
structure DijS (n:Net) (up:List Bool) (ranks:List Int) (s:List Item × List Int × List Int):Prop where
 inv:ReachInv n s
 dij:Dij n up (atI ranks) s.1 (atI s.2.1) (atI s.2.2)
 bound:∀ c∈s.2.2,0≤c∧c≤1000000
theorem Ab6 (n:Net) (up:List Bool) (ranks:List Int) (hr:Af n=true) (hcost:Cq n=true) (s:List Item × List Int × List Int) (hI:DijS n up ranks s) (hne:s.1≠[]):DijS n up ranks (Jt n up s):=by
 have hf:=Dh hr
 have h1:=(H2 n up hr hcost s hI.inv hne).1
 have hrest:=Ah5 s.1 hne
 have hheap:=Ah6 s.1 hne hI.dij.heap
 have hleast:=Afp s.1 hI.dij.heap
 have hx:=hI.inv.items _ (hrest.mem_iff.1 (List.mem_cons_self ..))
 have hrl:=hI.inv.rootsL
 have hcl:=hI.inv.costsL
 have hd:=hI.dij
 have hb:=hI.bound
 rw[Jt,Ut hne,Zy s.1 hne]at *
 generalize s.1.getD 0 default=x at *
 try simp only at *
 have ea:nth s.2.1 x.dev=atI s.2.1 x.dev:=(Ie hx.1).symm
 rw[ea];rw[ea]at h1
 split
 ·rename_i hc
  rw[if_pos hc]at h1
  exact⟨h1,Ajp hd hrest hheap hc,hb⟩
 ·rename_i hc
  rw[if_neg hc]at h1
  refine⟨h1,Ajo hr hcost hd hrest hheap hleast qn hx.2.2.1 ⟨hx.1,hx.2.1⟩ (Aes hx.1 qn) (Aes hx.1 qn),fun c hc=>?_⟩
  rcases List.mem_or_eq_of_mem_set hc with h | h
  ·exact hb c h
  ·omega
theorem Ue (n:Net) (up:List Bool) (ranks:List Int) (hr:Af n=true) (hcost:Cq n=true):∀ (f:Nat) (s:List Item × List Int × List Int),DijS n up ranks s→reachM s≤f→DijS n up ranks (D2 n up f s)∧(D2 n up f s).1=[]
 | 0,s,h,hf=>⟨h,List.eq_nil_of_length_eq_zero (by unfold reachM at hf;rw[D2];omega)⟩
 | f+1,s,h,hf=>by
  rw[D2]
  split
  ·rename_i he;exact⟨h,he⟩
  ·rename_i hne
   exact Ue n up ranks hr hcost f _ (Ab6 n up ranks hr hcost s h hne) (by have:=(H2 n up hr hcost s h.inv hne).2;omega)
structure Solved (n:Net) (up:List Bool) (ranks roots costs:List Int):Prop where
 rootsL:roots.length=n.devices.length
 costsL:costs.length=n.devices.length
 bound:∀ c∈costs,0≤c∧c≤1000000
 root:∀ d:Int,0≤d→d<n.devices.length→0≤nth roots d
 self:∀ d:Int,0≤d→d<n.devices.length→Le2 (nth roots d) (nth costs d) (nth ranks d) 0
 tri:∀ i j:Nat,Hop n up i j→Le2 (nth roots (Do n i)) (nth costs (Do n i)) (nth roots (Do n j)) (nth costs (Do n j)+Om n i)
 der:∀ d:Int,0≤d→d<n.devices.length→(nth roots d=nth ranks d∧nth costs d=0)∨∃ i j:Nat,Hop n up i j∧Do n i=d∧nth roots d=nth roots (Do n j)∧nth costs d=nth costs (Do n j)+Om n i
theorem Afa (n:Net) (up:List Bool) (ranks:List Int) (hr:Af n=true) (s:List Item × List Int × List Int) (h:DijS n up ranks s) (he:s.1=[]):Solved n up ranks s.2.1 s.2.2:=by
 have hd:=h.dij
 rw[he]at hd
 have h0:∀ d:Int,0≤d→d<n.devices.length→0≤atI s.2.1 d:=fun d h1 h2=>by
  by_cases hc:0≤atI s.2.1 d
  ·exact hc
  ·have:=hd.own d h1 h2 qn
   simp at this
 refine⟨h.inv.rootsL,h.inv.costsL,h.bound,fun d h1 h2=>?_,fun d h1 h2=>?_,fun i j hij=>?_,fun d h1 h2=>?_⟩
 ·have:=h0 d h1 h2
  rwa [Ie h1]at this
 ·have:=hd.self d h1 h2 (h0 d h1 h2)
  simpa only [Ie h1] using this
 ·have hi:=Lk hr hij.1
  have hj:=Lk hr (Kv hr hij)
  have:=hd.tri i j hij (h0 _ hi.1 hi.2) (h0 _ hj.1 hj.2)
  simpa only [Ie hi.1,Ie hj.1] using this
 ·rcases hd.done d h1 h2 (h0 d h1 h2) with h3 | ⟨i,j,h3,h4,_,h5,h6⟩
  ·simp only[Ie h1]at h3
   exact .inl h3
  ·have hj:=Lk hr (Kv hr h3)
   simp only[Ie h1,Ie hj.1]at h5 h6
   exact .inr ⟨i,j,h3,h4,h5,h6⟩
theorem Qs (ranks:List Int) (y:Item):∀ j,y∈Da ranks j↔∃ i,i<j∧y=⟨ranks.getD i 0,0,i⟩
 | 0=>by simp[Da]
 | j+1=>by
  rw[Hb,(Jv _ _).mem_iff,List.mem_cons,Qs ranks y j]
  constructor
  ·rintro (h | ⟨i,h1,h2⟩)
   ·exact⟨j,by omega,h⟩
   ·exact⟨i,by omega,h2⟩
  ·rintro ⟨i,h1,h2⟩
   by_cases h:i=j
   ·subst h;exact .inl h2
   ·exact .inr ⟨i,by omega,h2⟩
theorem Tw (ranks:List Int):∀ j,Ig (Da ranks j) (Da ranks j).length
 | 0=>fun c _ h2 _=>by simp[Da]at h2
 | j+1=>by
  rw[Hb]
  exact Uh _ _ (Tw ranks j)
theorem Vx {v:Int} {m:Nat} {d:Int} (h1:d<m) (h0:0≤d):nth (List.replicate m v) d=v:=by
 rw[An (by simp;omega)];simp
theorem Ae8 (n:Net) (up:List Bool) (ranks:List Int) (hr:Af n=true) (hrk:ranks.length=n.devices.length) (hrr:∀ r∈ranks,0≤r) :
  DijS n up ranks (Da ranks ranks.length,List.replicate n.devices.length (-1),List.replicate n.devices.length 0):=by
 have hneg:∀ d:Int,0≤d→d<n.devices.length→atI (List.replicate n.devices.length (-1)) d=-1:=fun d h0 h1=>by rw[Ie h0,Vx h1 h0]
 refine⟨Wi n ranks _ _ hr hrk qy qy hrr,⟨Tw ranks _,fun x hx=>?_,fun d h0 h1 h2=>?_,fun d h0 h1 h2=>?_,fun i j hij h1 h2=>?_,fun d h0 h1 h2=>?_,fun d h0 h1 h2=>?_,fun i j hij h1 h2=>?_⟩,fun c hc=>?_⟩
 ·obtain ⟨i,h1,rfl⟩:=(Qs ranks x _).1 hx
  refine .inl ⟨?_,E⟩
  simp only
  rw[Ie qn,An (by simpa using h1),Az h1]
  rfl
 ·rw[hneg d h0 h1]at h2;omega
 ·refine(Qs ranks _ _).2 ⟨d.toNat,by omega,?_⟩
  rw[Ie h0,An qn,Az qn,Int.toNat_of_nonneg h0]
 ·have hj:=Lk hr (Kv hr hij)
  rw[hneg _ hj.1 hj.2]at h2;omega
 ·rw[hneg d h0 h1]at h2;omega
 ·rw[hneg d h0 h1]at h2;omega
 ·have hj:=Lk hr (Kv hr hij)
  rw[hneg _ hj.1 hj.2]at h2;omega
 ·have:=List.eq_of_mem_replicate hc
  omega
def Kl (n:Net) (up:List Bool) (ranks:List Int):List Item × List Int × List Int:=Hg n up (Da ranks ranks.length,List.replicate n.devices.length (-1),List.replicate n.devices.length 0)
theorem Vr (n:Net) (up:List Bool) (ranks:List Int) (hr:Af n=true) (hcost:Cq n=true) (hrk:ranks.length=n.devices.length) (hrr:∀ r∈ranks,0≤r):Solved n up ranks (Kl n up ranks).2.1 (Kl n up ranks).2.2:=by
 obtain ⟨h1,h2⟩:=Ue n up ranks hr hcost _ _ (Ae8 n up ranks hr hrk hrr) (Nat.le_refl _)
 exact Afa n up ranks hr _ h1 h2
end Go.Sy.YtmelpejjondedaaGreat
namespace Go.Sy.YtmelpejjondedaaGreat
section
variable {n:Net} {up:List Bool} {ranks roots costs:List Int}
def rolesL (n:Net) (up:List Bool) (ranks roots costs:List Int):List Int:=Iu n up ranks roots costs n.devices.length
def Aje (roles:List Int) (l:Link):Bool:=inB [nth roles l.a,nth roles l.b] 1 && inB [nth roles l.a,nth roles l.b] 2
def fwdL (n:Net) (roles:List Int):List Bool:=n.links.map (Aje roles)
end
end Go.Sy.YtmelpejjondedaaGreat
namespace Go.Sy.YtmelpejjondedaaGreat
open Go.Proofs
theorem G_lit {C:Cx} {k:List KI} {s:SS} (d:Nat) {sz:Nat} {α:Type} (e:α→SV) (l:List α) {svs:List SV} (h:s.h d=.lit sz svs) (hl:l.map e=svs) (hg:G C k ⟨s.σ,upd s.h d (.row sz e l)⟩):G C k s:=fun κ a w hs=>by
 refine hg κ a w ⟨hs.defers,hs.size,hs.inv,hs.ctx,hs.slot,fun j=>?_⟩
 show ObOK κ w j (upd s.h d (.row sz e l) j)
 by_cases hj:j=d
 ·subst hj
  rw[A6]
  have hob:=hs.obj j
  rw[h]at hob
  have hlen:l.length=svs.length:=by rw[← hl,List.length_map]
  obtain ⟨b,cap,cs,T,fr,e1,e2,e3,e4,e5,e6⟩:=hob
  exact .inr ⟨b,cap,cs,T,fr,by rw[hlen];exact e1,e2,e3,e4,by omega,fun i x hx=>by rw[hlen];exact e6 i x (I3 hl i x hx)⟩
 ·rw[Bq _ _ hj];exact hs.obj j
attribute [local irreducible] Go.Sy.G Go.Sy.DR
set_option maxRecDepth 100000
set_option maxHeartbeats 4000000
theorem Uc (n:Net) (up:List Bool) (x:Item) (q:List Item):∀ i,((List.range i).foldl (Cj n up x) q).length≤q.length+i
 | 0=>by simp
 | i+1=>by
  have:=Uc n up x q i
  rw[List.range_succ,List.foldl_append]
  simp only[List.foldl_cons,List.foldl_nil]
  rw[Cj]
  split
  ·rw[Hs];omega
  ·omega
theorem reachS (n:Net) (up:List Bool) (ranks roots costs:List Int) (hr:Af n=true) (hu:up.length=n.links.length) (hcost:Cq n=true) (hrk:ranks.length=n.devices.length) (hro:roots.length=n.devices.length) (hc:costs.length=n.devices.length) (hrr:∀ r∈ranks,0≤r) (D:List Item × List Int × List Int) (hD:Hg n up (Da ranks ranks.length,roots,costs)=D) :
  Sy.Spec Tryz.prog 157 [.ptr 0 0] (Wj n up ranks roots costs) (.tup []) (Wj n up ranks D.2.1 D.2.2):=Ab Γ hm 100 F157 Tryz.ntmps157 rfl fun F hF=>by
 have hf:=Dh hr
 conv=>whnf
 refine G_lit 10 A8 [] E E ?_
 refine A1 ranks.length (fun j=>[(0,.ptr 0 0),(2,.ptr 11 0),(15,.sl 1 Aa ranks),(16,Aa ranks.length),(17,Aa j)]) (fun j=>[(0,.box (L6 n up ranks (.osl 1) (.osl 2))),(1,.row 1 Aa roots),(2,.row 1 Aa costs),(11,.box [.osl 12]),(12,.row 3 A8 (Da ranks j))]) [(12,10)]
  ⟨⟨rfl,rfl,rfl,rfl,rfl,rfl,rfl,rfl,rfl,rfl,trivial⟩,⟨.inl rfl,rfl,.inl rfl,rfl,.inl rfl,rfl,.inl rfl,rfl,.inl rfl,rfl,trivial⟩,rfl,rfl⟩ ?_
 intro j hj
 refine rg ?_;conv=>whnf
 refine⟨fun h=>?_,fun h=>?_⟩
 ·have hlt:j<ranks.length:=by simpa using h
  have e1:ranks[(j:Int).toNat]'qn=ranks[j]:=rfl
  have hpush:=W1 (Da ranks j) ⟨ranks.getD j 0,0,j⟩ (by rw[It];omega)
  have hsucc:=Hb ranks j
  rw[Az (show j<ranks.length by omega)]at hpush hsucc
  refine rg ?_;conv=>whnf
  refine⟨by omega,by omega,?_⟩
  conv=>whnf
  refine⟨by omega,?_⟩
  rw[e1]
  conv=>whnf
  refine Ah (Ai [(0,11),(1,12),(2,28)] E F233 hpush E ⟨E,E,Y⟩ E ⟨.inl E,.inl E,.inr E,Y⟩) E E ?_
  refine rg ?_;conv=>whnf
  refine⟨by unfold I64;omega,?_⟩
  conv=>whnf
  refine Ar [(12,28)] hlt ⟨⟨E,E,E,E,E,E,E,E,E,E,Y⟩,⟨.inl E,E,.inl E,E,.inl E,E,.inl E,E,.inl (congrArg (Ob.row 3 A8) hsucc),E,Y⟩,E,E⟩
 ·have hjl:j=ranks.length:=by
   have:¬ j<ranks.length:=by simpa using h
   omega
  subst hjl
  refine rg ?_;conv=>whnf
  refine Lb (α:={s:List Item × List Int × List Int // ReachInv n s∧Hg n up s=D}) (fun p=>[(0,.ptr 0 0),(2,.ptr 11 0)]) (fun p=>[(0,.box (L6 n up ranks (.osl 1) (.osl 2))),(1,.row 1 Aa p.1.2.1),(2,.row 1 Aa p.1.2.2),(11,.box [.osl 12]),(12,.row 3 A8 p.1.1)]) (fun p=>reachM p.1) ⟨(Da ranks ranks.length,roots,costs),Wi n ranks roots costs hr hrk hro hc hrr,hD⟩ []
   ⟨⟨rfl,rfl,rfl,rfl,trivial⟩,⟨.inl rfl,rfl,.inl rfl,rfl,.inl rfl,rfl,.inl rfl,rfl,.inl rfl,rfl,trivial⟩,rfl,rfl⟩ ?_
  rintro ⟨⟨q,ro,co⟩,hI,hDq⟩
  have hlen:=Qx q
  have hdn:=Ab5 n up (q,ro,co)
  have hds:=Zu n up hr hcost (q,ro,co) hI
  dsimp only at hdn hds ⊢
  refine rg ?_;conv=>whnf
  refine Ah (Mw [12] E F234 hlen (.cons (.row E E) .nil) E E) E E ?_
  refine rg ?_;conv=>whnf
  refine⟨fun h2=>?_,fun h2=>?_⟩
  ·have hne:q≠[]:=fun e=>by subst e;simp at h2
   have hpop:=Ai4 q hne (by have:=hI.few;simp only at this;omega)
   have hx:=hI.items _ ((Lj q hne).mem_iff.1 (List.getLast_mem (C1 hne)))
   have hst:Jt n up (q,ro,co)=if 0≤nth ro ((Cb q).getLast (C1 hne)).dev then ((Cb q).dropLast,ro,co) else ((List.range n.ports.length).foldl (Cj n up ((Cb q).getLast (C1 hne))) (Cb q).dropLast,ro.set ((Cb q).getLast (C1 hne)).dev.toNat ((Cb q).getLast (C1 hne)).root,co.set ((Cb q).getLast (C1 hne)).dev.toNat ((Cb q).getLast (C1 hne)).cost):=by
    rw[Jt,Ut hne]
   have hr1:=H2 n up hr hcost (q,ro,co) hI hne
   have hD1:=hds hne
   rw[hDq]at hD1
   rw[hst]at hr1 hD1
   generalize (Cb q).getLast (C1 hne)=x at *
   have hroL:=hI.rootsL
   have hcoL:=hI.costsL
   dsimp only at hroL hcoL
   rw[An (l:=ro) (i:=x.dev) qn]at hr1 hD1
   refine rg ?_;conv=>whnf
   refine Ah (Ai [(0,11),(1,12),(2,38)] E F235 hpop E ⟨E,E,Y⟩ E ⟨.inl E,.inl E,.inr E,Y⟩) E E ?_
   refine rg ?_;conv=>whnf
   refine Ah (Sx Γ.toTy E E E E) E E ?_
   (refine rg ?_;(conv=>whnf);refine aF ?_;refine rd qq ?_;conv=>whnf)
   have hx1:=hx.1
   have hx2:=hx.2.1
   refine⟨by omega,by omega,?_⟩
   conv=>whnf
   refine⟨E,by omega,?_⟩
   conv=>whnf
   refine⟨qq,?_⟩
   conv=>whnf
   refine⟨fun h3=>?_,fun h3=>?_⟩
   ·have h30:0≤ro[x.dev.toNat]'qn:=of_decide_eq_true h3
    rw[if_pos h30]at hr1 hD1
    refine rg ?_;conv=>whnf
    exact Mm (α:={s:List Item × List Int × List Int // ReachInv n s∧Hg n up s=D}) (L:=fun p=>[(0,.ptr 0 0),(2,.ptr 11 0)]) (O:=fun p=>[(0,.box (L6 n up ranks (.osl 1) (.osl 2))),(1,.row 1 Aa p.1.2.1),(2,.row 1 Aa p.1.2.2),(11,.box [.osl 12]),(12,.row 3 A8 p.1.1)]) (μ:=fun p=>reachM p.1) (x:=⟨(q,ro,co),hI,hDq⟩)
     ⟨((Cb q).dropLast,ro,co),hr1.1,hD1.symm⟩ [(12,38)] hr1.2
     ⟨⟨rfl,rfl,rfl,rfl,trivial⟩,⟨.inl rfl,rfl,.inl rfl,rfl,.inl rfl,rfl,.inl rfl,rfl,.inl rfl,rfl,trivial⟩,rfl,rfl⟩
   ·have h30:¬ 0≤ro[x.dev.toNat]'qn:=of_decide_eq_false h3
    rw[if_neg h30]at hr1 hD1
    refine rg ?_;conv=>whnf
    refine⟨by omega,by omega,?_⟩
    conv=>whnf
    refine⟨by omega,by omega,?_⟩
    conv=>whnf
    refine⟨x.root,E,E,?_⟩
    conv=>whnf
    refine⟨by omega,by omega,E,by omega,x.cost,E,E,?_⟩
    conv=>whnf
    refine⟨qq,?_⟩
    conv=>whnf
    generalize ro.set x.dev.toNat x.root=ro' at *
    generalize co.set x.dev.toNat x.cost=co' at *
    refine A1 n.ports.length (fun j=>[(0,.ptr 0 0),(2,.ptr 11 0),(5,.ptr 5 0),(77,.sl 7 A9 n.ports),(78,Aa n.ports.length),(79,Aa j)]) (fun j=>[(0,.box (L6 n up ranks (.osl 1) (.osl 2))),(1,.row 1 Aa ro'),(2,.row 1 Aa co'),(5,.box [Aa x.root,Aa x.cost,Aa x.dev]),(11,.box [.osl 12]),(12,.row 3 A8 ((List.range j).foldl (Cj n up x) (Cb q).dropLast))]) [(12,38)]
     ⟨⟨rfl,rfl,rfl,rfl,rfl,rfl,rfl,rfl,rfl,rfl,rfl,rfl,trivial⟩,⟨.inl rfl,rfl,.inl rfl,rfl,.inl rfl,rfl,.inl rfl,rfl,.inl rfl,rfl,.inl rfl,rfl,trivial⟩,rfl,rfl⟩ ?_
    intro j hj
    refine rg ?_;conv=>whnf
    refine⟨fun h4=>?_,fun h4=>?_⟩
    ·have hlt:j<n.ports.length:=by simpa using h4
     have e1:n.ports[(j:Int).toNat]'qn=n.ports[j]:=rfl
     have hfar:=farR n up ranks ro' co' j hr hu hlt
     have hql:(Cb q).dropLast.length≤q.length:=by rw[List.length_dropLast,C7];omega
     have hlenQ:=Uc n up x (Cb q).dropLast j
     have hfew:=hI.few
     dsimp only at hfew
     have hsucc:(List.range (j+1)).foldl (Cj n up x) (Cb q).dropLast=Cj n up x ((List.range j).foldl (Cj n up x) (Cb q).dropLast) j:=by
      rw[List.range_succ,List.foldl_append];rfl
     generalize (List.range j).foldl (Cj n up x) (Cb q).dropLast=Q at *
     rw[Cj,Az hlt]at hsucc
     refine rg ?_;conv=>whnf
     refine⟨by omega,by omega,?_⟩
     conv=>whnf
     refine⟨by omega,?_⟩
     rw[e1]
     conv=>whnf
     refine Ah (Ai [] E F158 hfar E ⟨E,E,E,Y⟩ E ⟨.inl E,.inl E,.inl E,Y⟩) E E ?_
     refine rg ?_;conv=>whnf
     refine⟨fun h5=>?_,fun h5=>?_⟩
     ·refine rg ?_;conv=>whnf
      refine⟨fun h6=>?_,fun h6=>?_⟩
      ·have hk0:0≤Cp n up j:=of_decide_eq_true h6
       have hk1:=U9 (up:=up) hr hlt hk0
       rw[if_pos ⟨by simpa using h5,hk0⟩,An (l:=n.ports) (i:=Cp n up j) qn]at hsucc
       have hpc:1≤(n.ports[(Cp n up j).toNat]'qn).cost∧(n.ports[(Cp n up j).toNat]'qn).cost≤65535:=by
        simp only[Cq,Bool.not_eq_true',List.any_eq_false]at hcost
        have:=hcost _ (List.getElem_mem (show (Cp n up j).toNat<n.ports.length by omega))
        simp only[Iq,Bool.or_eq_true,decide_eq_true_eq,not_or]at this
        omega
       have hxc:=hx.2.2.2
       have hpush:=W1 Q ⟨x.root,x.cost+(n.ports[(Cp n up j).toNat]'qn).cost,(n.ports[(Cp n up j).toNat]'qn).dev⟩ qn
       refine rg ?_;conv=>whnf
       refine⟨E,hk0,by omega,?_⟩
       conv=>whnf
       refine⟨by unfold I64;omega,?_⟩
       conv=>whnf
       refine⟨E,hk0,by omega,?_⟩
       conv=>whnf
       refine Bs (Ai [(0,11),(1,12),(2,123)] E F233 hpush E ⟨E,E,Y⟩ E ⟨.inl E,.inl E,.inr E,Y⟩) qq E ?_
       refine rd qq ?_;conv=>whnf
       refine⟨qq,?_⟩
       conv=>whnf
       refine⟨by unfold I64;omega,?_⟩
       conv=>whnf
       refine Ar [(12,123)] hlt ⟨⟨E,E,E,E,E,E,E,E,E,E,E,E,Y⟩,⟨.inl E,E,.inl E,E,.inl E,E,.inl E,E,.inl E,E,.inl (congrArg (Ob.row 3 A8) hsucc),E,Y⟩,E,E⟩
      ·rw[if_neg (fun hh=>(of_decide_eq_false h6) hh.2)]at hsucc
       refine rg ?_;conv=>whnf
       refine⟨by unfold I64;omega,?_⟩
       conv=>whnf
       refine Ar [] hlt ⟨⟨E,E,E,E,E,E,E,E,E,E,E,E,Y⟩,⟨.inl E,E,.inl E,E,.inl E,E,.inl E,E,.inl E,E,.inl (congrArg (Ob.row 3 A8) hsucc),E,Y⟩,E,E⟩
     ·rw[if_neg (fun hh=>absurd hh.1 (by simpa using h5))]at hsucc
      (refine rg ?_;(conv=>whnf);refine aF ?_;refine rg ?_;conv=>whnf)
      refine⟨by unfold I64;omega,?_⟩
      conv=>whnf
      refine Ar [] hlt ⟨⟨E,E,E,E,E,E,E,E,E,E,E,E,Y⟩,⟨.inl E,E,.inl E,E,.inl E,E,.inl E,E,.inl E,E,.inl (congrArg (Ob.row 3 A8) hsucc),E,Y⟩,E,E⟩
    ·have hjl:j=n.ports.length:=by
      have:¬ j<n.ports.length:=by simpa using h4
      omega
     subst hjl
     refine rg ?_;conv=>whnf
     exact Mm (α:={s:List Item × List Int × List Int // ReachInv n s∧Hg n up s=D}) (L:=fun p=>[(0,.ptr 0 0),(2,.ptr 11 0)]) (O:=fun p=>[(0,.box (L6 n up ranks (.osl 1) (.osl 2))),(1,.row 1 Aa p.1.2.1),(2,.row 1 Aa p.1.2.2),(11,.box [.osl 12]),(12,.row 3 A8 p.1.1)]) (μ:=fun p=>reachM p.1) (x:=⟨(q,ro,co),hI,hDq⟩)
      ⟨((List.range n.ports.length).foldl (Cj n up x) (Cb q).dropLast,ro',co'),hr1.1,hD1.symm⟩ [] hr1.2
      ⟨⟨rfl,rfl,rfl,rfl,trivial⟩,⟨.inl rfl,rfl,.inl rfl,rfl,.inl rfl,rfl,.inl rfl,rfl,.inl rfl,rfl,trivial⟩,rfl,rfl⟩
  ·have he:q=[]:=List.eq_nil_of_length_eq_zero (by
    have:¬ 0<q.length:=by simpa using h2
    omega)
   have e:D=(q,ro,co):=by rw[← hDq,hdn he]
   rw[e]
   refine rg ?_;conv=>whnf
   exact Bg E .nil [] (Wj n up ranks ro co) (fun _ h=>h) E E ⟨Y,⟨.inl E,E,.inl E,E,.inl E,E,Y⟩,E,E⟩
end Go.Sy.YtmelpejjondedaaGreat
namespace Go.Sy.YtmelpejjondedaaGreat
open Go.Proofs
attribute [local irreducible] Go.Sy.G Go.Sy.DR
set_option maxRecDepth 100000
set_option maxHeartbeats 4000000
def okB (n:Net) (up:List Bool):Bool:=decide (up.length=n.links.length) && (Af n && Cq n)
theorem ok_iff {n:Net} {up:List Bool}:okB n up=true↔up.length=n.links.length∧Af n=true∧Cq n=true:=by simp[okB]
def T5 (n:Net) (up:List Bool):List Int:=(Kl n up (C4 n)).2.1
def Vi (n:Net) (up:List Bool):List Int:=(Kl n up (C4 n)).2.2
def X4 (n:Net) (up:List Bool):SV:=Kg n up (C4 n) (T5 n up) (Vi n up)
theorem Akt (n:Net) (up:List Bool) (hn:n.Fin) (h:okB n up=false):Sy.Spec Tryz.prog 84 [Aq n,.sl 1 Ad up] [] (.tup [.val (.pointer none),Aa 2]) []:=Ab Γ hm 100 F84 Tryz.ntmps84 rfl fun F hF=>by
 have h':¬ (up.length=n.links.length∧Af n=true∧Cq n=true):=fun hh=>by rw[ok_iff.2 hh]at h;cases h
 conv=>whnf
 (repeat' (first | (refine⟨fun h=>?_,fun h=>?_⟩<;>(repeat (first | simp only[bne_iff_ne]at h | simp only[bne_eq_false_iff_eq]at h | simp only[Bool.not_eq_true']at h | simp only[Bool.not_eq_false']at h))<;>((refine rg ?_);(conv=>whnf);repeat((refine aT ?_);(refine rg ?_);(conv=>whnf)))) | (refine Ag (Bk n hn) F67 rfl rfl rfl rfl rfl ?_;((refine rg ?_);(conv=>whnf))) | (refine Ag (Ajq n hn.ports) F155 rfl rfl rfl rfl rfl ?_;((refine rg ?_);(conv=>whnf))) | refine Ac rfl (.cons .tmp (.cons .tmp .nil)) rfl rfl))
 all_goals exact absurd ⟨by omega,by assumption,by assumption⟩ h'
def Kb (m j:Nat):List Int:=List.replicate j (-1)++List.replicate (m-j) 0
theorem Ada (m:Nat):Kb m 0=List.replicate m 0:=by simp[Kb]
theorem Agk (m:Nat):Kb m m=List.replicate m (-1):=by simp[Kb]
theorem Yn (m j:Nat) (h:j≤m):(Kb m j).length=m:=by simp[Kb];omega
theorem Adb (m j:Nat) (h:j<m):Kb m (j+1)=(Kb m j).set j (-1):=by
 have e:m-j=(m-(j+1))+1:=by omega
 rw[Kb,Kb,e,List.set_append_right _ _ qy,List.length_replicate,Nat.sub_self,List.replicate_succ' (n:=j),List.replicate_succ (n:=m-(j+1))]
 simp
theorem openOK (n:Net) (up:List Bool) (hn:n.Fin) (hu:up.length=n.links.length) (hr:Af n=true) (hcost:Cq n=true):Sy.Spec Tryz.prog 84 [Aq n,.sl 1 Ad up] [] (.tup [X4 n up,Aa 0]) []:=Ab Γ hm 100 F84 Tryz.ntmps84 rfl fun F hF=>by
 have hf:=Dh hr
 have hrt:=Bk n hn
 have hct:=Ajq n hn.ports
 have hrs:=ranksS n hn
 rw[hr]at hrt
 rw[hcost]at hct
 rw[hr,if_pos rfl]at hrs
 have hrk:=Iv n
 have hrr:∀ r∈C4 n,0≤r:=fun r h=>(Sj n r h).1
 have hsv:X4 n up=Kg n up (C4 n) (Kl n up (C4 n)).2.1 (Kl n up (C4 n)).2.2:=rfl
 rw[hsv]
 generalize C4 n=ranks at *
 have hreach:=fun D hD=>reachS n up ranks (List.replicate n.devices.length (-1)) (List.replicate n.devices.length 0) hr hu hcost hrk qy qy hrr D hD
 have hRT:Hg n up (Da ranks ranks.length,List.replicate n.devices.length (-1),List.replicate n.devices.length 0)=Kl n up ranks:=rfl
 generalize Kl n up ranks=D at *
 have hreach:=hreach D hRT
 clear hRT hsv
 conv=>whnf
 refine⟨fun h=>absurd h (by simp[hu]),fun h=>?_⟩
 refine rg ?_;conv=>whnf
 refine Ag hrt F67 E E E E E ?_
 (refine rg ?_;(conv=>whnf);refine aF ?_;refine rg ?_;conv=>whnf)
 refine Ag hct F155 E E E E E ?_
 (refine rg ?_;(conv=>whnf);refine aF ?_;refine rg ?_;conv=>whnf)
 refine Ay hrs F156 E E E qq E ?_
 refine rd qq ?_;conv=>whnf
 refine Bs (Bt Γ.toTy (d:=31) (n:=n.devices.length) Aa 0 E E E E E E E E qn qn E E E) qq E ?_
 refine rd qq ?_;conv=>whnf
 refine Bs (Bt Γ.toTy (d:=35) (n:=n.devices.length) Aa 0 E E E E E E E E qn qn E E E) qq E ?_
 refine rd qq ?_;conv=>whnf
 refine⟨qq,?_⟩
 conv=>whnf
 refine A1 n.devices.length (fun j=>[(6,.ptr 37 0),(42,Aa (List.replicate n.devices.length (0:Int)).length),(43,Aa j)]) (fun j=>[(37,.box (L6 n up ranks (.osl 31) (.osl 35))),(31,.row 1 Aa (Kb n.devices.length j)),(35,.row 1 Aa (List.replicate n.devices.length 0))]) []
  ⟨⟨rfl,rfl,rfl,rfl,rfl,rfl,trivial⟩,⟨.inl rfl,rfl,.inl (by rw[Ada];rfl),rfl,.inl rfl,rfl,trivial⟩,rfl,rfl⟩ ?_
 intro j hj
 have hlen:=Yn n.devices.length j hj
 refine rg ?_;conv=>whnf
 refine⟨fun h=>?_,fun h=>?_⟩
 ·have hlt:j<n.devices.length:=by simpa using h
  have hsucc:=Adb n.devices.length j hlt
  generalize Kb n.devices.length j=u at *
  refine rg ?_;conv=>whnf
  refine⟨by omega,by omega,?_⟩
  conv=>whnf
  refine⟨E,by omega,-1,E,E,?_⟩
  conv=>whnf
  refine⟨by unfold I64;omega,?_⟩
  conv=>whnf
  exact Ar [] hlt ⟨⟨E,E,E,E,E,E,Y⟩,⟨.inl E,E,.inl (congrArg (Ob.row 1 Aa) hsucc),E,.inl E,E,Y⟩,E,E⟩
 have hjl:j=n.devices.length:=by
  have:¬ j<n.devices.length:=by simpa using h
  omega
 subst hjl
 have hall:=Agk n.devices.length
 rw[← hall]at hreach
 refine rg ?_;conv=>whnf
 refine Ah (Ai [(0,37),(1,31),(2,35)] E F157 hreach E ⟨E,E,E,Y⟩ E ⟨.inl E,.inl E,.inl E,Y⟩) E E ?_
 refine At 31 E ?_
 refine At 35 E ?_
 refine B0 37 12 (.agg (L6 n up ranks (.sl 1 Aa D.2.1) (.sl 1 Aa D.2.2))) E E E ?_
 refine rg ?_;conv=>whnf
 exact Ac E (.cons .tmp (.cons .tmp .nil)) E E
theorem Ze {n:Net} {up:List Bool} (h:okB n up=true):Solved n up (C4 n) (T5 n up) (Vi n up):=by
 obtain ⟨hu,hr,hcost⟩:=ok_iff.1 h
 exact Vr n up (C4 n) hr hcost (Iv n) (fun r h=>(Sj n r h).1)
def Xu (n:Net) (up:List Bool):List Int:=rolesL n up (C4 n) (T5 n up) (Vi n up)
def fwdT (n:Net) (up:List Bool):List Bool:=fwdL n (Xu n up)
theorem Vq (n:Net) (up:List Bool):(Xu n up).length=n.ports.length:=E5 ..
theorem Acf (n:Net) (up:List Bool) (h:okB n up=true):Sy.Spec Tryz.prog 85 [X4 n up] [] (.sl 1 Aa (Xu n up)) []:=by
 obtain ⟨hu,hr,hcost⟩:=ok_iff.1 h
 have S:=Ze h
 exact rolesS n up (C4 n) (T5 n up) (Vi n up) hr hu hcost (Iv n) S.rootsL S.costsL (fun c hc=>by have:=S.bound c hc;omega)
theorem U5 (n:Net) (up:List Bool) (hn:n.Fin) (h:okB n up=false):Sy.Spec Tryz.prog 44 [Aq n,.sl 1 Ad up] [] (.tup [.sl 1 Ad [],Aa 2]) []:=Ab Γ hm 100 F44 Tryz.ntmps44 rfl fun F hF=>by
 conv=>whnf
 refine Ag (Akt n up hn h) F84 E E E E E ?_
 (refine rg ?_;(conv=>whnf);refine aT ?_;refine rg ?_;conv=>whnf)
 refine Ao 4 1 Ad E ?_
 exact Ac E (.cons .tmp (.cons .tmp .nil)) E E
def Tg (n:Net) (roles:List Int) (j:Nat):List Bool:=(n.links.take j).map (Aje roles)++List.replicate (n.links.length-j) false
theorem Agh (n:Net) (roles:List Int):Tg n roles 0=List.replicate n.links.length false:=by simp[Tg]
theorem Ajd (n:Net) (roles:List Int):Tg n roles n.links.length=fwdL n roles:=by simp[Tg,fwdL]
theorem Aav (n:Net) (roles:List Int) (j:Nat) (h:j≤n.links.length):(Tg n roles j).length=n.links.length:=by simp[Tg];omega
theorem Agi (n:Net) (roles:List Int) (j:Nat) (h:j<n.links.length):Tg n roles (j+1)=(Tg n roles j).set j (Aje roles n.links[j]):=by
 have e:n.links.length-j=(n.links.length-(j+1))+1:=by omega
 have el:((n.links.take j).map (Aje roles)).length=j:=by simp;omega
 rw[Tg,Tg,List.set_append_right _ _ qn,el,Nat.sub_self,List.take_succ_eq_append_getElem h,List.map_append,e,List.replicate_succ,List.set_cons_zero]
 simp
theorem W5 (n:Net) (up:List Bool) (hn:n.Fin) (h:okB n up=true):Sy.Spec Tryz.prog 44 [Aq n,.sl 1 Ad up] [] (.tup [.sl 1 Ad (fwdT n up),Aa 0]) []:=Ab Γ hm 100 F44 Tryz.ntmps44 rfl fun F hF=>by
 obtain ⟨hu,hr,hcost⟩:=ok_iff.1 h
 have hf:=Dh hr
 have ho:=openOK n up hn hu hr hcost
 have hro:=Acf n up h
 have hrl:=Vq n up
 rw[fwdT]
 generalize Xu n up=roles at *
 unfold X4 at ho hro
 generalize C4 n=ranks at *
 generalize T5 n up=roots at *
 generalize Vi n up=costs at *
 conv=>whnf
 refine Ag ho F84 E E E E E ?_
 (refine rg ?_;(conv=>whnf);refine aF ?_;refine rg ?_;conv=>whnf)
 refine Ag hro F85 E E E E E ?_
 refine rg ?_;conv=>whnf
 refine Ah (Bt Γ.toTy (d:=27) (n:=n.links.length) Ad false E E E E E E E E qn qn E E E) E E ?_
 rw[← Agh n roles]
 refine rg ?_;conv=>whnf
 refine A1 n.links.length (fun j=>[(8,.sl 1 Aa roles),(9,.osl 27),(29,.sl 3 Cf n.links),(30,Aa n.links.length),(31,Aa j)]) (fun j=>[(27,.row 1 Ad (Tg n roles j))]) []
  ⟨⟨rfl,rfl,rfl,rfl,rfl,rfl,rfl,rfl,rfl,rfl,trivial⟩,⟨.inl rfl,rfl,trivial⟩,rfl,rfl⟩ ?_
 intro j hj
 have hall:=Ajd n roles
 refine rg ?_;conv=>whnf
 refine⟨fun h=>?_,fun h=>?_⟩
 ·have hlt:j<n.links.length:=by simpa using h
  have he:=Ja hr hlt
  have e1:n.links[(j:Int).toNat]'qn=n.links[j]:=rfl
  have hlen:=Aav n roles j hj
  have hsucc:=Agi n roles j hlt
  generalize Tg n roles j=u at *
  generalize n.links[j]=l at *
  rw[Aje,An (l:=roles) (i:=l.a) qn,An (l:=roles) (i:=l.b) qn]at hsucc
  refine rg ?_;conv=>whnf
  refine⟨E,by omega,by omega,?_⟩
  rw[e1]
  conv=>whnf
  refine⟨E,by omega,by omega,?_⟩
  conv=>whnf
  refine⟨E,by omega,by omega,?_⟩
  conv=>whnf
  refine⟨qq,?_⟩
  conv=>whnf
  have hA:0≤l.a∧l.a<roles.length:=by omega
  have hB:0≤l.b∧l.b<roles.length:=by omega
  obtain ⟨x,hx⟩:∃ x,roles[l.a.toNat]'qn=x:=⟨_,rfl⟩
  obtain ⟨y,hy⟩:∃ y,roles[l.b.toNat]'qn=y:=⟨_,rfl⟩
  rw[hx,hy]at hsucc
  refine Abm 46 (e:=Aa) (l:=[x,y]) E (by rw[← hx,← hy];rfl) ?_
  refine At 46 E ?_
  refine Ag (C6 [x,y] 1 (by unfold Am;simp)) F86 E E E E E ?_
  refine rg ?_;conv=>whnf
  refine⟨fun h1=>?_,fun h1=>?_⟩
  ·rw[h1,Bool.true_and]at hsucc
   refine rg ?_;conv=>whnf
   refine Ag (C6 [x,y] 2 (by unfold Am;simp)) F86 E E E E E ?_
   refine rg ?_;conv=>whnf
   refine⟨by omega,by omega,?_⟩
   conv=>whnf
   refine⟨E,by omega,inB [x,y] 2,E,E,?_⟩
   conv=>whnf
   refine⟨by unfold I64;omega,?_⟩
   conv=>whnf
   exact Ar [] hlt ⟨⟨E,E,E,E,E,E,E,E,E,E,Y⟩,⟨.inl (congrArg (Ob.row 1 Ad) hsucc),E,Y⟩,E,E⟩
  ·rw[h1,Bool.false_and]at hsucc
   refine rg ?_;conv=>whnf
   refine⟨by omega,by omega,?_⟩
   conv=>whnf
   refine⟨E,by omega,false,E,E,?_⟩
   conv=>whnf
   refine⟨by unfold I64;omega,?_⟩
   conv=>whnf
   exact Ar [] hlt ⟨⟨E,E,E,E,E,E,E,E,E,E,Y⟩,⟨.inl (congrArg (Ob.row 1 Ad) hsucc),E,Y⟩,E,E⟩
 have hjl:j=n.links.length:=by
  have:¬ j<n.links.length:=by simpa using h
  omega
 subst hjl
 rw[← hall]
 refine rg ?_;conv=>whnf
 refine At 27 E ?_
 exact Ac E (.cons .tmp (.cons .tmp .nil)) E E
end Go.Sy.YtmelpejjondedaaGreat
namespace Go.Sy.YtmelpejjondedaaGreat
open Go.Proofs
structure MacM where
 up:List Bool
 tables:List (List EntryM)
 queues:List (List QueuedM)
 now:Int
 injected:Int
 drops:Nat→Int
def By (m:MacM) (e:Int):MacM:=⟨m.up,m.tables,m.queues,m.now,m.injected,fun i=>if i=e.toNat then m.drops i+1 else m.drops i⟩
def queueL (m:MacM) (dom:Int):List QueuedM:=(m.queues[dom.toNat]?).getD []
def tableL (m:MacM) (dom:Int):List EntryM:=(m.tables[dom.toNat]?).getD []
def Afe (m:MacM) (dom:Int) (l:List QueuedM):MacM:=⟨m.up,m.tables,m.queues.set dom.toNat l,m.now,m.injected,m.drops⟩
def Dq (m:MacM) (dom:Int) (t:List EntryM):MacM:=⟨m.up,m.tables.set dom.toNat t,m.queues,m.now,m.injected,m.drops⟩
def comeM (m:MacM) (dom:Int) (q:QueuedM) (e:Int):MacM :=
 if e≠0 then By m e else if (pushT (queueL m dom) q).2=true then Afe m dom (pushT (queueL m dom) q).1 else By m 3
def takeM (m:MacM) (dom at_:Int):MacM × QueuedM × Bool :=
 if Aj dom m.queues.length=false then (m,noQ,false)
 else (Afe m dom (takeT (queueL m dom) at_).2.1,(takeT (queueL m dom) at_).1,(takeT (queueL m dom) at_).2.2)
def injectT (n:Net) (m:MacM) (port:Int) (b:List UInt8):MacM :=
 if Aj port n.ports.length=false∨0≤(nth n.ports port).link then m
 else comeM ⟨m.up,m.tables,m.queues,m.now,m.injected+1,m.drops⟩ (enterT n port b).1 ⟨port,0,m.injected+1,(enterT n port b).2.1⟩ (enterT n port b).2.2
def goesM (n:Net) (m:MacM) (o:OutM) (origin:Int):MacM × List SeenM :=
 if o.kind=1 then (m,[⟨o.port,origin,o.bytes⟩])
 else if o.kind=2 then (comeM m (linkT n o.port o.bytes).2.1 ⟨(linkT n o.port o.bytes).1,0,origin,(linkT n o.port o.bytes).2.2.1⟩ (linkT n o.port o.bytes).2.2.2,[])
 else if o.kind=3 then (comeM m (comeT n o.bytes).2.1 ⟨-1,(comeT n o.bytes).1,origin,(comeT n o.bytes).2.2.1⟩ (comeT n o.bytes).2.2.2,[])
 else if o.kind=4 then (comeM m o.domain ⟨-2,0,origin,o.frame⟩ 0,[])
 else (By m o.error,[])
def Bl (n:Net) (m:MacM) (origin:Int):List OutM→MacM × List SeenM
 | []=>(m,[])
 | o::l=>((Bl n (goesM n m o origin).1 origin l).1,(goesM n m o origin).2++(Bl n (goesM n m o origin).1 origin l).2)
def Jd (n:Net) (up:List Bool):List Bool:=if okB n up=true then fwdT n up else []
def Z1 (n:Net) (m:MacM) (dom:Int) (q:QueuedM):List EntryM × List OutM × Int:=bridgeT n (Jd n m.up) (tableL m dom) dom q m.now
def Ol (m:MacM) (dom:Int) (r:List EntryM × List OutM × Int):MacM :=
 if r.2.2=2 then By m 2 else if r.2.2≠0 then By (Dq m dom r.1) r.2.2 else Dq m dom r.1
def pickT (n:Net) (m:MacM) (dom at_:Int):MacM × List SeenM :=
 if (takeM m dom at_).2.2=false then ((takeM m dom at_).1,[])
 else Bl n (Ol (takeM m dom at_).1 dom (Z1 n (takeM m dom at_).1 dom (takeM m dom at_).2.1)) (takeM m dom at_).2.1.origin (Z1 n (takeM m dom at_).1 dom (takeM m dom at_).2.1).2.1
def L5 (m:MacM):MacM :=
 let now:=min (m.now+1) 1099511627776
 ⟨m.up,m.tables.map (fun t=>ageT t now),m.queues,now,m.injected,m.drops⟩
def doT (n:Net) (m:MacM) (x:StepM):MacM × List SeenM :=
 if x.kind=1 then (injectT n m x.port x.bytes,[])
 else if x.kind=2 then pickT n m x.domain x.at_
 else if x.kind=3 then ((takeM m x.domain x.at_).1,[])
 else if x.kind=4 then (L5 m,[])
 else if x.kind=5 then ((if x.up.length=n.links.length then ⟨x.up,m.tables,m.queues,m.now,m.injected,m.drops⟩ else m),[])
 else (m,[])
def newT (n:Net):MacM:=⟨List.replicate n.links.length true,List.replicate n.domains.length [],List.replicate n.domains.length [],0,0,fun _=>0⟩
def Dr (n:Net):MacM→List StepM→MacM × List SeenM
 | m,[]=>(m,[])
 | m,x::l=>((Dr n (doT n m x).1 l).1,(doT n m x).2++(Dr n (doT n m x).1 l).2)
def Bd (e:Int):Prop:=0≤e∧e<64
def DomIn (n:Net) (d:Int):Prop:=0≤d∧d.toNat<n.domains.length
theorem H5 {n:Net} {d:Int} (h:Aj d n.domains.length=true):DomIn n d:=by
 have:=Bm h
 unfold DomIn
 omega
theorem Qp (b:List UInt8):Bd (takeF b).2:=by
 unfold takeF Bd
 repeat' split
 all_goals (dsimp only;omega)
theorem Abu (f:FrameM):Bd (stripT f).2.2.2:=by
 unfold stripT Bd
 repeat' split
 all_goals (dsimp only;omega)
theorem Va (n:Net) (port:Int) (b:List UInt8):Bd (enterT n port b).2.2:=by
 have h1:=Qp b
 have h2:=Abu (takeF b).1
 have h3:∀ f tg v,Bd (Ic n port f tg v).2.2:=fun f tg v=>by
  unfold Ic Bd
  repeat' split
  all_goals (dsimp only;omega)
 unfold enterT
 split
 ·unfold Bd;dsimp only;omega
 split
 ·exact h1
 split
 ·split
  ·exact h2
  ·exact h3 _ _ _
 ·exact h3 _ _ _
theorem Af3 (n:Net) (port:Int) (b:List UInt8):Bd (linkT n port b).2.2.2:=by
 unfold linkT
 split
 ·unfold Bd;dsimp only;omega
 ·exact Va _ _ _
theorem Acq (n:Net) (port dom:Int) (f:FrameM):Bd (leaveT n port dom f).2:=by
 unfold leaveT
 split
 ·unfold Bd;dsimp only;omega
 split
 ·unfold Bd;dsimp only;omega
 split
 ·unfold Bd;dsimp only;omega
 split
 ·unfold Bd;dsimp only;omega
 split
 ·show Bd (tagT f (nth n.domains dom).vlan).2
  unfold tagT Bd
  repeat' split
  all_goals (dsimp only;omega)
 ·unfold Bd;dsimp only;omega
theorem Aey (a b:Nat) (v:Int) (f:FrameM):Bd (wrapT a b v f).2:=by
 unfold wrapT Bd
 repeat' split
 all_goals (dsimp only;omega)
theorem Af0 (n:Net) (dom peer:Int) (f:FrameM):Bd (meshT n dom peer f).2:=by
 unfold meshT
 split
 ·unfold Bd;dsimp only;omega
 split
 ·unfold Bd;dsimp only;omega
 ·exact Aey _ _ _ _
theorem Ss (b:List UInt8):Bd (ipTakeT b).2:=by
 unfold ipTakeT Bd
 repeat' split
 all_goals (dsimp only;omega)
theorem Xl (b:List UInt8):Bd (udpTakeT b).2.2.2:=by
 unfold udpTakeT Bd
 repeat' split
 all_goals (dsimp only;omega)
theorem Ag5 (b:List UInt8):Bd (vniT b).2.2:=by
 unfold vniT Bd
 repeat' split
 all_goals (dsimp only;omega)
theorem Acd (b:List UInt8):Bd (outerT b).2:=by
 unfold outerT
 split
 ·exact Qp _
 split
 ·unfold Bd;dsimp only;omega
 split
 ·exact Ss _
 ·unfold Bd;dsimp only;split<;>omega
theorem Ac1 (b:List UInt8):Bd (Iz b).2.2:=by
 unfold Iz
 split
 ·exact Xl _
 split
 ·unfold Bd;dsimp only;omega
 split
 ·exact Ag5 _
 split
 ·exact Qp _
 split
 ·unfold Bd;dsimp only;omega
 ·unfold Bd;dsimp only;omega
theorem Zc (b:List UInt8):Bd (Bp b).2.2.2.2:=by
 unfold Bp
 split
 ·exact Acd _
 split
 ·exact Ac1 _
 ·unfold Bd;dsimp only;omega
theorem Ago (n:Net) (b:List UInt8):Bd (comeT n b).2.2.2:=by
 unfold comeT
 split
 ·unfold Bd;dsimp only;omega
 split
 ·exact Zc _
 split
 ·unfold Bd;dsimp only;omega
 split
 ·unfold Bd;dsimp only;omega
 ·unfold Bd;dsimp only;omega
theorem Ai2 (n:Net) (irb:Int) (f:FrameM):Bd (hopT n irb f).2.2:=by
 unfold hopT
 split
 ·unfold Bd;dsimp only;omega
 split
 ·unfold Bd;dsimp only;omega
 split
 ·exact Ss _
 split
 ·unfold Bd;dsimp only;omega
 split
 ·unfold Bd;dsimp only;omega
 split
 ·unfold Bd;dsimp only;omega
 ·unfold Bd;dsimp only;omega
theorem Abd (n:Net) (fw:List Bool) (t:List EntryM) (dom:Int) (q:QueuedM) (now:Int):Bd (bridgeT n fw t dom q now).2.2:=by
 unfold bridgeT
 split
 ·unfold Bd;dsimp only;omega
 split
 ·split
  ·exact Ai2 _ _ _
  ·unfold Bd;dsimp only;omega
 ·unfold Bd;dsimp only;omega
theorem Aen {n:Net} {dev v:Int} (h:Di n dev v=true):DomIn n (Aa6 n dev v):=by
 have h1:0≤Aa6 n dev v:=by simpa [Di] using h
 have h2:Aa6 n dev v<n.domains.length:=E7 _ _
 exact⟨h1,by omega⟩
theorem Ag6 {n:Net} (hb:Af n=true) {port:Int} (hp:Aj port n.ports.length=true) {tg:Bool} {vid:Int} (h:(vlanT (nth n.ports port) tg vid).2=true):DomIn n (Aa6 n (nth n.ports port).dev (vlanT (nth n.ports port) tg vid).1):=by
 have hk:=Bm hp
 have hk2:port.toNat<n.ports.length:=by omega
 simp only[Af,Bool.and_eq_true]at hb
 have hpb:=allB_iff.1 hb.1.1.1.1.1.2 _ hk2
 rw[An hk2]at h ⊢
 generalize n.ports[port.toNat]=p at *
 simp only[Ij,Bool.and_eq_true]at hpb
 obtain ⟨⟨⟨⟨⟨⟨⟨⟨g1,g2⟩,g3⟩,g4⟩,g5⟩,g6⟩,g7⟩,g8⟩,g9⟩:=hpb
 unfold vlanT at h ⊢
 split
 ·rw[if_pos (by assumption)]at h
  have h1:p.native≠0:=by simpa using h
  have h2:0≤p.native:=by simpa using g2
  refine Aen ?_
  have h3:decide (0<p.native)=true:=by simp;omega
  rw[h3,Bool.true_and]at g8
  simpa using g8
 ·rw[if_neg (by assumption)]at h
  split
  ·rename_i h4
   have h5:vid∈p.tagged:=inB_mem.1 h4
   obtain ⟨i,hi,rfl⟩:=List.mem_iff_getElem.1 h5
   exact Aen (allB_iff.1 g7 i hi)
  ·rw[if_neg (by assumption)]at h
   cases h
theorem Vb {n:Net} {port:Int} {b:List UInt8} (h:(enterT n port b).2.2=0):DomIn n (enterT n port b).1:=by
 unfold enterT at h ⊢
 split
 ·rw[if_pos (by assumption)]at h;cases h
 rename_i hc
 rw[if_neg hc]at h
 have hp:Aj port n.ports.length=true:=by cases hx:Aj port n.ports.length;exact absurd (.inl hx) hc;rfl
 have hb:Af n=true:=by cases hx:Af n;exact absurd (.inr hx) hc;rfl
 have key:∀ f tg v,(Ic n port f tg v).2.2=0→DomIn n (Ic n port f tg v).1:=fun f tg v h=>by
  unfold Ic at h ⊢
  split
  ·rw[if_pos (by assumption)]at h;cases h
  rw[if_neg (by assumption)]at h
  split
  ·rw[if_pos (by assumption)]at h;cases h
  rename_i h5
  show DomIn n (Tm n _ _)
  rw[Tm,if_pos hb]
  exact Ag6 hb hp (by simpa using h5)
 split
 ·rename_i h2
  rw[if_pos h2]at h
  exact absurd h h2
 rename_i h2
 rw[if_neg h2]at h
 split
 ·rename_i h3
  rw[if_pos h3]at h
  split
  ·rename_i h4
   rw[if_pos h4]at h
   exact absurd h h4
  ·rename_i h4
   rw[if_neg h4]at h
   exact key _ _ _ h
 ·rename_i h3
  rw[if_neg h3]at h
  exact key _ _ _ h
theorem Af4 {n:Net} {port:Int} {b:List UInt8} (h:(linkT n port b).2.2.2=0):DomIn n (linkT n port b).2.1:=by
 unfold linkT at h ⊢
 split
 ·rw[if_pos (by assumption)]at h;cases h
 ·rename_i h2
  rw[if_neg h2]at h
  exact Vb h
theorem Z2 {n:Net} (hb:Af n=true) {dom:Nat} (hd:dom<n.domains.length) {k:Int} (hk:k∈n.domains[dom].peers):DomIn n k:=by
 simp only[Af,Bool.and_eq_true]at hb
 have:=allB_iff.1 hb.1.1.1.1.1.1.2 _ hd
 obtain ⟨i,hi,rfl⟩:=List.mem_iff_getElem.1 hk
 have h2:=allB_iff.1 this i hi
 simp only[Wk,Bool.and_eq_true]at h2
 exact H5 h2.1.1.1.1.1.1.1.1.1
theorem Ajm {n:Net} (hb:Af n=true) {src dst:Nat} {vni:Int} (h:¬ (endsT n src dst vni).1<0):DomIn n (endsT n src dst vni).1∧DomIn n (endsT n src dst vni).2:=by
 unfold endsT at h ⊢
 dsimp only at h ⊢
 split
 ·rw[if_pos (by assumption)]at h;exact absurd qx h
 rename_i h1
 rw[if_neg h1]at h
 split
 ·rw[if_pos (by assumption)]at h;exact absurd qx h
 rename_i h2
 have hd:=E7 (fun d:Domain=>decide (d.dev=Dl (fun d:Device=>decide (d.vtep=(dst:Int))) n.devices) && decide (d.vni=vni)) n.domains
 generalize Dl (fun d:Domain=>decide (d.dev=Dl (fun d:Device=>decide (d.vtep=(dst:Int))) n.devices) && decide (d.vni=vni)) n.domains=dom at *
 have hd2:dom.toNat<n.domains.length:=by omega
 have hi:=E7 (fun k:Int=>decide (Hk n k=(src:Int))) (nth n.domains dom).peers
 generalize Dl (fun k:Int=>decide (Hk n k=(src:Int))) (nth n.domains dom).peers=i at *
 rw[An hd2]at hi ⊢
 have hi2:i.toNat<(n.domains[dom.toNat]).peers.length:=by omega
 refine⟨?_,⟨by dsimp only;omega,hd2⟩⟩
 show DomIn n (nth (n.domains[dom.toNat]).peers i)
 rw[An hi2]
 exact Z2 hb hd2 (List.getElem_mem hi2)
theorem Xc {n:Net} {b:List UInt8} (h:(comeT n b).2.2.2=0):DomIn n (comeT n b).1∧DomIn n (comeT n b).2.1:=by
 unfold comeT at h ⊢
 split
 ·rw[if_pos (by assumption)]at h;cases h
 rename_i hb
 rw[if_neg hb]at h
 split
 ·rename_i h2
  rw[if_pos h2]at h;exact absurd h h2
 rename_i h2
 rw[if_neg h2]at h
 split
 ·rw[if_pos (by assumption)]at h;cases h
 rename_i h3
 rw[if_neg h3]at h
 split
 ·rw[if_pos (by assumption)]at h;cases h
 exact Ajm (by simpa using hb) h3
theorem Ai3 {n:Net} {irb:Int} {f:FrameM} (hin:∀ (d:Int),(lookT n irb d).2=true→0≤(lookT n irb d).1∧(lookT n irb d).1.toNat<n.irbs.length) (h:(hopT n irb f).2.2=0):DomIn n (hopT n irb f).1:=by
 unfold hopT at h ⊢
 split
 ·rw[if_pos (by assumption)]at h;cases h
 rename_i h1
 rw[if_neg h1]at h
 split
 ·rw[if_pos (by assumption)]at h;cases h
 rename_i h2
 rw[if_neg h2]at h
 split
 ·rename_i h3
  rw[if_pos h3]at h;exact absurd h h3
 rename_i h3
 rw[if_neg h3]at h
 split
 ·rw[if_pos (by assumption)]at h;cases h
 rename_i h4
 rw[if_neg h4]at h
 split
 ·rw[if_pos (by assumption)]at h;cases h
 rename_i h5
 rw[if_neg h5]at h
 split
 ·rw[if_pos (by assumption)]at h;cases h
 have hl:=hin ((ipTakeT f.body).1.dst:Int) (by simpa using h5)
 have hb:Af n=true:=by cases hx:Af n;exact absurd (.inr hx) h1;rfl
 have:=(Du hb hl.2).1
 show DomIn n (nth n.irbs _).domain
 rw[An hl.2]
 exact this
structure TabOK (t:List EntryM):Prop where
 short:Am t
 mac:∀ e∈t,e.mac<18446744073709551616
 wh:∀ e∈t,I64 e.where_
structure QueuedOK (q:QueuedM):Prop where
 frame:FrameOK q.frame
 from_:-2≤q.from_∧q.from_<1099511627776
 peer:0≤q.peer∧q.peer<1099511627776
def D1 (l:List QueuedM):Prop:=l.length≤64∧∀ q∈l,QueuedOK q
structure MacOK (n:Net) (m:MacM) (J D:Int):Prop where
 up:m.up.length=n.links.length
 tabs:m.tables.length=n.domains.length
 ques:m.queues.length=n.domains.length
 tab:∀ t∈m.tables,TabOK t
 que:∀ l∈m.queues,D1 l
 now:0≤m.now∧m.now≤1099511627776
 inj:0≤m.injected∧m.injected≤J
 drp:∀ i,0≤m.drops i∧m.drops i≤D
theorem Ei {f:FrameM} (hf:FrameOK f) {a b:Int} (c:Int) (h1:-2≤a∧a<1099511627776) (h2:0≤b∧b<1099511627776):QueuedOK ⟨a,b,c,f⟩:=⟨hf,h1,h2⟩
theorem Ail:QueuedOK noQ:=⟨C5,by decide,by decide⟩
theorem Q0:TabOK []:=⟨by unfold Am;decide,fun _ h=>(by cases h),fun _ h=>(by cases h)⟩
theorem So:D1 []:=⟨by decide,fun _ h=>(by cases h)⟩
theorem X9 {α:Type} {l:List α} {i:Nat} {x y:α} (h:y∈l.set i x):y=x∨y∈l:=by
 rcases List.mem_or_eq_of_mem_set h with h | h
 ·exact .inr h
 ·exact .inl h
theorem U4 {α:Type} {l:List α} {i:Nat} {d:α} (h:i<l.length):(l[i]?).getD d∈l:=by
 rw[List.getElem?_eq_getElem h]
 exact List.getElem_mem h
theorem Dx {n:Net} {m:MacM} {J D:Int} (h:MacOK n m J D) (dom:Int):D1 (queueL m dom):=by
 unfold queueL
 by_cases hd:dom.toNat<m.queues.length
 ·exact h.que _ (U4 hd)
 ·rw[List.getElem?_eq_none qn];exact So
theorem Qq {n:Net} {m:MacM} {J D:Int} (h:MacOK n m J D) (dom:Int):TabOK (tableL m dom):=by
 unfold tableL
 by_cases hd:dom.toNat<m.tables.length
 ·exact h.tab _ (U4 hd)
 ·rw[List.getElem?_eq_none qn];exact Q0
theorem MacOK.mono {n:Net} {m:MacM} {J D J' D':Int} (h:MacOK n m J D) (h1:J≤J') (h2:D≤D'):MacOK n m J' D' :=
 ⟨h.up,h.tabs,h.ques,h.tab,h.que,h.now,⟨h.inj.1,by have:=h.inj.2;omega⟩,fun i=>⟨(h.drp i).1,by have:=(h.drp i).2;omega⟩⟩
theorem K3 {n:Net} {m:MacM} {J D:Int} (h:MacOK n m J D) (hD:0≤D) (e:Int):MacOK n (By m e) J (D+1):=by
 refine⟨h.up,h.tabs,h.ques,h.tab,h.que,h.now,h.inj,fun i=>?_⟩
 have:=h.drp i
 show 0≤(if i=e.toNat then m.drops i+1 else m.drops i)∧(if i=e.toNat then m.drops i+1 else m.drops i)≤D+1
 split<;>omega
theorem Ad2 {n:Net} {m:MacM} {J D:Int} (h:MacOK n m J D) (dom:Int) {l:List QueuedM} (hl:D1 l):MacOK n (Afe m dom l) J D:=by
 refine⟨h.up,h.tabs,by rw[Afe];simp[h.ques],h.tab,fun x hx=>?_,h.now,h.inj,h.drp⟩
 rcases X9 hx with rfl | hx
 ·exact hl
 ·exact h.que x hx
theorem Xt {n:Net} {m:MacM} {J D:Int} (h:MacOK n m J D) (dom:Int) {l:List EntryM} (hl:TabOK l):MacOK n (Dq m dom l) J D:=by
 refine⟨h.up,by rw[Dq];simp[h.tabs],h.ques,fun x hx=>?_,h.que,h.now,h.inj,h.drp⟩
 rcases X9 hx with rfl | hx
 ·exact hl
 ·exact h.tab x hx
theorem Ah4 {l:List QueuedM} (hl:D1 l) {q:QueuedM} (hq:QueuedOK q):D1 (pushT l q).1:=by
 unfold pushT
 split
 ·exact hl
 ·refine⟨by simp;omega,fun x hx=>?_⟩
  rcases List.mem_append.1 hx with hx | hx
  ·exact hl.2 x hx
  ·rw[List.mem_singleton.1 hx];exact hq
theorem Ahe {l:List QueuedM} (hl:D1 l) (at_:Int):QueuedOK (takeT l at_).1∧D1 (takeT l at_).2.1:=by
 unfold takeT
 split
 ·exact⟨Ail,hl⟩
 ·rename_i h
  refine⟨hl.2 _ (U4 qn),?_,fun x hx=>hl.2 x (List.mem_of_mem_eraseIdx hx)⟩
  have:=List.length_eraseIdx_le l at_.toNat
  have:=hl.1
  show (l.eraseIdx at_.toNat).length≤64
  omega
theorem Qf {n:Net} {m:MacM} {J D:Int} (h:MacOK n m J D) (hD:0≤D) (dom:Int) {q:QueuedM} (hq:QueuedOK q) (e:Int):MacOK n (comeM m dom q e) J (D+1):=by
 unfold comeM
 split
 ·exact K3 h hD e
 split
 ·exact(Ad2 h dom (Ah4 (Dx h dom) hq)).mono (Int.le_refl _) qn
 ·exact K3 h hD 3
theorem Tu {n:Net} {m:MacM} {J D:Int} (h:MacOK n m J D) (dom at_:Int):MacOK n (takeM m dom at_).1 J D∧QueuedOK (takeM m dom at_).2.1:=by
 unfold takeM
 split
 ·exact⟨h,Ail⟩
 ·have:=Ahe (Dx h dom) at_
  exact⟨Ad2 h dom this.2,this.1⟩
theorem Ac2 {n:Net} (hn:n.Fin) {m:MacM} {J D:Int} (h:MacOK n m J D) (hJ:0≤J) (hD:0≤D) (port:Int) (b:List UInt8):MacOK n (injectT n m port b) (J+1) (D+1):=by
 unfold injectT
 split
 ·exact h.mono qn qn
 ·rename_i hc
  have hp:Aj port n.ports.length=true:=by cases hx:Aj port n.ports.length;exact absurd (.inl hx) hc;rfl
  have hpi:=Bm hp
  have hs:=hn.ports
  unfold Am at hs
  have h1:=h.inj
  have hm:MacOK n ⟨m.up,m.tables,m.queues,m.now,m.injected+1,m.drops⟩ (J+1) D:=⟨h.up,h.tabs,h.ques,h.tab,h.que,h.now,(by show 0≤m.injected+1∧m.injected+1≤J+1;omega),h.drp⟩
  exact Qf hm hD _ (Ei (Q8 _ _ _) _ qn qn) _
structure OutOK (n:Net) (o:OutM):Prop where
 kind:1≤o.kind∧o.kind≤5
 bytes:o.bytes.length≤1518
 frame:o.kind=4→FrameOK o.frame∧DomIn n o.domain
 err:o.kind=5→Bd o.error
theorem Afs {n:Net} (hn:n.Fin) (port:Int):-1≤Hh n port∧Hh n port<2147483648:=by
 unfold Hh
 split
 ·rename_i h
  obtain ⟨⟨h1,h2⟩,h3,hb⟩:=h
  have hk:port.toNat<n.ports.length:=by omega
  rw[An hk]at h3 ⊢
  have hl:=(K2 hb hk h3).1
  rw[An hl]
  simp only[Af,Bool.and_eq_true]at hb
  have hlb:=allB_iff.1 hb.1.1.1.1.2 _ hl
  simp only[Sq,Bool.and_eq_true]at hlb
  have ha:=Bm hlb.1.1.1.1
  have hb2:=Bm hlb.1.1.1.2
  have hs:=hn.ports
  unfold Am at hs
  split<;>omega
 ·omega
theorem Aag {n:Net} (hn:n.Fin) (port:Int) (b:List UInt8):0≤(linkT n port b).1∧(linkT n port b).1<1099511627776:=by
 have:=Afs hn port
 unfold linkT
 split<;>dsimp only<;>omega
theorem Vj {n:Net} (hn:n.Fin) (b:List UInt8):0≤(comeT n b).1∧(comeT n b).1<1099511627776:=by
 by_cases h:(comeT n b).2.2.2=0
 ·have:=(Xc h).1
  have hs:=hn.domains
  unfold Am at hs
  unfold DomIn at this
  omega
 ·unfold comeT at h ⊢
  split
  ·decide
  rename_i h1
  rw[if_neg h1]at h
  split
  ·exact⟨Int.le_refl _,by dsimp only;omega⟩
  rename_i h1
  rw[if_neg h1]at h
  split
  ·decide
  rename_i h1
  rw[if_neg h1]at h
  split
  ·decide
  rename_i h1
  rw[if_neg h1]at h
  exact absurd E h
theorem Ajc {n:Net} (hn:n.Fin) {m:MacM} {J D:Int} (h:MacOK n m J D) (hD:0≤D) {o:OutM} (ho:OutOK n o) (origin:Int):MacOK n (goesM n m o origin).1 J (D+1):=by
 unfold goesM
 split
 ·exact h.mono (Int.le_refl _) qn
 split
 ·have:=Aag hn o.port o.bytes
  exact Qf h hD _ (Ei (Aah _ _ _) _ qn qn) _
 split
 ·exact Qf h hD _ (Ei (Abb _ _) _ qn (Vj hn o.bytes)) _
 split
 ·rename_i h4
  exact Qf h hD o.domain (Ei (a:=-2) (b:=0) (ho.frame h4).1 origin qx qx) 0
 ·exact K3 h hD _
theorem Kz {n:Net} (hn:n.Fin) (origin:Int):∀ (l:List OutM) {m:MacM} {J D:Int},MacOK n m J D→0≤D→(∀ o∈l,OutOK n o)→MacOK n (Bl n m origin l).1 J (D+l.length)
 | [],m,J,D,h,_,_=>by
  rw[Bl]
  exact h.mono (Int.le_refl _) qy
 | o::l,m,J,D,h,hD,ho=>by
  rw[Bl]
  have:=Kz hn origin l (Ajc hn h hD (ho o qy) origin) qn (fun x hx=>ho x (by simp[hx]))
  exact this.mono (Int.le_refl _) (by simp only[List.length_cons];omega)
theorem Aac {n:Net} {o:OutM} {r:List UInt8 × Int} (hk:1≤o.kind∧o.kind≤3) (hr:r.1.length≤1518) (he:Bd r.2):OutOK n (Ov o r):=by
 unfold Ov
 split
 ·exact⟨⟨by dsimp only;omega,by dsimp only;omega⟩,by simp,fun h=>absurd h (by dsimp only;omega),fun _=>he⟩
 ·exact⟨⟨hk.1,by have:=hk.2;dsimp only;omega⟩,hr,fun h=>by have:=hk.2;dsimp only at h;omega,fun h=>by have:=hk.2;dsimp only at h;omega⟩
theorem Af7 {t:List EntryM} (h:TabOK t) {m:Nat} (hm:m<18446744073709551616) {wh:Int} (hw:I64 wh) (now:Int):TabOK (learnT t m wh now):=by
 have hs:=h.short
 unfold Am at hs
 have key:∀ e:EntryM,e∈learnT t m wh now→e∈t∨e=⟨m,wh,now⟩:=fun e he=>by
  unfold learnT at he
  split at he
  ·exact .inl he
  split at he
  ·rcases X9 he with h | h
   ·exact .inr h
   ·exact .inl h
  ·rcases List.mem_append.1 he with h | h
   ·split at h
    ·exact .inl (List.mem_of_mem_eraseIdx h)
    ·exact .inl h
   ·exact .inr (List.mem_singleton.1 h)
 refine⟨?_,fun e he=>?_,fun e he=>?_⟩
 ·unfold learnT
  split
  ·exact h.short
  rename_i hb
  have h8:t.length≤8:=by
   have:tableB t=true:=by cases hx:tableB t;exact absurd (.inl hx) hb;rfl
   simp only[tableB,Bool.and_eq_true,decide_eq_true_eq]at this
   exact this.1
  split
  ·unfold Am;simp;omega
  ·unfold Am
   split
   ·have:=List.length_eraseIdx_le t (oldestU t t.length)
    simp only[List.length_append,List.length_cons,List.length_nil]
    omega
   ·simp only[List.length_append,List.length_cons,List.length_nil]
    omega
 ·rcases key e he with h1 | rfl
  ·exact h.mac e h1
  ·exact hm
 ·rcases key e he with h1 | rfl
  ·exact h.wh e h1
  ·exact hw
theorem Lm {t:List EntryM} (h:TabOK t) {q:QueuedM} (hq:QueuedOK q) (now:Int):TabOK (learnQ t q now):=by
 unfold learnQ
 split
 ·exact h
 ·have hs:=hq.frame.src
  refine Af7 h qn ?_ now
  have h1:=hq.from_
  have h2:=hq.peer
  unfold I64
  split<;>omega
theorem Aln {t:List EntryM} (h:TabOK t) (now:Int):TabOK (ageT t now):=by
 unfold ageT
 split
 ·exact h
 ·have hs:=h.short
  unfold Am at hs
  refine⟨?_,fun e he=>h.mac e (List.mem_filter.1 he).1,fun e he=>h.wh e (List.mem_filter.1 he).1⟩
  unfold Am
  exact Nat.lt_of_le_of_lt (List.length_filter_le _ _) hs
theorem Z8 (n:Net) (dom:Int):(Ax n dom).length≤n.ports.length:=by
 rw[Ax]
 have:=Dy (Mf n (nth n.domains dom)) n.ports.length
 exact this
end Go.Sy.YtmelpejjondedaaGreat
