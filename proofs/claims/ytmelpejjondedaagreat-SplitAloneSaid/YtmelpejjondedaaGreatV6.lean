/-
  T21 Z0 Z1 Z2 Sy34 Sy35 Sy36 Sy37 Sy38 Z3 Z4 K27 K28 K29 K30 K31 K32 K33 K34: parts of a proof, joined by program.
-/
import Derived.Test.YtmelpejjondedaaGreatV5
import Derived.Test.YtmelpejjondedaaGreatV4
import Derived.Test.YtmelpejjondedaaGreatV3
import Derived.Laws.LoneSync
namespace Go.Sy.YtmelpejjondedaaGreat
open Go.Proofs
attribute [local irreducible] Go.Sy.G Go.Sy.DR
set_option maxRecDepth 100000
set_option maxHeartbeats 4000000
theorem Zg {n:Net} {up:List Bool} (h:okB n up = true):Solved n up (C3 n) (T6 n up) (Vg n up):=by
 obtain ⟨hu,hr,hcost⟩:=ok_iff.1 h
 exact Vp n up (C3 n) hr hcost (Ix n) (fun r h=>(Sj n r h).1)
def Xv (n:Net) (up:List Bool):List Int:=rolesL n up (C3 n) (T6 n up) (Vg n up)
def fwdT (n:Net) (up:List Bool):List Bool:=fwdL n (Xv n up)
theorem Vo (n:Net) (up:List Bool):(Xv n up).length = n.ports.length:=E8 ..
theorem Acm (n:Net) (up:List Bool) (h:okB n up = true):Sy.Spec Tryz.prog 85 [X6 n up] [] (.sl 1 Aa (Xv n up)) []:=by
 obtain ⟨hu,hr,hcost⟩:=ok_iff.1 h
 have S:=Zg h
 exact rolesS n up (C3 n) (T6 n up) (Vg n up) hr hu hcost (Ix n) S.rootsL S.costsL (fun c hc=>by have:=S.bound c hc; omega)
theorem U3 (n:Net) (up:List Bool) (hn:n.Fin) (h:okB n up = false):Sy.Spec Tryz.prog 44 [Aq n,.sl 1 Ad up] [] (.tup [.sl 1 Ad [],Aa 2]) []:=Ab Γ hm 100 F44 Tryz.ntmps44 rfl fun F hF=>by
 conv=>whnf
 refine Ag (Ak5 n up hn h) F84 E E E E E ?_
 (refine rg ?_;(conv=>whnf);refine aT ?_;refine rg ?_;conv=>whnf)
 refine Ao 4 1 Ad E ?_
 exact Ac E (.cons .tmp (.cons .tmp .nil)) E E
def Tf (n:Net) (roles:List Int) (j:Nat):List Bool:=(n.links.take j).map (Ajp roles) ++ List.replicate (n.links.length - j) false
theorem Ago (n:Net) (roles:List Int):Tf n roles 0 = List.replicate n.links.length false:=by simp [Tf]
theorem Ajo (n:Net) (roles:List Int):Tf n roles n.links.length = fwdL n roles:=by simp [Tf,fwdL]
theorem Aay (n:Net) (roles:List Int) (j:Nat) (h:j ≤ n.links.length):(Tf n roles j).length = n.links.length:=by simp [Tf]; omega
theorem Agp (n:Net) (roles:List Int) (j:Nat) (h:j < n.links.length):Tf n roles (j + 1) = (Tf n roles j).set j (Ajp roles n.links[j]):=by
 have e:n.links.length - j = (n.links.length - (j + 1)) + 1:=by omega
 have el:((n.links.take j).map (Ajp roles)).length = j:=by simp; omega
 rw [Tf,Tf,List.set_append_right _ _ (by omega),el,Nat.sub_self,List.take_succ_eq_append_getElem h,List.map_append,e,List.replicate_succ,List.set_cons_zero]
 simp
theorem W6 (n:Net) (up:List Bool) (hn:n.Fin) (h:okB n up = true):Sy.Spec Tryz.prog 44 [Aq n,.sl 1 Ad up] [] (.tup [.sl 1 Ad (fwdT n up),Aa 0]) []:=Ab Γ hm 100 F44 Tryz.ntmps44 rfl fun F hF=>by
 obtain ⟨hu,hr,hcost⟩:=ok_iff.1 h
 have hf:=Dh hr
 have ho:=openOK n up hn hu hr hcost
 have hro:=Acm n up h
 have hrl:=Vo n up
 rw [fwdT]
 generalize Xv n up = roles at *
 unfold X6 at ho hro
 generalize C3 n = ranks at *
 generalize T6 n up = roots at *
 generalize Vg n up = costs at *
 conv=>whnf
 refine Ag ho F84 E E E E E ?_
 (refine rg ?_;(conv=>whnf);refine aF ?_;refine rg ?_;conv=>whnf)
 refine Ag hro F85 E E E E E ?_
 refine rg ?_;conv=>whnf
 refine Ai (Bv Γ.toTy (d:=27) (n:=n.links.length) Ad false E E E E E E E E (by omega) (by omega) E E E) E E ?_
 rw [← Ago n roles]
 refine rg ?_;conv=>whnf
 refine A0 n.links.length (fun j=>[(8,.sl 1 Aa roles),(9,.osl 27),(29,.sl 3 Cg n.links),(30,Aa n.links.length),(31,Aa j)]) (fun j=>[(27,.row 1 Ad (Tf n roles j))]) []
  ⟨⟨rfl,rfl,rfl,rfl,rfl,rfl,rfl,rfl,rfl,rfl,trivial⟩,⟨.inl rfl,rfl,trivial⟩,rfl,rfl⟩ ?_
 intro j hj
 have hall:=Ajo n roles
 refine rg ?_;conv=>whnf
 refine ⟨fun h=>?_,fun h=>?_⟩
 ·have hlt:j < n.links.length:=by simpa using h
  have he:=Jd hr hlt
  have e1:n.links[(j:Int).toNat]'(by omega) = n.links[j]:=rfl
  have hlen:=Aay n roles j hj
  have hsucc:=Agp n roles j hlt
  generalize Tf n roles j = u at *
  generalize n.links[j] = l at *
  rw [Ajp,An (l:=roles) (i:=l.a) (by omega),An (l:=roles) (i:=l.b) (by omega)] at hsucc
  refine rg ?_;conv=>whnf
  refine ⟨E,by omega,by omega,?_⟩
  rw [e1]
  conv=>whnf
  refine ⟨E,by omega,by omega,?_⟩
  conv=>whnf
  refine ⟨E,by omega,by omega,?_⟩
  conv=>whnf
  refine ⟨(by kernel_rfl),?_⟩
  conv=>whnf
  have hA:0 ≤ l.a ∧ l.a < roles.length:=by omega
  have hB:0 ≤ l.b ∧ l.b < roles.length:=by omega
  obtain ⟨x,hx⟩:∃ x,roles[l.a.toNat]'(by omega) = x:=⟨_,rfl⟩
  obtain ⟨y,hy⟩:∃ y,roles[l.b.toNat]'(by omega) = y:=⟨_,rfl⟩
  rw [hx,hy] at hsucc
  refine Abs 46 (e:=Aa) (l:=[x,y]) E (by rw [← hx,← hy]; rfl) ?_
  refine At 46 E ?_
  refine Ag (C5 [x,y] 1 (by unfold Am; simp)) F86 E E E E E ?_
  refine rg ?_;conv=>whnf
  refine ⟨fun h1=>?_,fun h1=>?_⟩
  ·rw [h1,Bool.true_and] at hsucc
   refine rg ?_;conv=>whnf
   refine Ag (C5 [x,y] 2 (by unfold Am; simp)) F86 E E E E E ?_
   refine rg ?_;conv=>whnf
   refine ⟨by omega,by omega,?_⟩
   conv=>whnf
   refine ⟨E,by omega,inB [x,y] 2,E,E,?_⟩
   conv=>whnf
   refine ⟨by unfold I64; omega,?_⟩
   conv=>whnf
   exact Ar [] hlt ⟨⟨E,E,E,E,E,E,E,E,E,E,Y⟩,⟨.inl (congrArg (Ob.row 1 Ad) hsucc),E,Y⟩,E,E⟩
  ·rw [h1,Bool.false_and] at hsucc
   refine rg ?_;conv=>whnf
   refine ⟨by omega,by omega,?_⟩
   conv=>whnf
   refine ⟨E,by omega,false,E,E,?_⟩
   conv=>whnf
   refine ⟨by unfold I64; omega,?_⟩
   conv=>whnf
   exact Ar [] hlt ⟨⟨E,E,E,E,E,E,E,E,E,E,Y⟩,⟨.inl (congrArg (Ob.row 1 Ad) hsucc),E,Y⟩,E,E⟩
 have hjl:j = n.links.length:=by
  have:¬ j < n.links.length:=by simpa using h
  omega
 subst hjl
 rw [← hall]
 refine rg ?_;conv=>whnf
 refine At 27 E ?_
 exact Ac E (.cons .tmp (.cons .tmp .nil)) E E
end Go.Sy.YtmelpejjondedaaGreat
namespace Go.Sy.YtmelpejjondedaaGreat
open Go.Proofs
structure MacM where
 up:List Bool
 tables:List (List EntryM)
 queues:List (List QueuedM)
 now:Int
 injected:Int
 drops:Nat → Int
def B0 (m:MacM) (e:Int):MacM:=⟨m.up,m.tables,m.queues,m.now,m.injected,fun i=>if i = e.toNat then m.drops i + 1 else m.drops i⟩
def queueL (m:MacM) (dom:Int):List QueuedM:=(m.queues[dom.toNat]?).getD []
def tableL (m:MacM) (dom:Int):List EntryM:=(m.tables[dom.toNat]?).getD []
def Xt (m:MacM) (dom:Int) (l:List QueuedM):MacM:=⟨m.up,m.tables,m.queues.set dom.toNat l,m.now,m.injected,m.drops⟩
def Dq (m:MacM) (dom:Int) (t:List EntryM):MacM:=⟨m.up,m.tables.set dom.toNat t,m.queues,m.now,m.injected,m.drops⟩
def comeM (m:MacM) (dom:Int) (q:QueuedM) (e:Int):MacM :=
 if e ≠ 0 then B0 m e else if (pushT (queueL m dom) q).2 = true then Xt m dom (pushT (queueL m dom) q).1 else B0 m 3
def takeM (m:MacM) (dom at_:Int):MacM × QueuedM × Bool :=
 if Aj dom m.queues.length = false then (m,noQ,false)
 else (Xt m dom (takeT (queueL m dom) at_).2.1,(takeT (queueL m dom) at_).1,(takeT (queueL m dom) at_).2.2)
def injectT (n:Net) (m:MacM) (port:Int) (b:List UInt8):MacM :=
 if Aj port n.ports.length = false ∨ 0 ≤ (nth n.ports port).link then m
 else comeM ⟨m.up,m.tables,m.queues,m.now,m.injected + 1,m.drops⟩ (enterT n port b).1 ⟨port,0,m.injected + 1,(enterT n port b).2.1⟩ (enterT n port b).2.2
def goesM (n:Net) (m:MacM) (o:OutM) (origin:Int):MacM × List SeenM :=
 if o.kind = 1 then (m,[⟨o.port,origin,o.bytes⟩])
 else if o.kind = 2 then (comeM m (linkT n o.port o.bytes).2.1 ⟨(linkT n o.port o.bytes).1,0,origin,(linkT n o.port o.bytes).2.2.1⟩ (linkT n o.port o.bytes).2.2.2,[])
 else if o.kind = 3 then (comeM m (comeT n o.bytes).2.1 ⟨-1,(comeT n o.bytes).1,origin,(comeT n o.bytes).2.2.1⟩ (comeT n o.bytes).2.2.2,[])
 else if o.kind = 4 then (comeM m o.domain ⟨-2,0,origin,o.frame⟩ 0,[])
 else (B0 m o.error,[])
def Be (n:Net) (m:MacM) (origin:Int):List OutM → MacM × List SeenM
 | []=>(m,[])
 | o :: l=>((Be n (goesM n m o origin).1 origin l).1,(goesM n m o origin).2 ++ (Be n (goesM n m o origin).1 origin l).2)
def I2 (n:Net) (up:List Bool):List Bool:=if okB n up = true then fwdT n up else []
def L9 (n:Net) (m:MacM) (dom:Int) (q:QueuedM):List EntryM × List OutM × Int:=bridgeT n (I2 n m.up) (tableL m dom) dom q m.now
def I9 (m:MacM) (dom:Int) (r:List EntryM × List OutM × Int):MacM :=
 if r.2.2 = 2 then B0 m 2 else if r.2.2 ≠ 0 then B0 (Dq m dom r.1) r.2.2 else Dq m dom r.1
def pickT (n:Net) (m:MacM) (dom at_:Int):MacM × List SeenM :=
 if (takeM m dom at_).2.2 = false then ((takeM m dom at_).1,[])
 else Be n (I9 (takeM m dom at_).1 dom (L9 n (takeM m dom at_).1 dom (takeM m dom at_).2.1)) (takeM m dom at_).2.1.origin (L9 n (takeM m dom at_).1 dom (takeM m dom at_).2.1).2.1
def L4 (m:MacM):MacM :=
 let now:=min (m.now + 1) 1099511627776
 ⟨m.up,m.tables.map (fun t=>ageT t now),m.queues,now,m.injected,m.drops⟩
def doT (n:Net) (m:MacM) (x:StepM):MacM × List SeenM :=
 if x.kind = 1 then (injectT n m x.port x.bytes,[])
 else if x.kind = 2 then pickT n m x.domain x.at_
 else if x.kind = 3 then ((takeM m x.domain x.at_).1,[])
 else if x.kind = 4 then (L4 m,[])
 else if x.kind = 5 then ((if x.up.length = n.links.length then ⟨x.up,m.tables,m.queues,m.now,m.injected,m.drops⟩ else m),[])
 else (m,[])
def newT (n:Net):MacM:=⟨List.replicate n.links.length true,List.replicate n.domains.length [],List.replicate n.domains.length [],0,0,fun _=>0⟩
def Ca (n:Net):MacM → List StepM → MacM × List SeenM
 | m,[]=>(m,[])
 | m,x :: l=>((Ca n (doT n m x).1 l).1,(doT n m x).2 ++ (Ca n (doT n m x).1 l).2)
def Bd (e:Int):Prop:=0 ≤ e ∧ e < 64
def DomIn (n:Net) (d:Int):Prop:=0 ≤ d ∧ d.toNat < n.domains.length
theorem H9 {n:Net} {d:Int} (h:Aj d n.domains.length = true):DomIn n d:=by
 have:=Bh h
 unfold DomIn
 omega
theorem Ql (b:List UInt8):Bd (takeF b).2:=by
 unfold takeF Bd
 repeat' split
 all_goals (dsimp only; omega)
theorem Ab1 (f:FrameM):Bd (stripT f).2.2.2:=by
 unfold stripT Bd
 repeat' split
 all_goals (dsimp only; omega)
theorem U8 (n:Net) (port:Int) (b:List UInt8):Bd (enterT n port b).2.2:=by
 have h1:=Ql b
 have h2:=Ab1 (takeF b).1
 have h3:∀ f tg v,Bd (If n port f tg v).2.2:=fun f tg v=>by
  unfold If Bd
  repeat' split
  all_goals (dsimp only; omega)
 unfold enterT
 split
 ·unfold Bd; dsimp only; omega
 split
 ·exact h1
 split
 ·split
  ·exact h2
  ·exact h3 _ _ _
 ·exact h3 _ _ _
theorem Agb (n:Net) (port:Int) (b:List UInt8):Bd (linkT n port b).2.2.2:=by
 unfold linkT
 split
 ·unfold Bd; dsimp only; omega
 ·exact U8 _ _ _
theorem Acy (n:Net) (port dom:Int) (f:FrameM):Bd (leaveT n port dom f).2:=by
 unfold leaveT
 split
 ·unfold Bd; dsimp only; omega
 split
 ·unfold Bd; dsimp only; omega
 split
 ·unfold Bd; dsimp only; omega
 split
 ·unfold Bd; dsimp only; omega
 split
 ·show Bd (tagT f (nth n.domains dom).vlan).2
  unfold tagT Bd
  repeat' split
  all_goals (dsimp only; omega)
 ·unfold Bd; dsimp only; omega
theorem Ae3 (a b:Nat) (v:Int) (f:FrameM):Bd (wrapT a b v f).2:=by
 unfold wrapT Bd
 repeat' split
 all_goals (dsimp only; omega)
theorem Af8 (n:Net) (dom peer:Int) (f:FrameM):Bd (meshT n dom peer f).2:=by
 unfold meshT
 split
 ·unfold Bd; dsimp only; omega
 split
 ·unfold Bd; dsimp only; omega
 ·exact Ae3 _ _ _ _
theorem Sr (b:List UInt8):Bd (ipTakeT b).2:=by
 unfold ipTakeT Bd
 repeat' split
 all_goals (dsimp only; omega)
theorem Xm (b:List UInt8):Bd (udpTakeT b).2.2.2:=by
 unfold udpTakeT Bd
 repeat' split
 all_goals (dsimp only; omega)
theorem Ahc (b:List UInt8):Bd (vniT b).2.2:=by
 unfold vniT Bd
 repeat' split
 all_goals (dsimp only; omega)
theorem Acj (b:List UInt8):Bd (outerT b).2:=by
 unfold outerT
 split
 ·exact Ql _
 split
 ·unfold Bd; dsimp only; omega
 split
 ·exact Sr _
 ·unfold Bd; dsimp only; split <;> omega
theorem Ac9 (b:List UInt8):Bd (I1 b).2.2:=by
 unfold I1
 split
 ·exact Xm _
 split
 ·unfold Bd; dsimp only; omega
 split
 ·exact Ahc _
 split
 ·exact Ql _
 split
 ·unfold Bd; dsimp only; omega
 ·unfold Bd; dsimp only; omega
theorem Ze (b:List UInt8):Bd (Bq b).2.2.2.2:=by
 unfold Bq
 split
 ·exact Acj _
 split
 ·exact Ac9 _
 ·unfold Bd; dsimp only; omega
theorem Agv (n:Net) (b:List UInt8):Bd (comeT n b).2.2.2:=by
 unfold comeT
 split
 ·unfold Bd; dsimp only; omega
 split
 ·exact Ze _
 split
 ·unfold Bd; dsimp only; omega
 split
 ·unfold Bd; dsimp only; omega
 ·unfold Bd; dsimp only; omega
theorem Ajd (n:Net) (irb:Int) (f:FrameM):Bd (hopT n irb f).2.2:=by
 unfold hopT
 split
 ·unfold Bd; dsimp only; omega
 split
 ·unfold Bd; dsimp only; omega
 split
 ·exact Sr _
 split
 ·unfold Bd; dsimp only; omega
 split
 ·unfold Bd; dsimp only; omega
 split
 ·unfold Bd; dsimp only; omega
 ·unfold Bd; dsimp only; omega
theorem Abh (n:Net) (fw:List Bool) (t:List EntryM) (dom:Int) (q:QueuedM) (now:Int):Bd (bridgeT n fw t dom q now).2.2:=by
 unfold bridgeT
 split
 ·unfold Bd; dsimp only; omega
 split
 ·split
  ·exact Ajd _ _ _
  ·unfold Bd; dsimp only; omega
 ·unfold Bd; dsimp only; omega
theorem Aeq {n:Net} {dev v:Int} (h:Di n dev v = true):DomIn n (Aa9 n dev v):=by
 have h1:0 ≤ Aa9 n dev v:=by simpa [Di] using h
 have h2:Aa9 n dev v < n.domains.length:=Hb _ _
 exact ⟨h1,by omega⟩
theorem Ahd {n:Net} (hb:Af n = true) {port:Int} (hp:Aj port n.ports.length = true) {tg:Bool} {vid:Int} (h:(vlanT (nth n.ports port) tg vid).2 = true):DomIn n (Aa9 n (nth n.ports port).dev (vlanT (nth n.ports port) tg vid).1):=by
 have hk:=Bh hp
 have hk2:port.toNat < n.ports.length:=by omega
 simp only [Af,Bool.and_eq_true] at hb
 have hpb:=allB_iff.1 hb.1.1.1.1.1.2 _ hk2
 rw [An hk2] at h ⊢
 generalize n.ports[port.toNat] = p at *
 simp only [Im,Bool.and_eq_true] at hpb
 obtain ⟨⟨⟨⟨⟨⟨⟨⟨g1,g2⟩,g3⟩,g4⟩,g5⟩,g6⟩,g7⟩,g8⟩,g9⟩:=hpb
 unfold vlanT at h ⊢
 split
 ·rw [if_pos (by assumption)] at h
  have h1:p.native ≠ 0:=by simpa using h
  have h2:0 ≤ p.native:=by simpa using g2
  refine Aeq ?_
  have h3:decide (0 < p.native) = true:=by simp; omega
  rw [h3,Bool.true_and] at g8
  simpa using g8
 ·rw [if_neg (by assumption)] at h
  split
  ·rename_i h4
   have h5:vid ∈ p.tagged:=inB_mem.1 h4
   obtain ⟨i,hi,rfl⟩:=List.mem_iff_getElem.1 h5
   exact Aeq (allB_iff.1 g7 i hi)
  ·rw [if_neg (by assumption)] at h
   cases h
theorem U9 {n:Net} {port:Int} {b:List UInt8} (h:(enterT n port b).2.2 = 0):DomIn n (enterT n port b).1:=by
 unfold enterT at h ⊢
 split
 ·rw [if_pos (by assumption)] at h; cases h
 rename_i hc
 rw [if_neg hc] at h
 have hp:Aj port n.ports.length = true:=by cases hx:Aj port n.ports.length; exact absurd (.inl hx) hc; rfl
 have hb:Af n = true:=by cases hx:Af n; exact absurd (.inr hx) hc; rfl
 have key:∀ f tg v,(If n port f tg v).2.2 = 0 → DomIn n (If n port f tg v).1:=fun f tg v h=>by
  unfold If at h ⊢
  split
  ·rw [if_pos (by assumption)] at h; cases h
  rw [if_neg (by assumption)] at h
  split
  ·rw [if_pos (by assumption)] at h; cases h
  rename_i h5
  show DomIn n (Tm n _ _)
  rw [Tm,if_pos hb]
  exact Ahd hb hp (by simpa using h5)
 split
 ·rename_i h2
  rw [if_pos h2] at h
  exact absurd h h2
 rename_i h2
 rw [if_neg h2] at h
 split
 ·rename_i h3
  rw [if_pos h3] at h
  split
  ·rename_i h4
   rw [if_pos h4] at h
   exact absurd h h4
  ·rename_i h4
   rw [if_neg h4] at h
   exact key _ _ _ h
 ·rename_i h3
  rw [if_neg h3] at h
  exact key _ _ _ h
theorem Agc {n:Net} {port:Int} {b:List UInt8} (h:(linkT n port b).2.2.2 = 0):DomIn n (linkT n port b).2.1:=by
 unfold linkT at h ⊢
 split
 ·rw [if_pos (by assumption)] at h; cases h
 ·rename_i h2
  rw [if_neg h2] at h
  exact U9 h
theorem Z5 {n:Net} (hb:Af n = true) {dom:Nat} (hd:dom < n.domains.length) {k:Int} (hk:k ∈ n.domains[dom].peers):DomIn n k:=by
 simp only [Af,Bool.and_eq_true] at hb
 have:=allB_iff.1 hb.1.1.1.1.1.1.2 _ hd
 obtain ⟨i,hi,rfl⟩:=List.mem_iff_getElem.1 hk
 have h2:=allB_iff.1 this i hi
 simp only [Wl,Bool.and_eq_true] at h2
 exact H9 h2.1.1.1.1.1.1.1.1.1
theorem Ajx {n:Net} (hb:Af n = true) {src dst:Nat} {vni:Int} (h:¬ (endsT n src dst vni).1 < 0):DomIn n (endsT n src dst vni).1 ∧ DomIn n (endsT n src dst vni).2:=by
 unfold endsT at h ⊢
 dsimp only at h ⊢
 split
 ·rw [if_pos (by assumption)] at h; exact absurd (by decide) h
 rename_i h1
 rw [if_neg h1] at h
 split
 ·rw [if_pos (by assumption)] at h; exact absurd (by decide) h
 rename_i h2
 have hd:=Hb (fun d:Domain=>decide (d.dev = Dl (fun d:Device=>decide (d.vtep = (dst:Int))) n.devices) && decide (d.vni = vni)) n.domains
 generalize Dl (fun d:Domain=>decide (d.dev = Dl (fun d:Device=>decide (d.vtep = (dst:Int))) n.devices) && decide (d.vni = vni)) n.domains = dom at *
 have hd2:dom.toNat < n.domains.length:=by omega
 have hi:=Hb (fun k:Int=>decide (Hn n k = (src:Int))) (nth n.domains dom).peers
 generalize Dl (fun k:Int=>decide (Hn n k = (src:Int))) (nth n.domains dom).peers = i at *
 rw [An hd2] at hi ⊢
 have hi2:i.toNat < (n.domains[dom.toNat]).peers.length:=by omega
 refine ⟨?_,⟨by dsimp only; omega,hd2⟩⟩
 show DomIn n (nth (n.domains[dom.toNat]).peers i)
 rw [An hi2]
 exact Z5 hb hd2 (List.getElem_mem hi2)
theorem Xf {n:Net} {b:List UInt8} (h:(comeT n b).2.2.2 = 0):DomIn n (comeT n b).1 ∧ DomIn n (comeT n b).2.1:=by
 unfold comeT at h ⊢
 split
 ·rw [if_pos (by assumption)] at h; cases h
 rename_i hb
 rw [if_neg hb] at h
 split
 ·rename_i h2
  rw [if_pos h2] at h; exact absurd h h2
 rename_i h2
 rw [if_neg h2] at h
 split
 ·rw [if_pos (by assumption)] at h; cases h
 rename_i h3
 rw [if_neg h3] at h
 split
 ·rw [if_pos (by assumption)] at h; cases h
 exact Ajx (by simpa using hb) h3
theorem Aje {n:Net} {irb:Int} {f:FrameM} (hin:∀ (d:Int),(lookT n irb d).2 = true → 0 ≤ (lookT n irb d).1 ∧ (lookT n irb d).1.toNat < n.irbs.length) (h:(hopT n irb f).2.2 = 0):DomIn n (hopT n irb f).1:=by
 unfold hopT at h ⊢
 split
 ·rw [if_pos (by assumption)] at h; cases h
 rename_i h1
 rw [if_neg h1] at h
 split
 ·rw [if_pos (by assumption)] at h; cases h
 rename_i h2
 rw [if_neg h2] at h
 split
 ·rename_i h3
  rw [if_pos h3] at h; exact absurd h h3
 rename_i h3
 rw [if_neg h3] at h
 split
 ·rw [if_pos (by assumption)] at h; cases h
 rename_i h4
 rw [if_neg h4] at h
 split
 ·rw [if_pos (by assumption)] at h; cases h
 rename_i h5
 rw [if_neg h5] at h
 split
 ·rw [if_pos (by assumption)] at h; cases h
 have hl:=hin ((ipTakeT f.body).1.dst:Int) (by simpa using h5)
 have hb:Af n = true:=by cases hx:Af n; exact absurd (.inr hx) h1; rfl
 have:=(Dt hb hl.2).1
 show DomIn n (nth n.irbs _).domain
 rw [An hl.2]
 exact this
structure TabOK (t:List EntryM):Prop where
 short:Am t
 mac:∀ e ∈ t,e.mac < 18446744073709551616
 wh:∀ e ∈ t,I64 e.where_
structure QueuedOK (q:QueuedM):Prop where
 frame:FrameOK q.frame
 from_:-2 ≤ q.from_ ∧ q.from_ < 1099511627776
 peer:0 ≤ q.peer ∧ q.peer < 1099511627776
def D1 (l:List QueuedM):Prop:=l.length ≤ 64 ∧ ∀ q ∈ l,QueuedOK q
structure MacOK (n:Net) (m:MacM) (J D:Int):Prop where
 up:m.up.length = n.links.length
 tabs:m.tables.length = n.domains.length
 ques:m.queues.length = n.domains.length
 tab:∀ t ∈ m.tables,TabOK t
 que:∀ l ∈ m.queues,D1 l
 now:0 ≤ m.now ∧ m.now ≤ 1099511627776
 inj:0 ≤ m.injected ∧ m.injected ≤ J
 drp:∀ i,0 ≤ m.drops i ∧ m.drops i ≤ D
theorem El {f:FrameM} (hf:FrameOK f) {a b:Int} (c:Int) (h1:-2 ≤ a ∧ a < 1099511627776) (h2:0 ≤ b ∧ b < 1099511627776):QueuedOK ⟨a,b,c,f⟩:=⟨hf,h1,h2⟩
theorem Aiv:QueuedOK noQ:=⟨C4,by decide,by decide⟩
theorem Qx:TabOK []:=⟨by unfold Am; decide,fun _ h=>(by cases h),fun _ h=>(by cases h)⟩
theorem Sn:D1 []:=⟨by decide,fun _ h=>(by cases h)⟩
theorem Tj {α:Type} {l:List α} {i:Nat} {x y:α} (h:y ∈ l.set i x):y = x ∨ y ∈ l:=by
 rcases List.mem_or_eq_of_mem_set h with h | h
 ·exact .inr h
 ·exact .inl h
theorem Jg {α:Type} {l:List α} {i:Nat} {d:α} (h:i < l.length):(l[i]?).getD d ∈ l:=by
 rw [List.getElem?_eq_getElem h]
 exact List.getElem_mem h
theorem Dw {n:Net} {m:MacM} {J D:Int} (h:MacOK n m J D) (dom:Int):D1 (queueL m dom):=by
 unfold queueL
 by_cases hd:dom.toNat < m.queues.length
 ·exact h.que _ (Jg hd)
 ·rw [List.getElem?_eq_none (by omega)]; exact Sn
theorem Qm {n:Net} {m:MacM} {J D:Int} (h:MacOK n m J D) (dom:Int):TabOK (tableL m dom):=by
 unfold tableL
 by_cases hd:dom.toNat < m.tables.length
 ·exact h.tab _ (Jg hd)
 ·rw [List.getElem?_eq_none (by omega)]; exact Qx
theorem MacOK.mono {n:Net} {m:MacM} {J D J' D':Int} (h:MacOK n m J D) (h1:J ≤ J') (h2:D ≤ D'):MacOK n m J' D' :=
 ⟨h.up,h.tabs,h.ques,h.tab,h.que,h.now,⟨h.inj.1,by have:=h.inj.2; omega⟩,fun i=>⟨(h.drp i).1,by have:=(h.drp i).2; omega⟩⟩
theorem K6 {n:Net} {m:MacM} {J D:Int} (h:MacOK n m J D) (hD:0 ≤ D) (e:Int):MacOK n (B0 m e) J (D + 1):=by
 refine ⟨h.up,h.tabs,h.ques,h.tab,h.que,h.now,h.inj,fun i=>?_⟩
 have:=h.drp i
 show 0 ≤ (if i = e.toNat then m.drops i + 1 else m.drops i) ∧ (if i = e.toNat then m.drops i + 1 else m.drops i) ≤ D + 1
 split <;> omega
theorem Ad9 {n:Net} {m:MacM} {J D:Int} (h:MacOK n m J D) (dom:Int) {l:List QueuedM} (hl:D1 l):MacOK n (Xt m dom l) J D:=by
 refine ⟨h.up,h.tabs,by rw [Xt]; simp [h.ques],h.tab,fun x hx=>?_,h.now,h.inj,h.drp⟩
 rcases Tj hx with rfl | hx
 ·exact hl
 ·exact h.que x hx
theorem Xs {n:Net} {m:MacM} {J D:Int} (h:MacOK n m J D) (dom:Int) {l:List EntryM} (hl:TabOK l):MacOK n (Dq m dom l) J D:=by
 refine ⟨h.up,by rw [Dq]; simp [h.tabs],h.ques,fun x hx=>?_,h.que,h.now,h.inj,h.drp⟩
 rcases Tj hx with rfl | hx
 ·exact hl
 ·exact h.tab x hx
theorem Aic {l:List QueuedM} (hl:D1 l) {q:QueuedM} (hq:QueuedOK q):D1 (pushT l q).1:=by
 unfold pushT
 split
 ·exact hl
 ·refine ⟨by simp; omega,fun x hx=>?_⟩
  rcases List.mem_append.1 hx with hx | hx
  ·exact hl.2 x hx
  ·rw [List.mem_singleton.1 hx]; exact hq
theorem Ahk {l:List QueuedM} (hl:D1 l) (at_:Int):QueuedOK (takeT l at_).1 ∧ D1 (takeT l at_).2.1:=by
 unfold takeT
 split
 ·exact ⟨Aiv,hl⟩
 ·rename_i h
  refine ⟨hl.2 _ (Jg (by omega)),?_,fun x hx=>hl.2 x (List.mem_of_mem_eraseIdx hx)⟩
  have:=List.length_eraseIdx_le l at_.toNat
  have:=hl.1
  show (l.eraseIdx at_.toNat).length ≤ 64
  omega
theorem Qc {n:Net} {m:MacM} {J D:Int} (h:MacOK n m J D) (hD:0 ≤ D) (dom:Int) {q:QueuedM} (hq:QueuedOK q) (e:Int):MacOK n (comeM m dom q e) J (D + 1):=by
 unfold comeM
 split
 ·exact K6 h hD e
 split
 ·exact (Ad9 h dom (Aic (Dw h dom) hq)).mono (Int.le_refl _) (by omega)
 ·exact K6 h hD 3
theorem Tu {n:Net} {m:MacM} {J D:Int} (h:MacOK n m J D) (dom at_:Int):MacOK n (takeM m dom at_).1 J D ∧ QueuedOK (takeM m dom at_).2.1:=by
 unfold takeM
 split
 ·exact ⟨h,Aiv⟩
 ·have:=Ahk (Dw h dom) at_
  exact ⟨Ad9 h dom this.2,this.1⟩
theorem Ada {n:Net} (hn:n.Fin) {m:MacM} {J D:Int} (h:MacOK n m J D) (hJ:0 ≤ J) (hD:0 ≤ D) (port:Int) (b:List UInt8):MacOK n (injectT n m port b) (J + 1) (D + 1):=by
 unfold injectT
 split
 ·exact h.mono (by omega) (by omega)
 ·rename_i hc
  have hp:Aj port n.ports.length = true:=by cases hx:Aj port n.ports.length; exact absurd (.inl hx) hc; rfl
  have hpi:=Bh hp
  have hs:=hn.ports
  unfold Am at hs
  have h1:=h.inj
  have hm:MacOK n ⟨m.up,m.tables,m.queues,m.now,m.injected + 1,m.drops⟩ (J + 1) D:=⟨h.up,h.tabs,h.ques,h.tab,h.que,h.now,(by show 0 ≤ m.injected + 1 ∧ m.injected + 1 ≤ J + 1; omega),h.drp⟩
  exact Qc hm hD _ (El (Q5 _ _ _) _ (by omega) (by omega)) _
structure OutOK (n:Net) (o:OutM):Prop where
 kind:1 ≤ o.kind ∧ o.kind ≤ 5
 bytes:o.bytes.length ≤ 1518
 frame:o.kind = 4 → FrameOK o.frame ∧ DomIn n o.domain
 err:o.kind = 5 → Bd o.error
theorem Afy {n:Net} (hn:n.Fin) (port:Int):-1 ≤ Hk n port ∧ Hk n port < 2147483648:=by
 unfold Hk
 split
 ·rename_i h
  obtain ⟨⟨h1,h2⟩,h3,hb⟩:=h
  have hk:port.toNat < n.ports.length:=by omega
  rw [An hk] at h3 ⊢
  have hl:=(K5 hb hk h3).1
  rw [An hl]
  simp only [Af,Bool.and_eq_true] at hb
  have hlb:=allB_iff.1 hb.1.1.1.1.2 _ hl
  simp only [Sp,Bool.and_eq_true] at hlb
  have ha:=Bh hlb.1.1.1.1
  have hb2:=Bh hlb.1.1.1.2
  have hs:=hn.ports
  unfold Am at hs
  split <;> omega
 ·omega
theorem Aak {n:Net} (hn:n.Fin) (port:Int) (b:List UInt8):0 ≤ (linkT n port b).1 ∧ (linkT n port b).1 < 1099511627776:=by
 have:=Afy hn port
 unfold linkT
 split <;> dsimp only <;> omega
theorem Vh {n:Net} (hn:n.Fin) (b:List UInt8):0 ≤ (comeT n b).1 ∧ (comeT n b).1 < 1099511627776:=by
 by_cases h:(comeT n b).2.2.2 = 0
 ·have:=(Xf h).1
  have hs:=hn.domains
  unfold Am at hs
  unfold DomIn at this
  omega
 ·unfold comeT at h ⊢
  split
  ·decide
  rename_i h1
  rw [if_neg h1] at h
  split
  ·exact ⟨Int.le_refl _,by dsimp only; omega⟩
  rename_i h1
  rw [if_neg h1] at h
  split
  ·decide
  rename_i h1
  rw [if_neg h1] at h
  split
  ·decide
  rename_i h1
  rw [if_neg h1] at h
  exact absurd E h
theorem Ajn {n:Net} (hn:n.Fin) {m:MacM} {J D:Int} (h:MacOK n m J D) (hD:0 ≤ D) {o:OutM} (ho:OutOK n o) (origin:Int):MacOK n (goesM n m o origin).1 J (D + 1):=by
 unfold goesM
 split
 ·exact h.mono (Int.le_refl _) (by omega)
 split
 ·have:=Aak hn o.port o.bytes
  exact Qc h hD _ (El (Aal _ _ _) _ (by omega) (by omega)) _
 split
 ·exact Qc h hD _ (El (Abe _ _) _ (by omega) (Vh hn o.bytes)) _
 split
 ·rename_i h4
  exact Qc h hD o.domain (El (a:=-2) (b:=0) (ho.frame h4).1 origin (by decide) (by decide)) 0
 ·exact K6 h hD _
theorem K3 {n:Net} (hn:n.Fin) (origin:Int):∀ (l:List OutM) {m:MacM} {J D:Int},MacOK n m J D → 0 ≤ D → (∀ o ∈ l,OutOK n o) → MacOK n (Be n m origin l).1 J (D + l.length)
 | [],m,J,D,h,_,_=>by
  rw [Be]
  exact h.mono (Int.le_refl _) (by simp)
 | o :: l,m,J,D,h,hD,ho=>by
  rw [Be]
  have:=K3 hn origin l (Ajn hn h hD (ho o (by simp)) origin) (by omega) (fun x hx=>ho x (by simp [hx]))
  exact this.mono (Int.le_refl _) (by simp only [List.length_cons]; omega)
theorem Aag {n:Net} {o:OutM} {r:List UInt8 × Int} (hk:1 ≤ o.kind ∧ o.kind ≤ 3) (hr:r.1.length ≤ 1518) (he:Bd r.2):OutOK n (Ot o r):=by
 unfold Ot
 split
 ·exact ⟨⟨by dsimp only; omega,by dsimp only; omega⟩,by simp,fun h=>absurd h (by dsimp only; omega),fun _=>he⟩
 ·exact ⟨⟨hk.1,by have:=hk.2; dsimp only; omega⟩,hr,fun h=>by have:=hk.2; dsimp only at h; omega,fun h=>by have:=hk.2; dsimp only at h; omega⟩
theorem Agd {t:List EntryM} (h:TabOK t) {m:Nat} (hm:m < 18446744073709551616) {wh:Int} (hw:I64 wh) (now:Int):TabOK (learnT t m wh now):=by
 have hs:=h.short
 unfold Am at hs
 have key:∀ e:EntryM,e ∈ learnT t m wh now → e ∈ t ∨ e = ⟨m,wh,now⟩:=fun e he=>by
  unfold learnT at he
  split at he
  ·exact .inl he
  split at he
  ·rcases Tj he with h | h
   ·exact .inr h
   ·exact .inl h
  ·rcases List.mem_append.1 he with h | h
   ·split at h
    ·exact .inl (List.mem_of_mem_eraseIdx h)
    ·exact .inl h
   ·exact .inr (List.mem_singleton.1 h)
 refine ⟨?_,fun e he=>?_,fun e he=>?_⟩
 ·unfold learnT
  split
  ·exact h.short
  rename_i hb
  have h8:t.length ≤ 8:=by
   have:tableB t = true:=by cases hx:tableB t; exact absurd (.inl hx) hb; rfl
   simp only [tableB,Bool.and_eq_true,decide_eq_true_eq] at this
   exact this.1
  split
  ·unfold Am; simp; omega
  ·unfold Am
   split
   ·have:=List.length_eraseIdx_le t (oldestU t t.length)
    simp only [List.length_append,List.length_cons,List.length_nil]
    omega
   ·simp only [List.length_append,List.length_cons,List.length_nil]
    omega
 ·rcases key e he with h1 | rfl
  ·exact h.mac e h1
  ·exact hm
 ·rcases key e he with h1 | rfl
  ·exact h.wh e h1
  ·exact hw
theorem Ln {t:List EntryM} (h:TabOK t) {q:QueuedM} (hq:QueuedOK q) (now:Int):TabOK (learnQ t q now):=by
 unfold learnQ
 split
 ·exact h
 ·have hs:=hq.frame.src
  refine Agd h (by omega) ?_ now
  have h1:=hq.from_
  have h2:=hq.peer
  unfold I64
  split <;> omega
theorem Alz {t:List EntryM} (h:TabOK t) (now:Int):TabOK (ageT t now):=by
 unfold ageT
 split
 ·exact h
 ·have hs:=h.short
  unfold Am at hs
  refine ⟨?_,fun e he=>h.mac e (List.mem_filter.1 he).1,fun e he=>h.wh e (List.mem_filter.1 he).1⟩
  unfold Am
  exact Nat.lt_of_le_of_lt (List.length_filter_le _ _) hs
theorem Aac (n:Net) (dom:Int):(Ax n dom).length ≤ n.ports.length:=by
 rw [Ax]
 have:=Dy (Me n (nth n.domains dom)) n.ports.length
 exact this
end Go.Sy.YtmelpejjondedaaGreat
namespace Go.Sy
theorem Ae2 {C:Cx} {kk:List KI} {s:SS} (q:Nat) (r:List Nat) {sz:Nat} {α:Type} {e:α → SV} {l:List α} (h:s.h q = .row sz e l) (hl:l ≠ []) (hr:∀ i ∈ r,s.σ i = .osl q)
  (hg:∀ b cap,l.length ≤ cap → G C kk ⟨freezeσ s.σ (.val (.slice (some ⟨b,0,none⟩) l.length cap)) r,upd s.h q (.pin b l.length cap sz e l)⟩):G C kk s:=fun κ a w hs=>by
 have hob:=hs.obj q
 rw [h] at hob
 rcases hob with ⟨_,h1⟩ | hrow
 ·exact absurd h1 hl
 obtain ⟨b,cap,cs,T,fr,e1,e2,e3,e4,e5,e6⟩:=hrow
 refine hg b cap e5 κ a w ⟨hs.defers,hs.size,hs.inv,hs.ctx,fun i=>?_,fun j=>?_⟩
 ·refine freezeσ_ok r _ i (hs.slot i) (fun hi=>?_)
  have:=hs.slot i
  rw [hr i hi] at this
  simp only [Rd,e1] at this
  simp only [Rd]
  exact this
 ·show ObOK κ w j (upd s.h q _ j)
  by_cases hj:j = q
  ·subst hj; rw [A6]; exact ⟨e1,b,cap,cs,T,fr,e1,e2,e3,e4,e5,e6⟩
  ·rw [Br _ _ hj]; exact hs.obj j
theorem To {C:Cx} {kk:List KI} {s:SS} (q d:Nat) (r:List Nat) (m:Nat) {b n cap sz:Nat} {α:Type} {e:α → SV} {l:List α} (h:s.h q = .pin b n cap sz e l) (hd:s.h d = .fresh) (hm:m ≤ l.length)
  (hr:∀ i ∈ r,s.σ i = .val (.slice (some ⟨b,0,none⟩) m cap)) (hg:G C kk ⟨freezeσ s.σ (.osl d) r,upd (upd s.h q .non) d (.row sz e (l.take m))⟩):G C kk s:=fun κ a w hs=>by
 have hob:=hs.obj q
 rw [h] at hob
 have hnew:κ d = .new:=by have:=hs.obj d; rwa [hd] at this
 obtain ⟨e0,b',cap',cs,T,fr,e1,e2,e3,e4,e5,e6⟩:=hob
 rw [e0] at e1
 cases e1
 have hln:l.length ≤ n:=by
  by_cases h0:l.length = 0
  ·omega
  ·have:=(e6 (l.length - 1) _ ⟨by omega,rfl⟩).1
   omega
 obtain ⟨st,inv⟩:=I4 (n':=m) (w':=w) hs.inv e0 hnew rfl rfl rfl rfl (fun _ _=>rfl)
 have hlt:(l.take m).length = m:=by rw [List.length_take]; omega
 refine hg _ a w ⟨hs.defers,hs.size,inv,hs.ctx.step inv st,fun j=>?_,fun j=>?_⟩
 ·refine freezeσ_ok r _ j (Rd.step st _ _ (hs.slot j)) (fun hj=>?_)
  have:=hs.slot j
  rw [hr j hj] at this
  simp only [Rd] at this
  simp [Rd,Ap,this]
 ·show ObOK _ w j (upd (upd s.h q .non) d _ j)
  by_cases hj:j = d
  ·subst hj; rw [A6]
   refine .inr ⟨b,cap,cs,T,fr,by rw [Ap,hlt],e2,e3,e4,by omega,fun i x hx=>?_⟩
   obtain ⟨hi,rfl⟩:=hx
   obtain ⟨_,u,q2,q3⟩:=e6 i (e l[i]) ⟨by omega,rfl⟩
   refine ⟨hi,u,?_,q3⟩
   rw [List.getElem_take]
   exact RdD.keep st.keeps _ _ q2
  ·rw [Br _ _ hj]
   by_cases hj2:j = q
   ·subst hj2; rw [A6]; trivial
   ·rw [Br _ _ hj2]; exact ObOK.step st (fun e=>e.elim hj2 hj) _ (hs.obj j)
theorem Ch {P:Program} (Γ:Ty P) {o:Oper} {s:SS} {t:TypeId} {ti:TI} {et:TypeId} {sz eb b n cap lo hi:Nat} {ez:List Value} {x:Operand} {lx hx:Option Operand}
  (h:o.op = .slice t x lx hx none) (ht:Γ.get t = some ti) (hk:ti.k = .slice et sz eb ez) (hxe:ev s x = .val (.slice (some ⟨b,0,none⟩) n cap)) (hlo:BoundIs s lx 0 lo) (hhi:BoundIs s hx n hi) (h1:lo ≤ hi) (h2:hi ≤ cap) :
  Good P o s ⟨.val (.slice (some (if cap = lo then ⟨b,0,none⟩ else ⟨b,lo * sz,none⟩)) (hi - lo) (cap - lo)),[],[]⟩ :=
 Good.pure fun κ a w _ hr _=>by
  have r1:=hr x (by simp [h,Op.operands])
  rw [hxe] at r1
  obtain ⟨hu,i,zv,q1,q2,q3,q4,q5⟩:=Bs Γ ht hk
  have b1:=hlo.val (a:=a) (fun y hy=>hr y (by simp [h,Op.operands,hy]))
  have b2:=hhi.val (a:=a) (fun y hy=>hr y (by simp [h,Op.operands,hy]))
  have hb:=D9 (P:=P) w (len:=n) (cap:=cap) b1 b2 h1 h2
  refine ⟨.slice (some (if cap = lo then ⟨b,0,none⟩ else ⟨b,lo * sz,none⟩)) (hi - lo) (cap - lo),?_,by simp only [Rd]⟩
  by_cases hc:cap = lo
  ·subst hc
   simp [execOp,h,r1.val,Instr.sliceAt,Instr.slice,run_underlying hu,hb,sizeOf,typeInfo,q1]
  ·simp [execOp,h,r1.val,Instr.sliceAt,Instr.slice,run_underlying hu,hb,sizeOf,typeInfo,q1,q2,hc,Addr.add_lit]
theorem V1 {P:Program} (Γ:Ty P) {o:Oper} {s:SS} {t:TypeId} {ti:TI} {et:TypeId} {sz eb b n cap lo hi mm:Nat} {ez:List Value} {x:Operand} {lx hx mx:Operand} {k1 k2 k3:IntKind}
  (h:o.op = .slice t x (some lx) (some hx) (some mx)) (ht:Γ.get t = some ti) (hk:ti.k = .slice et sz eb ez) (hxe:ev s x = .val (.slice (some ⟨b,0,none⟩) n cap)) (hlo:ev s lx = .val (.int k1 lo)) (hhi:ev s hx = .val (.int k2 hi)) (hmx:ev s mx = .val (.int k3 mm))
  (h1:lo ≤ hi) (h2:hi ≤ mm) (h3:mm ≤ cap):Good P o s ⟨.top,[],[]⟩ :=
 Good.pure fun κ a w _ hr _=>by
  have r1:=hr x (by simp [h,Op.operands])
  have r2:=hr lx (by simp [h,Op.operands])
  have r3:=hr hx (by simp [h,Op.operands])
  have r4:=hr mx (by simp [h,Op.operands])
  rw [hxe] at r1
  rw [hlo] at r2
  rw [hhi] at r3
  rw [hmx] at r4
  obtain ⟨hu,i,zv,q1,q2,q3,q4,q5⟩:=Bs Γ ht hk
  have hb:(Instr.sliceBounds true n cap (some (a.eval lx)) (some (a.eval hx)) (some (a.eval mx))).run P w = .ok (lo,hi,mm) w:=by
   rw [r2.val,r3.val,r4.val]
   simp [Instr.sliceBounds,Instr.sliceBound,asIntOf,h1,h2,h3]
  refine ⟨.slice (some (if mm = lo then ⟨b,0,none⟩ else ⟨b,lo * sz,none⟩)) (hi - lo) (mm - lo),?_,by simp only [Rd,RdD]⟩
  by_cases hc:mm = lo
  ·subst hc
   simp [execOp,h,r1.val,Instr.sliceAt,Instr.slice,run_underlying hu,hb,sizeOf,typeInfo,q1]
  ·simp [execOp,h,r1.val,Instr.sliceAt,Instr.slice,run_underlying hu,hb,sizeOf,typeInfo,q1,q2,hc,Addr.add_lit]
theorem Kl {κ:Ka} {w w':World} {k b n cap:Nat} (hi:Inv κ w) (hk:κ k = .row b n cap) (hos:w'.os = w.os) (ht:w'.tape = w.tape) (ho:w'.output = w.output)
  (hs:w'.heap.size = w.heap.size) (hb:∀ i,i ≠ b → w'.heap[i]? = w.heap[i]?):Step (fun j=>j = k) κ w κ w' ∧ Inv κ w':=by
 have hkb:(κ k).block? = some b:=by rw [hk]; rfl
 refine ⟨⟨by omega,hos,ht,ho,E,fun c hm=>hb c (fun e=>hi.apart k b hkb (e ▸ hm)),fun c _ hn=>hb c (fun e=>hn (.inl ⟨k,e ▸ hkb⟩)),fun j c hj hjc=>hb c (fun e=>hj ?_),fun _ _=>rfl,fun _ _=>.inr (.inl E),fun _ h=>.inl h⟩,
  ⟨hi.inj,fun j c h=>by rw [hs]; exact hi.bnd j c h,hi.apart,fun c h=>by rw [hs]; exact hi.mbnd c h⟩⟩
 subst e
 exact hi.inj j k _ hjc hkb
theorem Zr {cs:List Value} {sz n:Nat} (h:∀ i,i < n → ∃ u:Value,u.cells.size = sz ∧ Ones u.cells.toList ∧ ∀ j,j < sz → cs[i * sz + j]? = u.cells[j]?) {p:Nat} (hp:p < n * sz) {v:Value} (hv:cs[p]? = some v):v.oneCell' = true:=by
 have h0:0 < sz:=by
  rcases Nat.eq_zero_or_pos sz with rfl | h
  ·simp at hp
  ·exact h
 obtain ⟨u,h1,h2,h3⟩:=h (p / sz) (Nat.div_lt_of_lt_mul (by rw [Nat.mul_comm]; exact hp))
 have h4:=h3 (p % sz) (Nat.mod_lt _ h0)
 rw [Nat.mul_comm,Nat.div_add_mod,hv] at h4
 obtain ⟨hl,he⟩:=Array.getElem?_eq_some_iff.1 h4.symm
 refine h2 v ?_
 rw [← he]
 exact Array.getElem_mem_toList hl
theorem Te {P:Program} (Γ:Ty P) {o:Oper} {s:SS} (q:Nat) {t:TypeId} {ti:TI} {et:TypeId} {sz eb b n cap i j:Nat} {ez:List Value} {x y:Operand} {α:Type} {e:α → SV} {l:List α} {B:Option Addr} {c:Nat}
  (h:o.op = .call ⟨.builtin .append,#[x,y],#[t,t]⟩) (ht:Γ.get t = some ti) (hk:ti.k = .slice et sz eb ez) (hx:ev s x = .val (.slice (some ⟨b,0,none⟩) i cap))
  (hy:ev s y = .val (.slice B (n - j) c)) (hB:B = some (if cap = j then ⟨b,0,none⟩ else ⟨b,j * sz,none⟩)) (hob:s.h q = .pin b n cap sz e l) (hl:l.length = n) (hij:i ≤ j) (hj:j ≤ n) :
  Good P o s ⟨.val (.slice (some ⟨b,0,none⟩) (i + (n - j)) cap),[],[(q,.pin b n cap sz e (l.take i ++ l.drop j))]⟩:=by
 intro κ a w hinv hr ho N Q hN
 have r1:=hr x (by simp [h,Op.operands,Call.operands])
 have r2:=hr y (by simp [h,Op.operands,Call.operands])
 rw [hx] at r1
 rw [hy] at r2
 subst hB
 have hq:=ho q (.inr (by simp [Up.ws]))
 rw [hob] at hq
 obtain ⟨e0,b',cap',cs,T,fr,e1,e2,e3,e4,e5,e6⟩:=hq
 rw [e0] at e1
 cases e1
 obtain ⟨hu,ii,zv,q1,q2,q3,q4,q5⟩:=Bs Γ ht hk
 have hall:∀ i,i < n → ∃ u:Value,u.cells.size = sz ∧ Ones u.cells.toList ∧ ∀ j,j < sz → cs[i * sz + j]? = u.cells[j]?:=fun i hi=>by
  obtain ⟨_,u,_,u2⟩:=e6 i (e l[i]) ⟨by omega,rfl⟩
  exact ⟨u,u2⟩
 obtain ⟨news,hnews⟩:∃ news,news = (cs.drop (j * sz)).take ((n - j) * sz):=⟨_,rfl⟩
 have hmul:(n - j) * sz + j * sz = n * sz:=by rw [← Nat.add_mul]; congr 1; omega
 have hnc:n * sz ≤ cap * sz:=Nat.mul_le_mul_right sz e5
 have hijs:i * sz ≤ j * sz:=Nat.mul_le_mul_right sz hij
 have hnl:news.length = (n - j) * sz:=by rw [hnews,List.length_take,List.length_drop]; omega
 have hget:∀ p,p < (n - j) * sz → news[p]? = cs[j * sz + p]?:=fun p hp=>by
  rw [hnews,List.getElem?_take,if_pos hp,List.getElem?_drop]
 have hones:Ones news:=fun v hv=>by
  obtain ⟨p,hp,he⟩:=List.getElem_of_mem hv
  have h1:news[p]? = some v:=by rw [List.getElem?_eq_getElem hp,he]
  rw [hnl] at hp
  rw [hget p hp] at h1
  exact Zr hall (by omega) h1
 obtain ⟨w',f1,f2,f3,f4,f5,f6,f7⟩:=B4 P b (i * sz) T fr news 0 cs w e2 e3 (by omega) hones
 obtain ⟨st,inv⟩:=Kl hinv e0 f3 f4 f5 f6 f7
 have hroom:i + (n - j) ≤ cap:=by omega
 have hcell:∀ p v,cs[p]? = some v → w.cell? ⟨b,p,none⟩ = some v:=fun p v hp=>by
  simp [World.cell?,e2,hp]
 have hc:(Builtin.firstCells sz (n - j) (.slice (some (if cap = j then ⟨b,0,none⟩ else ⟨b,j * sz,none⟩)) (n - j) c)).run P w = .ok news.toArray w:=by
  by_cases hcj:cap = j
  ·have h0:n - j = 0:=by omega
   rw [if_pos hcj,h0]
   have h1:news = []:=by rw [h0] at hnl; simpa using hnl
   rw [h1]
   exact run_firstCells_some (P:=P) w sz 0 ⟨b,0,none⟩ 0 c [] (by simp) (fun j v hj=>by simp at hj)
  ·rw [if_neg hcj]
   refine run_firstCells_some (P:=P) w sz (n - j) ⟨b,j * sz,none⟩ (n - j) c news hnl (fun p v hp=>?_)
   rw [Addr.add_lit]
   have hlt:p < (n - j) * sz:=by
    rw [← hnl]; exact (List.getElem?_eq_some_iff.1 hp).1
   rw [hget p hlt] at hp
   exact hcell _ _ hp
 have hrun:(execOp a.eval o).run P w = .ok (.value (.slice (some ⟨b,0,none⟩) (i + (n - j)) cap)) w':=by
  simp [execOp,h,resolve,invoke,builtin,Builtin.append_,r1.val,r2.val,run_underlying hu,sizeOf,typeInfo,q1,q2,Builtin.lenOf,hroom,hc,Addr.add_lit,f1]
 simp only [Oper.wp,hrun,Oper.upon]
 refine hN _ κ w' (st.weaken (fun k hk=>by subst hk; simp [Up.ws])) inv (by simp only [Rd]) (fun p hp=>?_)
 simp only [List.mem_singleton] at hp
 subst hp
 refine ⟨e0,b,cap,_,T,fr,e0,f2,by rw [Bl]; exact e3,by rw [Bl]; exact e4,e5,?_⟩
 rintro k z ⟨hk0,rfl⟩
 have hset:=H2 cs news (i * sz + 0)
 have hlen:(l.take i ++ l.drop j).length = i + (n - j):=by rw [List.length_append,List.length_take,List.length_drop]; omega
 rw [hlen] at hk0
 by_cases hki:k < i
 ·obtain ⟨_,u,u1,u2,u3,u4⟩:=e6 k (e l[k]) ⟨by omega,rfl⟩
  have:(k + 1) * sz ≤ i * sz:=Nat.mul_le_mul_right sz (by omega)
  rw [Nat.add_mul,Nat.one_mul] at this
  refine ⟨by omega,u,?_,u2,u3,fun p hp=>?_⟩
  ·rw [List.getElem_append_left (by rw [List.length_take]; omega),List.getElem_take]
   exact RdD.keep st.keeps _ _ u1
  ·rw [hset _ (by omega),if_neg (by omega),u4 p hp]
 ·obtain ⟨_,u,u1,u2,u3,u4⟩:=e6 (j + (k - i)) (e l[j + (k - i)]) ⟨by omega,rfl⟩
  have hks:k * sz = i * sz + (k - i) * sz:=by rw [← Nat.add_mul]; congr 1; omega
  have hjs:(j + (k - i)) * sz = j * sz + (k - i) * sz:=by rw [← Nat.add_mul]
  have:(k - i + 1) * sz ≤ (n - j) * sz:=Nat.mul_le_mul_right sz (by omega)
  rw [Nat.add_mul,Nat.one_mul] at this
  refine ⟨by omega,u,?_,u2,u3,fun p hp=>?_⟩
  ·rw [List.getElem_append_right (by rw [List.length_take]; omega),List.getElem_drop]
   have hidx:j + (k - (l.take i).length) = j + (k - i):=by rw [List.length_take]; omega
   simp only [hidx]
   exact RdD.keep st.keeps _ _ u1
  ·rw [hset _ (by omega),if_pos (by omega),← u4 p hp,hjs]
   rw [show k * sz + p - (i * sz + 0) = (k - i) * sz + p by omega,hget _ (by omega)]
   congr 1
   omega
theorem Id {P:Program} (Γ:Ty P) {o:Oper} {s:SS} (q:Nat) {t:TypeId} {ti:TI} {et:TypeId} {sz eb b n cap k m c:Nat} {ez:List Value} {x:Operand} {α:Type} {e:α → SV} {l:List α} {B:Option Addr}
  (h:o.op = .call ⟨.builtin .clear,#[x],#[t]⟩) (ht:Γ.get t = some ti) (hk:ti.k = .slice et sz eb ez) (hez:ez.length = sz) (hz1:∀ v ∈ ez,v.oneCell' = true) (hx:ev s x = .val (.slice B m c)) (hB:B = some (if cap = k then ⟨b,0,none⟩ else ⟨b,k * sz,none⟩))
  (hob:s.h q = .pin b n cap sz e l) (hkl:k ≤ l.length) (hm:k + m ≤ cap) :
  Good P o s ⟨.tup [],[],[(q,.pin b n cap sz e (l.take k))]⟩:=by
 intro κ a w hinv hr ho N Q hN
 have r1:=hr x (by simp [h,Op.operands,Call.operands])
 rw [hx] at r1
 subst hB
 have hq:=ho q (.inr (by simp [Up.ws]))
 rw [hob] at hq
 obtain ⟨e0,b',cap',cs,T,fr,e1,e2,e3,e4,e5,e6⟩:=hq
 rw [e0] at e1
 cases e1
 obtain ⟨hu,ii,zv,q1,q2,q3,q4,q5⟩:=Bs Γ ht hk
 have hzs:zv.cells.size = sz:=by rw [← hez,← q5]; simp
 have hlt:(l.take k).length = k:=by rw [List.length_take]; omega
 by_cases hm0:m = 0
 ·subst hm0
  have hrun:(execOp a.eval o).run P w = .ok (.value (.tuple #[])) w:=by
   simp [execOp,h,resolve,invoke,builtin,Builtin.clear_,r1.val,run_underlying hu]
  simp only [Oper.wp,hrun,Oper.upon]
  refine hN _ κ w (Step.refl _ κ w) hinv (by simp [Rd,RdL]) (fun p hp=>?_)
  simp only [List.mem_singleton] at hp
  subst hp
  refine ⟨e0,b,cap,cs,T,fr,e0,e2,e3,e4,e5,?_⟩
  rintro p z ⟨hp0,rfl⟩
  rw [List.getElem_take]
  exact e6 p (e l[p]) ⟨by omega,E⟩
 obtain ⟨m,rfl⟩:∃ p,m = p + 1:=⟨m - 1,by omega⟩
 rw [if_neg (by omega)] at r1
 obtain ⟨news,hnews⟩:∃ news,news = (Builtin.zeroCells zv.cells (m + 1)).toList:=⟨_,rfl⟩
 have hnl:news.length = (m + 1) * sz:=by rw [hnews,Array.length_toList,Mb,hzs]
 have hones:Ones news:=fun v hv=>by
  rw [hnews,Array.mem_toList_iff] at hv
  refine hz1 v ?_
  rw [← q5]
  simp only [Builtin.zeroCells,Array.mem_map,Array.mem_range] at hv
  obtain ⟨p,hp,rfl⟩:=hv
  have h0:0 < zv.cells.size:=by
   rcases Nat.eq_zero_or_pos zv.cells.size with h | h
   ·rw [h] at hp; simp at hp
   ·exact h
  have hlt2:p % zv.cells.size < zv.cells.size:=Nat.mod_lt _ h0
  rw [getElem!_pos zv.cells _ hlt2]
  exact Array.getElem_mem_toList hlt2
 have hmul:k * sz + (m + 1) * sz ≤ cap * sz:=by rw [← Nat.add_mul]; exact Nat.mul_le_mul_right sz hm
 obtain ⟨w',f1,f2,f3,f4,f5,f6,f7⟩:=B4 P b (k * sz) T fr news 0 cs w e2 e3 (by omega) hones
 obtain ⟨st,inv⟩:=Kl hinv e0 f3 f4 f5 f6 f7
 have hrun:(execOp a.eval o).run P w = .ok (.value (.tuple #[])) w':=by
  simp [execOp,h,resolve,invoke,builtin,Builtin.clear_,r1.val,run_underlying hu,zeroValue,typeInfo,q1,q4,← hnews,f1]
 simp only [Oper.wp,hrun,Oper.upon]
 refine hN _ κ w' (st.weaken (fun k hk=>by subst hk; simp [Up.ws])) inv (by simp [Rd,RdL]) (fun p hp=>?_)
 simp only [List.mem_singleton] at hp
 subst hp
 refine ⟨e0,b,cap,_,T,fr,e0,f2,by rw [Bl]; exact e3,by rw [Bl]; exact e4,e5,?_⟩
 rintro p z ⟨hp0,rfl⟩
 have hset:=H2 cs news (k * sz + 0)
 obtain ⟨h0,u,u1,u2,u3,u4⟩:=e6 p (e l[p]) ⟨by omega,rfl⟩
 have:(p + 1) * sz ≤ k * sz:=Nat.mul_le_mul_right sz (by omega)
 rw [Nat.add_mul,Nat.one_mul] at this
 refine ⟨h0,u,?_,u2,u3,fun j hj=>?_⟩
 ·rw [List.getElem_take]
  exact RdD.keep st.keeps _ _ u1
 ·have hcl:k * sz ≤ cs.length:=by omega
  rw [hset _ (by omega),if_neg (by omega),u4 j hj]
theorem G_dat {C:Cx} {kk:List KI} {s:SS} (i q:Nat) {sz:Nat} {α:Type} {e:α → SV} {l:List α} (h:s.σ i = .sl sz e l) (hl:l ≠ [])
  (hg:∀ b off cap,l.length ≤ cap → G C kk ⟨upd s.σ i (.val (.slice (some ⟨b,off,none⟩) l.length cap)),upd s.h q (.dat (.slice (some ⟨b,off,none⟩) l.length cap) sz e l)⟩):G C kk s:=fun κ a w hs=>by
 have h1:=hs.slot i
 rw [h] at h1
 have h1':=h1
 simp only [Rd,RdD] at h1
 rcases h1 with ⟨h2,_⟩ | ⟨b,off,cap,h2,h3,_⟩
 ·exact absurd h2 hl
 ·refine hg b off cap h3 κ a w ⟨hs.defers,hs.size,hs.inv,hs.ctx,fun j=>?_,fun j=>?_⟩
  ·show Rd κ w (upd s.σ i (.val (.slice (some ⟨b,off,none⟩) l.length cap)) j) _
   by_cases hj:j = i
   ·subst hj; rw [A6]; simp only [Rd]; exact h2
   ·rw [Br _ _ hj]; exact hs.slot j
  ·show ObOK κ w j (upd s.h q (.dat (.slice (some ⟨b,off,none⟩) l.length cap) sz e l) j)
   by_cases hj:j = q
   ·subst hj; rw [A6]; rw [h2] at h1'; exact h1'
   ·rw [Br _ _ hj]; exact hs.obj j
theorem V2 {P:Program} (Γ:Ty P) {o:Oper} {s:SS} {t:TypeId} {ti:TI} {et:TypeId} {sz eb b off n cap hi:Nat} {ez:List Value} {x hx mx:Operand} {k2 k3:IntKind}
  (h:o.op = .slice t x none (some hx) (some mx)) (ht:Γ.get t = some ti) (hk:ti.k = .slice et sz eb ez) (hxe:ev s x = .val (.slice (some ⟨b,off,none⟩) n cap)) (hhi:ev s hx = .val (.int k2 hi)) (hmx:ev s mx = .val (.int k3 hi))
  (h3:hi ≤ cap):Good P o s ⟨.val (.slice (some ⟨b,off,none⟩) hi hi),[],[]⟩ :=
 Good.pure fun κ a w _ hr _=>by
  have r1:=hr x (by simp [h,Op.operands])
  have r3:=hr hx (by simp [h,Op.operands])
  have r4:=hr mx (by simp [h,Op.operands])
  rw [hxe] at r1
  rw [hhi] at r3
  rw [hmx] at r4
  obtain ⟨hu,i,zv,q1,q2,q3,q4,q5⟩:=Bs Γ ht hk
  have hb:(Instr.sliceBounds true n cap none (some (a.eval hx)) (some (a.eval mx))).run P w = .ok (0,hi,hi) w:=by
   rw [r3.val,r4.val]
   simp [Instr.sliceBounds,Instr.sliceBound,asIntOf,h3]
  refine ⟨.slice (some ⟨b,off,none⟩) hi hi,?_,by simp only [Rd]⟩
  by_cases hc:hi = 0
  ·subst hc
   simp [execOp,h,r1.val,Instr.sliceAt,Instr.slice,run_underlying hu,hb,sizeOf,typeInfo,q1]
  ·simp [execOp,h,r1.val,Instr.sliceAt,Instr.slice,run_underlying hu,hb,sizeOf,typeInfo,q1,q2,hc,Addr.add_lit]
theorem V8 {P:Program} (Γ:Ty P) {o:Oper} {s:SS} (q:Nat) {t:TypeId} {ti:TI} {et:TypeId} {sz eb b off n cap:Nat} {ez:List Value} {x y:Operand} {α:Type} {e:α → SV} {l l':List α}
  (h:o.op = .call ⟨.builtin .append,#[x,y],#[t,t]⟩) (ht:Γ.get t = some ti) (hk:ti.k = .slice et sz eb ez) (hez:ez.length = sz) (hx:ev s x = .val (.slice (some ⟨b,off,none⟩) n n))
  (hq:s.h q = .dat (.slice (some ⟨b,off,none⟩) l.length cap) sz e l) (hn:n ≤ l.length) (hy:ev s y = .sl sz e l') (hbytes:(n + l'.length) * eb ≤ 140737488355328) (h63:n + l'.length ≤ 9223372036854775807) :
  Good P o s ⟨.sl sz e (l.take n ++ l'),[q],[]⟩:=by
 intro κ a w hinv hr ho N Q hN
 have r1:=hr x (by simp [h,Op.operands,Call.operands])
 have r2:=hr y (by simp [h,Op.operands,Call.operands])
 rw [hx] at r1
 rw [hy] at r2
 have hq1:=ho q (.inl (by simp))
 rw [hq] at hq1
 have hq1:Rd κ w (.sl sz e l) (.slice (some ⟨b,off,none⟩) l.length cap):=hq1
 obtain ⟨hu,ii,zv,q1,q2,q3,q4,q5⟩:=Bs Γ ht hk
 have hzs:zv.cells.size = sz:=by rw [← hez,← q5]; simp
 have htl:(l.take n).length = n:=by rw [List.length_take]; omega
 have hbase:Rd κ w (.sl sz e (l.take n)) (.slice (some ⟨b,off,none⟩) n n):=by
  simp only [Rd,RdD] at hq1 ⊢
  rcases hq1 with ⟨h0,_⟩ | ⟨b2,off2,cap2,h2,h3,h4,h5,h6⟩
  ·have hn0:n = 0:=by rw [h0] at hn; simpa using hn
   subst hn0
   exact .inl ⟨by simp,_,_,E⟩
  ·cases h2
   refine .inr ⟨b,off,n,by rw [htl],by rw [htl]; exact Nat.le_refl _,h4,h5,fun i hi=>?_⟩
   obtain ⟨u,h7,h8⟩:=h6 i (by omega)
   exact ⟨u,by rw [List.getElem_take]; exact h7,h8⟩
 have hrb:=hbase.src
 have hru:=r2.src
 rw [htl] at hrb
 obtain ⟨m,hm⟩:∃ m,l'.length = m:=⟨_,rfl⟩
 rw [hm] at hru hbytes h63
 generalize hve:a.eval y = u at *
 obtain ⟨ad,c,news,hu2,hnl,hn1,hnc,hng⟩:∃ (a:Option Addr) (c:Nat) (news:List Value),u = .slice a m c ∧ news.length = m * sz ∧ Ones news ∧ (∀ W:World,(∀ p:Addr,p.block < w.heap.size → W.cell? p = w.cell? p) → (Builtin.firstCells sz m u).run P W = .ok news.toArray W) ∧
   (∀ j x,rowF e l' j x → j < m ∧ ∃ q:Value,RdD (Own κ) w x q ∧ q.cells.size = sz ∧ Ones q.cells.toList ∧ ∀ l,l < sz → news[j * sz + l]? = q.cells[l]?):=by
  rcases hru with ⟨rfl,hno,a,c,rfl⟩ | ⟨b,o,c,news,rfl,h1,h2,h3,h4⟩
  ·refine ⟨a,c,[],E,by simp,by simp [Ones],fun W _=>?_,fun j x h=>absurd h (hno j x)⟩
   cases a <;> simp [Builtin.firstCells,loadCells,loadCellsFrom]
  ·refine ⟨some ⟨b,o,none⟩,c,news,E,h1,h2,fun W hW=>?_,fun j x hx=>h4 j x hx⟩
   exact run_firstCells_some (P:=P) W sz m ⟨b,o,none⟩ m c news h1 (fun j q hj=>by
    rw [Addr.add_lit]
    have h5:=h3 j q hj
    rw [hW _ (by exact World.block_lt_of_cell? w _ h5),h5])
 subst hu2
 by_cases hm0:m = 0
 ·subst hm0
  have hl':l' = []:=List.eq_nil_of_length_eq_zero hm
  subst hl'
  have hc:=hnc w (fun _ _=>rfl)
  have hnn:news = []:=by simpa using hnl
  subst hnn
  have hrun:(execOp a.eval o).run P w = .ok (.value (.slice (some ⟨b,off,none⟩) n n)) w:=by
   simp [execOp,h,resolve,invoke,builtin,Builtin.append_,r1.val,hve,run_underlying hu,sizeOf,typeInfo,q1,q2,Builtin.lenOf,hc,storeCells]
  simp only [Oper.wp,hrun,Oper.upon]
  refine hN _ κ w (Step.refl _ κ w) hinv ?_ (fun p hp=>by cases hp)
  rw [List.append_nil]
  exact hbase
 obtain ⟨olds,hol,hof,hfo⟩:∃ olds:List Value,olds.length = n * sz ∧ (∀ j x,rowF e (l.take n) j x → j < n → ∃ q:Value,RdD (Own κ) w x q ∧ q.cells.size = sz ∧ Ones q.cells.toList ∧ ∀ l,l < sz → olds[j * sz + l]? = q.cells[l]?) ∧
   (Builtin.firstCells sz n (.slice (some ⟨b,off,none⟩) n n)).run P w.drew = .ok olds.toArray w.drew:=by
  rcases hrb with ⟨rfl,hno,_⟩ | ⟨b2,o2,c2,olds,he,g1,g2,g3,g4⟩
  ·exact ⟨[],by simp,fun j x _ hj=>absurd hj (by omega),run_firstCells_some (P:=P) w.drew sz 0 ⟨b,off,none⟩ 0 0 [] (by simp) (fun j v hj=>by simp at hj)⟩
  ·cases he
   exact ⟨olds,g1,fun j x hx _=>(g4 j x hx).2,run_firstCells_some (P:=P) w.drew sz n ⟨b,off,none⟩ n n olds g1 (fun j v hj=>by
    have:=g3 j v hj
    rw [Addr.add_lit]; simpa using this)⟩
 have hcap:n + m ≤ grownCap w (n + m) n et:=grownCap_ge w (n + m) n et
 have h48:¬ (281474976710656 < Builtin.nextslicecap (n + m) n * ii.bytes):=by
  have:=growslice_fits (need:=n + m) (old:=n) (bytes:=ii.bytes) (by omega) (by rw [q3]; exact hbytes)
  omega
 have h63':¬ (9223372036854775807 < (n:Int) + (m:Int)):=by omega
 have hroom:¬ n + m ≤ n:=by omega
 have hc:=hnc w.drew (fun _ _=>rfl)
 obtain ⟨w',hw'⟩:∃ w',w.drew.alloc (.cells (olds.toArray ++ news.toArray ++ Builtin.zeroCells zv.cells (grownCap w (n + m) n et - (n + m))) et) = w':=⟨_,rfl⟩
 have hrun:(execOp a.eval o).run P w = .ok (.value (.slice (some ⟨w.heap.size,0,none⟩) (n + m) (grownCap w (n + m) n et))) w':=by
  rw [← hw']
  simp [execOp,h,resolve,invoke,builtin,Builtin.append_,r1.val,hve,run_underlying hu,sizeOf,typeInfo,zeroValue,q4,q1,q2,Builtin.lenOf,hm0,h63',h48,Question.forced,hfo,hc,newRow,grownCap]
  rw [if_neg hroom]
  have ea:∀ Z:Array Value,olds.toArray ++ (news.toArray ++ Z) = (olds ++ news).toArray ++ Z:=fun Z=>by apply Array.ext'; simp
  rw [ea]
 have g0:Grew w w':=by rw [← hw']; exact (Grew.drew w).trans (Grew.alloc _ _)
 obtain ⟨st,inv⟩:=Afc hinv g0
 have hblk:w'.heap[w.heap.size]? = some (.cells (olds ++ news ++ (Builtin.zeroCells zv.cells (grownCap w (n + m) n et - (n + m))).toList).toArray et):=by
  rw [← hw']
  have:(w.drew.alloc (.cells (olds.toArray ++ news.toArray ++ Builtin.zeroCells zv.cells (grownCap w (n + m) n et - (n + m))) et)).heap[w.heap.size]? = some (.cells (olds.toArray ++ news.toArray ++ Builtin.zeroCells zv.cells (grownCap w (n + m) n et - (n + m))) et):=heap_alloc_new w.drew _
  rw [this]
  congr 2
  apply Array.ext'
  simp
 have hsz:w.heap.size < w'.heap.size:=by rw [← hw']; simp
 simp only [Oper.wp,hrun,Oper.upon]
 refine hN _ κ w' (st.weaken (fun _ h=>h.elim)) inv ?_ (fun p hp=>by cases hp)
 simp only [Rd,RdD]
 have hlen:(l.take n ++ l').length = n + m:=by rw [List.length_append,htl,hm]
 refine .inr ⟨w.heap.size,0,grownCap w (n + m) n et,by rw [hlen],by rw [hlen]; exact hcap,?_,hsz,fun j hj=>?_⟩
 ·rintro (⟨k,hk⟩ | hk)
  ·exact Nat.lt_irrefl _ (hinv.bnd k _ hk)
  ·exact Nat.lt_irrefl _ (hinv.mbnd _ hk)
 ·rw [hlen] at hj
  by_cases hjn:j < n
  ·obtain ⟨qv,g1,g2,g3,g4⟩:=hof j (e (l.take n)[j]) ⟨by omega,rfl⟩ hjn
   refine ⟨qv,by rw [List.getElem_append_left (by omega)]; exact RdD.keep st.keeps _ _ g1,g2,g3,fun p hp=>?_⟩
   have:(j + 1) * sz ≤ n * sz:=Nat.mul_le_mul_right sz (by omega)
   rw [Nat.add_mul,Nat.one_mul] at this
   rw [cell_of_row w' _ _ _ et (0,0) hblk,List.getElem?_toArray,List.append_assoc,List.getElem?_append_left (by omega),Nat.zero_add]
   exact g4 p hp
  ·obtain ⟨_,qv,g1,g2,g3,g4⟩:=hng (j - n) (e (l'[j - n]'(by omega))) ⟨by omega,rfl⟩
   refine ⟨qv,?_,g2,g3,fun p hp=>?_⟩
   ·rw [List.getElem_append_right (by omega)]
    simp only [htl]
    exact RdD.keep st.keeps _ _ g1
   ·have e1:j * sz = n * sz + (j - n) * sz:=by rw [← Nat.add_mul]; congr 1; omega
    have:(j - n + 1) * sz ≤ m * sz:=Nat.mul_le_mul_right sz (by omega)
    rw [Nat.add_mul,Nat.one_mul] at this
    rw [cell_of_row w' _ _ _ et (0,0) hblk,List.getElem?_toArray,List.append_assoc,List.getElem?_append_right (by omega),List.getElem?_append_left (by omega),← g4 p hp]
    congr 1
    omega
theorem Ss {P:Program} {o:Oper} {s:SS} (q:Nat) {sz:Nat} {α:Type} {e:α → SV} {l:List α} {v:Value} {x:Operand} (h:o.op = .move x ∨ o.op = .assign x) (hx:ev s x = .val v) (hq:s.h q = .dat v sz e l):Good P o s ⟨.sl sz e l,[q],[]⟩ :=
 Good.pure fun κ a w _ hr ho=>by
  have hq1:=ho q (by simp)
  rw [hq] at hq1
  have hr1:=hr x (by rcases h with h | h <;> simp [h,Op.operands])
  rw [hx] at hr1
  refine ⟨a.eval x,?_,?_⟩
  ·rcases h with h | h <;> simp [execOp,h]
  ·rw [hr1.val]; exact hq1
theorem U5 {f g:Nat → Option (Nat × Nat)}:∀ (ps:List (Nat × Value)) (cs:Array Value),(∀ p ∈ ps,f p.1 = g p.1) → Instr.fill f cs ps = Instr.fill g cs ps
 | [],cs,_=>rfl
 | (i,v) :: ps,cs,h=>by
  have h1:=h (i,v) (by simp)
  simp only [Instr.fill]
  dsimp only at h1
  rw [h1]
  cases g i with
  | none=>rfl
  | some os =>
   dsimp only
   split
   ·rfl
   ·exact U5 ps _ (fun p hp=>h p (by simp [hp]))
theorem Aav {P:Program} (Γ:Ty P) {o:Oper} {s:SS} {t et:TypeId} {ti:TI} {len esz:Nat} {ps:List (Nat × Operand)} {out:List SV} (h:o.op = .build t ps.toArray) (ht:Γ.get t = some ti) (hk:ti.k = .array et len esz)
  (h1:Sm ti.zero = true) (hps:(ps.all fun p=>Nat.blt p.1 len) = true) (hf:U6 ((List.range len).map fun i=>(i * esz,esz)) (ti.zero.map .val) (ps.map fun p=>(p.1,ev s p.2)) = some out):Good P o s ⟨.agg out,[],[]⟩ :=
 Good.pure fun κ a w _ hr _=>by
  obtain ⟨d,info,z,k1,k2,k3,k4,k5,k6⟩:=Γ.ok t ti ht
  obtain ⟨hu,i,q1,q2⟩:=Lb Γ ht hk
  have hops:∀ p ∈ ps,Rd κ w (ev s p.2) (a.eval p.2):=fun p hp=>hr p.2 (by
   simp only [h,Op.operands]
   simp only [List.mem_toArray,List.mem_map]
   exact ⟨p,hp,E⟩)
  obtain ⟨r,r1,r2,r3⟩:=Yo (κ:=κ) (w:=w) (a:=a) ps _ out z.cells (by rw [k6]; exact Qg _) (by rw [k6]; exact Kt h1) hops hf
  refine ⟨.agg r,?_,?_⟩
  ·have hcg:=U5 (f:=fun i=>some (i * esz,esz)) (g:=fun i=>((List.range len).map fun i=>(i * esz,esz))[i]?) (ps.map fun p=>(p.1,a.eval p.2)) z.cells (fun p hp=>by
    obtain ⟨x,hx,rfl⟩:=List.mem_map.1 hp
    have hlt:x.1 < len:=Nat.le_of_ble_eq_true (List.all_eq_true.1 hps x hx)
    dsimp only
    rw [List.getElem?_map,List.getElem?_range hlt]
    rfl)
   simp only [execOp,h,Sem.run_bind,Instr.build,zeroValue,typeInfo,run_program,Result.andThen_ok,k3,k5,Sem.run_pure,run_underlying hu,sizeOf,q1,q2,List.map_toArray]
   rw [hcg,r1]
   simp
  ·simp only [Rd]
   exact ⟨r.toList,by simp,r3,r2⟩
mutual
def rnb (k d:Nat):SV → SV
 | .ptr j o=>bif Nat.beq j k then .ptr d o else .ptr j o
 | .agg l=>.agg (T7 k d l)
 | .tup l=>.tup (T7 k d l)
 | .ifc t y=>.ifc t (rnb k d y)
 | .clo f g l=>.clo f (T7 k d g) (T7 k d l)
 | y=>y
def T7 (k d:Nat):List SV → List SV
 | []=>[]
 | y :: l=>rnb k d y :: T7 k d l
end
mutual
theorem Aca {κ κ':Ka} {w:World} {K:Nat → Prop} {k d:Nat} (st:Step K κ w κ' w) (hx:∀ o v,Rd κ w (.ptr k o) v → Rd κ' w (.ptr d o) v):∀ (y:SV) (v:Value),Rd κ w y v → Rd κ' w (rnb k d y) v
 | .ptr j o,v,h=>by
  unfold rnb
  by_cases hk:j = k
  ·subst hk; rw [show Nat.beq j j = true from Nat.beq_refl j]; exact hx o v h
  ·rw [show Nat.beq j k = false from by cases hb:Nat.beq j k with | false=>rfl | true=>exact absurd (Nat.eq_of_beq_eq_true hb) hk]; exact Rd.step st _ _ h
 | .agg l,v,h=>by
  simp only [Rd] at h
  unfold rnb
  simp only [Rd]
  obtain ⟨cs,h1,h2,h3⟩:=h
  exact ⟨cs,h1,h2,Js st hx l cs h3⟩
 | .tup l,v,h=>by
  simp only [Rd] at h
  unfold rnb
  simp only [Rd]
  obtain ⟨cs,h1,h3⟩:=h
  exact ⟨cs,h1,Js st hx l cs h3⟩
 | .ifc t y,v,h=>by
  simp only [Rd] at h
  unfold rnb
  simp only [Rd]
  obtain ⟨u,h1,h3⟩:=h
  exact ⟨u,h1,Aca st hx y u h3⟩
 | .clo f g l,v,h=>by
  simp only [Rd] at h
  unfold rnb
  simp only [Rd]
  obtain ⟨fs,cs,h1,h2,h3⟩:=h
  exact ⟨fs,cs,h1,Js st hx g fs h2,Js st hx l cs h3⟩
 | .top,v,h=>by unfold rnb; exact Rd.step st _ _ h
 | .val u,v,h=>by unfold rnb; exact Rd.step st _ _ h
 | .sl sz e l,v,h=>by unfold rnb; exact Rd.step st _ _ h
 | .ref sz z o,v,h=>by unfold rnb; exact Rd.step st _ _ h
 | .rpt k sz i o,v,h=>by unfold rnb; exact Rd.step st _ _ h
 | .osl k,v,h=>by unfold rnb; exact Rd.step st _ _ h
theorem Js {κ κ':Ka} {w:World} {K:Nat → Prop} {k d:Nat} (st:Step K κ w κ' w) (hx:∀ o v,Rd κ w (.ptr k o) v → Rd κ' w (.ptr d o) v):∀ (l:List SV) (vs:List Value),RdL κ w l vs → RdL κ' w (T7 k d l) vs
 | [],vs,h=>by
  unfold T7
  simpa [RdL] using h
 | y :: l,vs,h=>by
  simp only [RdL] at h
  unfold T7
  simp only [RdL]
  obtain ⟨v,r,h1,h2,h3⟩:=h
  exact ⟨v,r,h1,Aca st hx y v h2,Js st hx l r h3⟩
end
def rnbO (k d:Nat):Ob → Ob
 | .box l=>.box (T7 k d l)
 | o=>o
theorem Ab2 {κ:Ka} {w:World} {k d b:Nat} (hi:Inv κ w) (hk:κ k = .blk b) (hd:κ d = .new) :
  Step (fun j=>j = k ∨ j = d) κ w (Cj (Cj κ k .dead) d (.blk b)) w ∧ Inv (Cj (Cj κ k .dead) d (.blk b)) w:=by
 have hkd:k ≠ d:=fun e=>by subst e; rw [hk] at hd; cases hd
 have hkb:(κ k).block? = some b:=by rw [hk]; rfl
 have key:∀ j c,((Cj (Cj κ k .dead) d (.blk b)) j).block? = some c → (j = d ∧ c = b) ∨ (j ≠ d ∧ j ≠ k ∧ (κ j).block? = some c):=by
  intro j c h
  by_cases hj:j = d
  ·subst hj; rw [Ap] at h; exact .inl ⟨rfl,by simpa [Ent.block?] using h.symm⟩
  ·rw [Bk _ _ hj] at h
   by_cases hj2:j = k
   ·subst hj2; rw [Ap] at h; cases h
   ·rw [Bk _ _ hj2] at h; exact .inr ⟨hj,hj2,h⟩
 refine ⟨⟨Nat.le_refl _,E,E,E,E,fun _ _=>rfl,fun _ _ _=>rfl,fun _ _ _ _=>rfl,fun j hj=>?_,?_,?_⟩,⟨?_,?_,?_,fun c h=>hi.mbnd c h⟩⟩
 ·rw [Bk _ _ (fun e=>hj (.inr e)),Bk _ _ (fun e=>hj (.inl e))]
 ·rintro j (rfl | rfl)
  ·exact .inr (.inr (by rw [Bk _ _ hkd,Ap]))
  ·exact .inl hd
 ·rintro c (⟨j,hj⟩ | hj)
  ·rcases key j c hj with ⟨_,rfl⟩ | ⟨_,_,h⟩
   ·exact .inl (.inl ⟨k,hkb⟩)
   ·exact .inl (.inl ⟨j,h⟩)
  ·exact .inl (.inr hj)
 ·intro i j c h1 h2
  rcases key i c h1 with ⟨a1,a2⟩ | ⟨a1,a2,a3⟩ <;> rcases key j c h2 with ⟨b1,b2⟩ | ⟨b1,b2,b3⟩
  ·exact a1.trans b1.symm
  ·subst a2; exact absurd (hi.inj j k _ b3 hkb) b2
  ·subst b2; exact absurd (hi.inj i k _ a3 hkb) a2
  ·exact hi.inj i j c a3 b3
 ·intro j c h
  rcases key j c h with ⟨_,rfl⟩ | ⟨_,_,h⟩
  ·exact hi.bnd k _ hkb
  ·exact hi.bnd j c h
 ·intro j c h
  rcases key j c h with ⟨_,rfl⟩ | ⟨_,_,h⟩
  ·exact hi.apart k _ hkb
  ·exact hi.apart j c h
theorem E7 {C:Cx} {kk:List KI} {s:SS} (k d:Nat) {l:List SV} (h:s.h k = .box l) (hd:s.h d = .fresh) (hkd:k ≠ d)
  (hg:G C kk ⟨fun i=>rnb k d (s.σ i),upd (fun j=>bif Nat.beq j k then .non else rnbO k d (s.h j)) d (.box (T7 k d l))⟩):G C kk s:=fun κ a w hs=>by
 have hob:=hs.obj k
 rw [h] at hob
 have hnew:κ d = .new:=by have:=hs.obj d; rwa [hd] at this
 obtain ⟨b,cs,T,fr,e1,e2,e3,e4,e5⟩:=hob
 obtain ⟨st,inv⟩:=Ab2 hs.inv e1 hnew
 have hne:∀ j,j ≠ k → j ≠ d → (Cj (Cj κ k .dead) d (.blk b)) j = κ j:=fun j h1 h2=>by rw [Bk _ _ h2,Bk _ _ h1]
 have hv:∀ o v,Rd κ w (.ptr k o) v → Rd (Cj (Cj κ k .dead) d (.blk b)) w (.ptr d o) v:=fun o v hv=>by
  simp only [Rd,e1] at hv
  simp only [Rd,Ap]
  exact hv
 refine hg _ a w ⟨hs.defers,hs.size,inv,hs.ctx.step inv st,fun j=>Aca st hv _ _ (hs.slot j),fun j=>?_⟩
 show ObOK _ w j (upd (fun j=>bif Nat.beq j k then .non else rnbO k d (s.h j)) d (.box (T7 k d l)) j)
 by_cases hj:j = d
 ·subst hj
  rw [A6]
  exact ⟨b,cs,T,fr,Ap _ _ _,e2,e3,e4,Js st hv l cs e5⟩
 ·rw [Br _ _ hj]
  by_cases hj2:j = k
  ·subst hj2; rw [show Nat.beq j j = true from Nat.beq_refl j]; trivial
  ·rw [show Nat.beq j k = false from by cases hb:Nat.beq j k with | false=>rfl | true=>exact absurd (Nat.eq_of_beq_eq_true hb) hj2]
   have hb:=ObOK.step st (fun e=>e.elim hj2 hj) _ (hs.obj j)
   have h0:=hs.obj j
   show ObOK _ w j (rnbO k d (s.h j))
   cases hh:s.h j with
   | box m =>
    rw [hh] at h0 hb
    obtain ⟨b2,cs2,T2,fr2,f1,f2,f3,f4,f5⟩:=h0
    exact ⟨b2,cs2,T2,fr2,(hne j hj2 hj).trans f1,f2,f3,f4,Js st hv m cs2 f5⟩
   | fresh=>rw [hh] at hb; exact hb
   | non=>rw [hh] at hb; exact hb
   | row sz' e' l'=>rw [hh] at hb; exact hb
   | lit sz' svs=>rw [hh] at hb; exact hb
   | glob sz' x' g'=>rw [hh] at hb; exact hb
   | pin b' n' cap' sz' e' l'=>rw [hh] at hb; exact hb
   | dat v' sz' e' l'=>rw [hh] at hb; exact hb
theorem VwL.get {s:SS} {V:List Nat}:∀ {l m:List SV} (_:VwL s V l m) {i:Nat} {y:SV},Dm m i = some y → ∃ x,Dm l i = some x ∧ Vw s V x y
 | _,_,.nil,i,y,h=>by cases i <;> simp [Dm] at h
 | _,_,.cons (x:=x) h0 hs,0,y,h=>by
  simp only [Dm,Option.some.injEq] at h
  subst h
  exact ⟨x,E,h0⟩
 | _,_,.cons h0 hs,i + 1,y,h=>VwL.get hs (i:=i) h
theorem VwL.len {s:SS} {V:List Nat}:∀ {l m:List SV} (_:VwL s V l m),m.length = l.length
 | _,_,.nil=>rfl
 | _,_,.cons _ hs=>by simp [VwL.len hs]
theorem Xb:∀ {l:List SV} {i:Nat} {x:SV},Jk l = true → Dm l i = some x → x.data = true
 | [],i,x,_,h=>by cases i <;> simp [Dm] at h
 | y :: l,0,x,hd,h=>by
  simp only [Dm,Option.some.injEq] at h
  subst h
  simp only [Jk,Bool.and_eq_true] at hd
  exact hd.1
 | y :: l,i + 1,x,hd,h=>by
  simp only [Jk,Bool.and_eq_true] at hd
  exact Xb hd.2 (i:=i) h
theorem Q7 {C:Cx} {k:List KI} {s:SS} (d:Nat) {sz:Nat} {svs:List SV} (svs':List SV) (h:s.h d = .lit sz svs) (hv:VwL s [] svs svs') (hd:Jk svs' = true) (hg:G C k ⟨s.σ,upd s.h d (.lit sz svs')⟩):G C k s:=fun κ a w hs=>by
 refine hg κ a w ⟨hs.defers,hs.size,hs.inv,hs.ctx,hs.slot,fun j=>?_⟩
 show ObOK κ w j (upd s.h d (.lit sz svs') j)
 by_cases hj:j = d
 ·subst hj
  rw [A6]
  have hob:=hs.obj j
  rw [h] at hob
  have hlen:=hv.len
  obtain ⟨b,cap,cs,T,fr,e1,e2,e3,e4,e5,e6⟩:=hob
  refine ⟨b,cap,cs,T,fr,by rw [hlen]; exact e1,e2,e3,e4,by omega,fun i x hx=>?_⟩
  obtain ⟨y,hy,hvw⟩:=hv.get hx
  obtain ⟨f1,u,f2,f3⟩:=e6 i y hy
  exact ⟨by omega,u,Rd.data _ _ (Xb hd hx) (hvw.rd hs.inv (fun n hn=>by cases hn) f2.toRd),f3⟩
 ·rw [Br _ _ hj]; exact hs.obj j
theorem RdL.setI {κ:Ka} {w:World} {x:SV} {v:Value} (hx:Rd κ w x v):∀ {l:List SV} {cs:List Value} (i:Nat),RdL κ w l cs → RdL κ w (l.set i x) (cs.set i v)
 | [],cs,i,h=>by simp only [RdL] at h; subst h; simp [RdL]
 | y :: l,cs,0,h=>by
  simp only [RdL] at h
  obtain ⟨u,r,rfl,h1,h2⟩:=h
  simp only [List.set_cons_zero,RdL]
  exact ⟨v,r,E,hx,h2⟩
 | y :: l,cs,i + 1,h=>by
  simp only [RdL] at h
  obtain ⟨u,r,rfl,h1,h2⟩:=h
  simp only [List.set_cons_succ,RdL]
  exact ⟨u,_,E,h1,h2.setI hx i⟩
theorem Hi {κ:Ka} {w:World} {k:Nat} {l:List SV} (hi:Inv κ w) (h:ObOK κ w k (.box l)) {off:Nat} {x:SV} {v:Value} (hx:x.plain = true) (hv:∀ κ w,Rd κ w x v) (h1:v.oneCell' = true) :
  ∃ b,κ k = .blk b ∧ (∀ j y,Dm l j = some y → ∃ u,w.cell? ⟨b,j,none⟩ = some u ∧ Rd κ w y u) ∧ (∀ j,j < l.length → w.frozen? ⟨b,j,none⟩ = false) ∧
   Step (· = k) κ w κ (w.setCell ⟨b,off,none⟩ v) ∧ Inv κ (w.setCell ⟨b,off,none⟩ v) ∧ ObOK κ (w.setCell ⟨b,off,none⟩ v) k (.box (l.set off x)):=by
 obtain ⟨b,cs,T,fr,e1,e2,e3,e4,e5⟩:=h
 have hsame:(w.setCell ⟨b,off,none⟩ v).heap[b]? = some (.cells (cs.set off v).toArray T fr):=by
  simp [World.setCell,Array.getElem?_modify,e2]
 have hoth:∀ j,j ≠ b → (w.setCell ⟨b,off,none⟩ v).heap[j]? = w.heap[j]?:=fun j hj=>heap_setCell_other w ⟨b,off,none⟩ j v hj
 obtain ⟨st,inv⟩:=Jp (w':=w.setCell ⟨b,off,none⟩ v) hi (k:=k) (b:=b) (by rw [e1]; rfl) rfl rfl rfl (by simp) hoth
 have hlen:=e5.length
 refine ⟨b,e1,fun j y hy=>?_,fun j hj=>?_,st,inv,b,_,T,fr,e1,hsame,by rw [List.length_set]; exact e3,?_,(RdL.step st _ _ e5).setI (hv _ _) off⟩
 ·obtain ⟨u,hu,hr⟩:=e5.get hy
  exact ⟨u,by rw [cell_of_row w b j cs.toArray T fr e2,List.getElem?_toArray]; exact hu,hr⟩
 ·obtain ⟨lo,hi'⟩:=fr
  simp only [World.frozen?,e2]
  rcases e3 with h | h
  ·simp only at h; subst h; simp
  ·simp only at h; simp; omega
 ·intro c hc
  rcases List.mem_or_eq_of_mem_set hc with h | h
  ·exact e4 c h
  ·rw [h]; exact h1
theorem V6 {P:Program} {o:Oper} {s:SS} {f:FuncId} {ik:IntKind} {ts:Array TypeId} {x:Operand} {k off:Nat} {l:List SV} {v:Int}
  (hf:∀ (a:Addr) (x:Int) (w:World),w.cell? a = some (.int ik x) → (callFunc f #[.pointer (some a)]).run P w = .ok (.value (.int ik x)) w)
  (h:o.op = .call ⟨.value (.func f),#[x],ts⟩) (hx:ev s x = .ptr k off) (hk:s.h k = .box l) (hy:Dm l off = some (.val (.int ik v))):Good P o s ⟨.val (.int ik v),[k],[]⟩ :=
 Good.pure fun κ a w hi hr ho=>by
  have h1:=hr x (by simp [h,Op.operands,Call.operands])
  rw [hx] at h1
  have h2:=ho k (by simp)
  rw [hk] at h2
  obtain ⟨b,cs,T,fr,e1,e2,e3,e4,e5⟩:=h2
  simp only [Rd,e1] at h1
  obtain ⟨u,hu,hr2⟩:=e5.get hy
  have hc:w.cell? ⟨b,off,none⟩ = some (.int ik v):=by rw [cell_of_row w b off cs.toArray T fr e2,List.getElem?_toArray,hu,hr2.val]
  have hrun:=hf ⟨b,off,none⟩ v w hc
  refine ⟨.int ik v,?_,by simp only [Rd]⟩
  have hev:a.eval (.func f) = .func (.func f) #[] #[]:=rfl
  simp [execOp,h,resolve,hev,Deferred.ofValue,invoke,h1,hrun]
theorem Yh {P:Program} {o:Oper} {s:SS} {f:FuncId} {ts:Array TypeId} {x y:Operand} {k off:Nat} {l:List SV} {v d:Int}
  (hf:∀ (a:Addr) (x y:Int) (w:World),w.cell? a = some (.int .i64 x) → w.frozen? a = false → (callFunc f #[.pointer (some a),.int .i64 y]).run P w = .ok (.value (.int .i64 (IntKind.i64.wrap (x + y)))) (w.setCell a (.int .i64 (IntKind.i64.wrap (x + y)))))
  (h:o.op = .call ⟨.value (.func f),#[x,y],ts⟩) (hx:ev s x = .ptr k off) (hy:ev s y = .val (.int .i64 d)) (hk:s.h k = .box l) (hl:Dm l off = some (.val (.int .i64 v))) (hv:IntKind.i64.wrap (v + d) = v + d) :
  Good P o s ⟨.val (.int .i64 (v + d)),[],[(k,.box (l.set off (.val (.int .i64 (v + d)))))]⟩:=by
 intro κ a w hi hr ho N Q hN
 have h1:=hr x (by simp [h,Op.operands,Call.operands])
 have h2:=hr y (by simp [h,Op.operands,Call.operands])
 rw [hx] at h1
 rw [hy] at h2
 have h3:=ho k (.inr (by simp [Up.ws]))
 rw [hk] at h3
 obtain ⟨b,e1,c1,c2,st,inv,ob⟩:=Hi (off:=off) (x:=.val (.int .i64 (v + d))) (v:=.int .i64 (v + d)) hi h3 rfl (fun _ _=>by simp only [Rd]) rfl
 simp only [Rd,e1] at h1
 obtain ⟨u,hu,hr2⟩:=c1 off _ hl
 rw [hr2.val] at hu
 have hrun:=hf ⟨b,off,none⟩ v d w hu (c2 off (Tk hl))
 rw [hv] at hrun
 have hrun2:(execOp a.eval o).run P w = .ok (.value (.int .i64 (v + d))) (w.setCell ⟨b,off,none⟩ (.int .i64 (v + d))):=by
  have hev:a.eval (.func f) = .func (.func f) #[] #[]:=rfl
  simp [execOp,h,resolve,hev,Deferred.ofValue,invoke,h1,h2.val,hrun]
 simp only [Oper.wp,hrun2,Oper.upon]
 refine hN _ κ _ (st.weaken (by simp [Up.ws])) inv (by simp only [Rd]) (fun p hp=>?_)
 simp only [List.mem_singleton] at hp
 subst hp
 exact ob
theorem V7 {P:Program} (Γ:Ty P) {o:Oper} {s:SS} (q:Nat) {t:TypeId} {ti:TI} {et:TypeId} {eb b n cap lo k c1 c2:Nat} {ez:List Value} {x y:Operand} {α:Type} {e:α → SV} {l:List α} {B B2:Option Addr}
  (h:o.op = .call ⟨.builtin .copy,#[x,y],#[t,t]⟩) (ht:Γ.get t = some ti) (hk:ti.k = .slice et 1 eb ez) (hx:ev s x = .val (.slice B (n - lo) c1)) (hB:B = some ⟨b,lo,none⟩) (hy:ev s y = .val (.slice B2 k c2)) (hB2:B2 = some ⟨b,0,none⟩)
  (hq:s.h q = .pin b n cap 1 e l) (hl:l.length = n) (hk2:k ≤ n) (hpos:0 < min k (n - lo)) :
  Good P o s ⟨.val (.int .i64 (min k (n - lo):Nat)),[],[(q,.pin b n cap 1 e (l.take lo ++ l.take (min k (n - lo)) ++ l.drop (lo + min k (n - lo))))]⟩:=by
 intro κ a w hinv hr ho N Q hN
 have r1:=hr x (by simp [h,Op.operands,Call.operands])
 have r2:=hr y (by simp [h,Op.operands,Call.operands])
 rw [hx] at r1
 rw [hy] at r2
 subst hB
 subst hB2
 have hob:=ho q (.inr (by simp [Up.ws]))
 rw [hq] at hob
 obtain ⟨e0,b',cap',cs,T,fr,e1,e2,e3,e4,e5,e6⟩:=hob
 rw [e0] at e1
 cases e1
 obtain ⟨hu,ii,zv,q1,q2,q3,q4,q5⟩:=Bs Γ ht hk
 obtain ⟨mn,hmn⟩:∃ mn,min k (n - lo) = mn:=⟨_,rfl⟩
 rw [hmn] at hpos hN
 have hnc:n ≤ cs.length:=by omega
 have hall:∀ i,i < n → ∃ u:Value,u.cells.size = 1 ∧ Ones u.cells.toList ∧ ∀ j,j < 1 → cs[i * 1 + j]? = u.cells[j]?:=fun i hi=>by
  obtain ⟨_,u,_,u2⟩:=e6 i (e l[i]) ⟨by omega,rfl⟩
  exact ⟨u,u2⟩
 obtain ⟨news,hnews⟩:∃ news,news = cs.take mn:=⟨_,rfl⟩
 have hnl:news.length = mn:=by rw [hnews,List.length_take]; omega
 have hget:∀ p,p < mn → news[p]? = cs[p]?:=fun p hp=>by rw [hnews,List.getElem?_take,if_pos hp]
 have hones:Ones news:=fun v hv=>by
  obtain ⟨p,hp,he⟩:=List.getElem_of_mem hv
  have h1:news[p]? = some v:=by rw [List.getElem?_eq_getElem hp,he]
  rw [hnl] at hp
  rw [hget p hp] at h1
  exact Zr (n:=n) hall (by omega) h1
 obtain ⟨w',f1,f2,f3,f4,f5,f6,f7⟩:=B4 P b lo T fr news 0 cs w e2 e3 (by omega) hones
 obtain ⟨st,inv⟩:=Kl hinv e0 f3 f4 f5 f6 f7
 have hcell:∀ p v,cs[p]? = some v → w.cell? ⟨b,p,none⟩ = some v:=fun p v hp=>by simp [World.cell?,e2,hp]
 have hc:=Xc (P:=P) w w' t t o.type et ⟨b,lo,none⟩ ⟨b,0,none⟩ (n - lo) c1 k c2 news hu q1 q2 (by rw [hnl,hmn]) (fun j v hv=>by
  rw [Addr.add_lit]
  have hlt:j < mn:=by rw [← hnl]; exact (List.getElem?_eq_some_iff.1 hv).1
  rw [hget j hlt] at hv
  rw [Nat.zero_add]
  exact hcell _ _ hv) f1
 rw [hnl] at hc
 have hrun:(execOp a.eval o).run P w = .ok (.value (.int .i64 (mn:Nat))) w':=by
  simp [execOp,h,resolve,invoke,builtin,r1.val,r2.val,hc]
 simp only [Oper.wp,hrun,Oper.upon]
 refine hN _ κ w' (st.weaken (fun k hk=>by subst hk; simp [Up.ws])) inv (by simp only [Rd]) (fun p hp=>?_)
 simp only [List.mem_singleton] at hp
 subst hp
 refine ⟨e0,b,cap,_,T,fr,e0,f2,by rw [Bl]; exact e3,by rw [Bl]; exact e4,e5,?_⟩
 rintro i z ⟨hi0,rfl⟩
 have hset:=H2 cs news (lo + 0)
 have hlen:(l.take lo ++ l.take mn ++ l.drop (lo + mn)).length = n:=by
  simp only [List.length_append,List.length_take,List.length_drop]; omega
 rw [hlen] at hi0
 have src:∀ j (hj:j < l.length),∃ u:Value,RdD (Own κ) w (e l[j]) u ∧ u.cells.size = 1 ∧ Ones u.cells.toList ∧ ∀ p,p < 1 → cs[j * 1 + p]? = u.cells[p]?:=fun j hj=>(e6 j (e l[j]) ⟨hj,rfl⟩).2
 by_cases hi1:i < lo
 ·obtain ⟨u,u1,u2,u3,u4⟩:=src i (by omega)
  refine ⟨hi0,u,?_,u2,u3,fun p hp=>?_⟩
  ·have:(l.take lo ++ l.take mn ++ l.drop (lo + mn))[i]'(by rw [hlen]; exact hi0) = l[i]'(by omega):=by
    rw [List.getElem_append_left (by simp only [List.length_append,List.length_take]; omega),List.getElem_append_left (by simp only [List.length_take]; omega),List.getElem_take]
   rw [this]
   exact RdD.keep st.keeps _ _ u1
  ·rw [hset _ (by omega),if_neg (by omega),u4 p hp]
 ·by_cases hi2:i < lo + mn
  ·obtain ⟨u,u1,u2,u3,u4⟩:=src (i - lo) (by omega)
   refine ⟨hi0,u,?_,u2,u3,fun p hp=>?_⟩
   ·have:(l.take lo ++ l.take mn ++ l.drop (lo + mn))[i]'(by rw [hlen]; exact hi0) = l[i - lo]'(by omega):=by
     rw [List.getElem_append_left (by simp only [List.length_append,List.length_take]; omega),List.getElem_append_right (by simp only [List.length_take]; omega),List.getElem_take]
     congr 1
     simp only [List.length_take]; omega
    rw [this]
    exact RdD.keep st.keeps _ _ u1
   ·rw [hset _ (by omega),if_pos (by omega),hget _ (by omega),← u4 p hp]
    congr 1
    omega
  ·obtain ⟨u,u1,u2,u3,u4⟩:=src i (by omega)
   refine ⟨hi0,u,?_,u2,u3,fun p hp=>?_⟩
   ·have:(l.take lo ++ l.take mn ++ l.drop (lo + mn))[i]'(by rw [hlen]; exact hi0) = l[i]'(by omega):=by
     rw [List.getElem_append_right (by simp only [List.length_append,List.length_take]; omega),List.getElem_drop]
     congr 1
     simp only [List.length_append,List.length_take]; omega
    rw [this]
    exact RdD.keep st.keeps _ _ u1
   ·rw [hset _ (by omega),if_neg (by omega),u4 p hp]
end Go.Sy
namespace Go.Sy.YtmelpejjondedaaGreat
open Go.Proofs
attribute [local irreducible] Go.Sy.G Go.Sy.DR
set_option maxRecDepth 100000
set_option maxHeartbeats 4000000
theorem Vl (m:Nat) (h:m < 4294967296):bits .and .u64 (m:Int) 4294967295 = (m:Int):=by
 have:=bits_and_u64_nat m 4294967295 (by omega) (by decide)
 rw [show ((4294967295:Nat):Int) = 4294967295 from rfl] at this
 rw [this]
 have h2:=Nat.and_two_pow_sub_one_eq_mod m 32
 rw [show 2 ^ 32 - 1 = 4294967295 from rfl,show 2 ^ 32 = 4294967296 from rfl] at h2
 rw [h2,Nat.mod_eq_of_lt h]
theorem Ab7 (m:Nat) (h:m < 4294967296):(m:Int).fdiv (2 ^ (min (Int.toNat 32) IntKind.u64.bits)) = 0:=by
 show (m:Int).fdiv 4294967296 = 0
 rw [Int.fdiv_eq_ediv_of_nonneg _ (by decide)]
 omega
theorem mul64S (m:Nat) (h:m < 4294967296):Sy.Spec Tryz.prog 154 [A7 1,A7 m] [] (.tup [A7 0,A7 m]) []:=Ab Γ hm 100 F154 Tryz.ntmps154 rfl fun F hF=>by
 have e0:bits .and .u64 1 4294967295 = 1:=Vl 1 (by decide)
 have e1:(1:Int).fdiv (2 ^ (min (Int.toNat 32) IntKind.u64.bits)) = 0:=Ab7 1 (by decide)
 have e2:=Vl m h
 have e3:=Ab7 m h
 have w1:IntKind.u64.wrap (1 * (m:Int)) = m:=by rw [IntKind.wrap_u64]; omega
 have w0:IntKind.u64.wrap (0 * (m:Int)) = 0:=by rw [IntKind.wrap_u64]; omega
 have z0:IntKind.u64.wrap (0 + 0) = 0:=rfl
 have a0:bits .and .u64 0 4294967295 = 0:=Vl 0 (by decide)
 have s0:(0:Int).fdiv (2 ^ (min (Int.toNat 32) IntKind.u64.bits)) = 0:=Ab7 0 (by decide)
 conv=>whnf
 rw [e0]
 refine ⟨by decide,?_⟩
 rw [e1]
 conv=>whnf
 rw [e2]
 refine ⟨by decide,?_⟩
 rw [e3]
 conv=>whnf
 rw [w1,w0]
 refine ⟨by decide,?_⟩
 rw [e3]
 conv=>whnf
 rw [z0,a0]
 refine ⟨by decide,?_⟩
 rw [s0]
 conv=>whnf
 refine ⟨by decide,?_⟩
 conv=>whnf
 refine Ac E (.cons .tmp (.cons .tmp .nil)) ?_ E
 refine congrArg (fun z:Int=>SV.tup [A7 0,A7 z]) ?_
 exact w1.symm
theorem mulS (m:Nat) (h:m < 4294967296):Sy.Spec Tryz.prog 83 [A7 1,A7 m] [] (.tup [A7 0,A7 m]) []:=Ab Γ hm 100 F83 Tryz.ntmps83 rfl fun F hF=>by
 ((conv=>whnf);refine aF ?_;refine rg ?_;conv=>whnf)
 refine Ag (mul64S m h) F154 E E E E E ?_
 refine rg ?_;conv=>whnf
 exact Ac E (.cons .tmp (.cons .tmp .nil)) E E
def H5 (m k:Nat):List Bool:=List.replicate k true ++ List.replicate (m - k) false
theorem Kp (m k:Nat) (h:k ≤ m):(H5 m k).length = m:=by simp [H5]; omega
theorem Ah9 (m:Nat):H5 m m = List.replicate m true:=by simp [H5]
theorem Afm (m k c:Nat) (h:k ≤ m) (hc:c = min k (m - k)):(H5 m k).take k ++ (H5 m k).take c ++ (H5 m k).drop (k + c) = H5 m (k + c):=by
 have e1:(H5 m k).take k = List.replicate k true:=by
  rw [H5,List.take_append_of_le_length (by simp)]; simp
 have e2:(H5 m k).take c = List.replicate c true:=by
  rw [H5,List.take_append_of_le_length (by simp; omega)]; simp; omega
 have e3:(H5 m k).drop (k + c) = List.replicate (m - (k + c)) false:=by
  rw [H5,List.drop_append,List.drop_eq_nil_of_le (by simp),List.nil_append]
  simp
  omega
 rw [e1,e2,e3,H5,List.replicate_append_replicate]
theorem Aed (m:Nat) (h:m < 2147483648):Sy.Spec Tryz.prog 43 [.sl 1 Ad [true],Aa m] [] (.sl 1 Ad (List.replicate m true)) []:=Ab Γ hm 100 F43 Tryz.ntmps43 rfl fun F hF=>by
 have hw:IntKind.u64.wrap (m:Int) = m:=by rw [IntKind.wrap_u64]; omega
 have hw2:IntKind.i64.wrap (m:Int) = m:=by rw [IntKind.wrap_i64]; omega
 have q:=mulS m (by omega)
 rw [← hw] at q
 ((conv=>whnf);refine aF ?_;refine rg ?_;conv=>whnf)
 refine Ag q F83 E E E E E ?_
 rw [hw]
 (refine rg ?_;(conv=>whnf);refine aF ?_;refine rg ?_;conv=>whnf)
 refine ⟨fun h1=>absurd (of_decide_eq_true h1) (by omega),fun _=>?_⟩
 refine rg ?_;conv=>whnf
 rw [hw2]
 refine Ai (Bv Γ.toTy (d:=30) (n:=m) Ad false E E E E E E E E (by omega) (by omega) E E E) E E ?_
 refine rg ?_;conv=>whnf
 refine Ai (Q0 Γ.toTy (l:=List.replicate m false) (m:=[true]) E E E E E .sl) E E ?_
 have e0:[true].take (List.replicate m false).length ++ (List.replicate m false).drop [true].length = H5 m (min 1 m):=by
  cases m with
  | zero=>rfl
  | succ m=>simp [H5,Nat.min_eq_left,List.replicate_succ]
 have e1:min [true].length (List.replicate m false).length = min 1 m:=by simp
 rw [e0,e1]
 refine rg ?_;conv=>whnf
 refine Al1 (fun k:Nat=>min 1 m ≤ k ∧ k ≤ m) (fun k=>[(7,.osl 30),(8,Aa k)]) (fun k=>[(30,.row 1 Ad (H5 m k))]) (fun k=>m - k) (min 1 m) [] (by omega) ⟨⟨E,E,E,E,Y⟩,⟨.inl E,E,Y⟩,E,E⟩ ?_
 intro k hk
 have hl:=Kp m k hk.2
 refine rg ?_;conv=>whnf
 refine ⟨fun h1=>?_,fun h1=>?_⟩
 ·have hlt:k < m:=by have:=of_decide_eq_true h1; rw [hl] at this; omega
  clear h1
  have hk1:1 ≤ k:=by omega
  have hne:H5 m k ≠ []:=fun e=>by rw [e] at hl; simp at hl; omega
  refine Ae2 30 [7] E hne (fun i hi=>by simp at hi; subst hi; rfl) ?_
  intro b cap hc
  rw [hl] at hc ⊢
  have hcl:¬ cap = k:=by omega
  have hcp:=Afm m k (min k (m - k)) hk.2 rfl
  refine rg ?_;conv=>whnf
  refine Bu (Ch (lo:=k) (hi:=m) Γ.toTy E E E E (.inr ⟨_,_,E,E⟩) (.inl ⟨E,E⟩) (by omega) (by omega)) (by kernel_rfl) E ?_
  refine rd (by kernel_rfl) ?_;conv=>whnf
  refine Bu (Ch (lo:=0) (hi:=k) Γ.toTy E E E E (.inl ⟨E,E⟩) (.inr ⟨_,_,E,E⟩) (by omega) (by omega)) (by kernel_rfl) E ?_
  refine rd (by kernel_rfl) ?_;conv=>whnf
  refine Bu (V7 Γ.toTy 30 (lo:=k) (k:=k) E E E E (by rw [if_neg hcl,Nat.mul_one]) E (by rw [if_neg (by omega),Nat.zero_mul]) E hl (by omega) (by omega)) (by kernel_rfl) E ?_
  refine rd (by kernel_rfl) ?_;conv=>whnf
  refine ⟨by unfold I64; omega,?_⟩
  conv=>whnf
  refine ⟨(by kernel_rfl),?_⟩
  conv=>whnf
  refine To 30 31 [7] m E E (by rw [hcp,Kp m _ (by omega)]; exact Nat.le_refl _) (fun i hi=>by simp at hi; subst hi; rfl) ?_
  have hfin:((H5 m k).take k ++ (H5 m k).take (min k (m - k)) ++ (H5 m k).drop (k + min k (m - k))).take m = H5 m (k + min k (m - k)):=by
   rw [hcp,List.take_of_length_le (by rw [Kp m _ (by omega)]; exact Nat.le_refl _)]
  exact Akh (k + min k (m - k)) [(30,31)] (by omega) (by omega) ⟨⟨E,E,E,E,Y⟩,⟨.inl (congrArg (Ob.row 1 Ad) hfin.symm),E,Y⟩,E,E⟩
 ·have hkm:k = m:=by have:=of_decide_eq_false h1; rw [hl] at this; omega
  subst hkm
  rw [Ah9]
  refine rg ?_;conv=>whnf
  refine At 30 E ?_
  exact Ac E (.cons .tmp .nil) E E
def Ej (t:List EntryM):SV:=.sl 3 As t
def Oj (l:List QueuedM):SV:=.sl 7 A4 l
def Oa (n:Net) (k:Nat) (now inj:Int) (d:Nat → Int):List SV :=
 [.sl 5 Bj n.devices,.sl 7 A9 n.ports,.sl 3 Cg n.links,.sl 6 Au n.domains,.sl 4 Bg n.statics,.sl 4 Bz n.floods,.sl 5 Cu n.vrfs,.sl 5 Dn n.irbs,.ptr k 0,.osl 2,.osl 3,.val (.int .i64 now),.val (.int .i64 inj),
 .val (.int .i64 (d 0)),.val (.int .i64 (d 1)),.val (.int .i64 (d 2)),.val (.int .i64 (d 3)),.val (.int .i64 (d 4)),.val (.int .i64 (d 5)),.val (.int .i64 (d 6)),.val (.int .i64 (d 7)),.val (.int .i64 (d 8)),.val (.int .i64 (d 9)),.val (.int .i64 (d 10)),.val (.int .i64 (d 11)),.val (.int .i64 (d 12)),.val (.int .i64 (d 13)),.val (.int .i64 (d 14)),.val (.int .i64 (d 15)),.val (.int .i64 (d 16)),.val (.int .i64 (d 17)),.val (.int .i64 (d 18)),.val (.int .i64 (d 19)),.val (.int .i64 (d 20)),.val (.int .i64 (d 21)),.val (.int .i64 (d 22)),.val (.int .i64 (d 23)),.val (.int .i64 (d 24)),.val (.int .i64 (d 25)),.val (.int .i64 (d 26)),.val (.int .i64 (d 27)),.val (.int .i64 (d 28)),.val (.int .i64 (d 29)),.val (.int .i64 (d 30)),.val (.int .i64 (d 31)),.val (.int .i64 (d 32)),.val (.int .i64 (d 33)),.val (.int .i64 (d 34)),.val (.int .i64 (d 35)),.val (.int .i64 (d 36)),.val (.int .i64 (d 37)),.val (.int .i64 (d 38)),.val (.int .i64 (d 39)),.val (.int .i64 (d 40)),.val (.int .i64 (d 41)),.val (.int .i64 (d 42)),.val (.int .i64 (d 43)),.val (.int .i64 (d 44)),.val (.int .i64 (d 45)),.val (.int .i64 (d 46)),.val (.int .i64 (d 47)),.val (.int .i64 (d 48)),.val (.int .i64 (d 49)),.val (.int .i64 (d 50)),.val (.int .i64 (d 51)),.val (.int .i64 (d 52)),.val (.int .i64 (d 53)),.val (.int .i64 (d 54)),.val (.int .i64 (d 55)),.val (.int .i64 (d 56)),.val (.int .i64 (d 57)),.val (.int .i64 (d 58)),.val (.int .i64 (d 59)),.val (.int .i64 (d 60)),.val (.int .i64 (d 61)),.val (.int .i64 (d 62)),.val (.int .i64 (d 63))]
def onceL (up:List Bool) (done:Int) (fw:List Bool):List SV:=[.sl 1 Ad up,.val (.int .u32 done),.val (.int .i32 0),.val (.int .u32 0),.sl 1 Ad fw]
def Io (n:Net) (up:List Bool) (d:Bool):List SV:=onceL up (if d then 1 else 0) (if d then I2 n up else [])
def B6 (n:Net) (m:MacM) (d:Bool):Obs:=[(0,.box (Oa n 1 m.now m.injected m.drops)),(1,.box (Io n m.up d)),(2,.row 1 Ej m.tables),(3,.row 1 Oj m.queues)]
theorem getI_map (f:Nat → SV):∀ (k a n:Nat),k < n → Dm ((List.range' a n).map f) k = some (f (a + k))
 | 0,a,n + 1,_=>rfl
 | k + 1,a,n + 1,h=>by
  show Dm ((List.range' (a + 1) n).map f) k = _
  rw [getI_map f k (a + 1) n (by omega)]
  congr 2; omega
theorem Ad8 (f:Nat → SV) (x:SV):∀ (k a n:Nat),((List.range' a n).map f).set k x = (List.range' a n).map (fun i=>if i = a + k then x else f i)
 | _,_,0=>rfl
 | 0,a,n + 1=>by
  show x :: (List.range' (a + 1) n).map f = (if a = a + 0 then x else f a) :: (List.range' (a + 1) n).map _
  rw [if_pos (by omega)]
  congr 1
  apply List.map_congr_left
  intro i hi
  have:=(List.mem_range'_1.1 hi).1
  rw [if_neg (by omega)]
 | k + 1,a,n + 1=>by
  show f a :: ((List.range' (a + 1) n).map f).set k x = (if a = a + (k + 1) then x else f a) :: (List.range' (a + 1) n).map _
  rw [if_neg (by omega),Ad8 f x k (a + 1) n]
  congr 1
  apply List.map_congr_left
  intro i _
  rw [show a + 1 + k = a + (k + 1) by omega]
theorem Mq (n:Net) (k:Nat) (now inj:Int) (d:Nat → Int):Oa n k now inj d =
  .sl 5 Bj n.devices :: .sl 7 A9 n.ports :: .sl 3 Cg n.links :: .sl 6 Au n.domains :: .sl 4 Bg n.statics :: .sl 4 Bz n.floods :: .sl 5 Cu n.vrfs :: .sl 5 Dn n.irbs :: .ptr k 0 :: .osl 2 :: .osl 3 :: .val (.int .i64 now) :: .val (.int .i64 inj) ::
   (List.range' 0 64).map (fun i=>.val (.int .i64 (d i))):=rfl
theorem Ahz (n:Net) (k:Nat) (now inj:Int) (d:Nat → Int) (e:Nat) (he:e < 64):Dm (Oa n k now inj d) (13 + e) = some (.val (.int .i64 (d e))):=by
 rw [Mq,Nat.add_comm]
 show Dm ((List.range' 0 64).map (fun i=>SV.val (.int .i64 (d i)))) e = _
 rw [getI_map _ e 0 64 he,Nat.zero_add]
theorem Ahy (n:Net) (k:Nat) (now inj:Int) (d:Nat → Int) (e:Nat) (v:Int):(Oa n k now inj d).set (13 + e) (.val (.int .i64 v)) = Oa n k now inj (fun i=>if i = e then v else d i):=by
 rw [Mq,Mq,Nat.add_comm]
 have h:=Ad8 (fun i=>SV.val (.int .i64 (d i))) (.val (.int .i64 v)) e 0 64
 have h2:(fun i=>if i = 0 + e then SV.val (.int .i64 v) else SV.val (.int .i64 (d i))) = (fun i=>SV.val (.int .i64 (if i = e then v else d i))):=by
  funext i
  rw [Nat.zero_add]
  split <;> rfl
 rw [h2] at h
 rw [← h]
 rfl
theorem add64 (a:Addr) (x y:Int) (w:World) (hc:w.cell? a = some (.int .i64 x)) (hz:w.frozen? a = false):(callFunc 257 #[.pointer (some a),.int .i64 y]).run Tryz.prog w = .ok (.value (.int .i64 (IntKind.i64.wrap (x + y)))) (w.setCell a (.int .i64 (IntKind.i64.wrap (x + y)))) :=
 run_call_add Tryz.func257 (by kernel_rfl) (by kernel_rfl) (by kernel_rfl) .i64 (by kernel_rfl) hc hz rfl
theorem Afi (n:Net) (k:Nat) (m:MacM) (e:Int):Oa n k m.now m.injected (B0 m e).drops = (Oa n k m.now m.injected m.drops).set (13 + e.toNat) (.val (.int .i64 (m.drops e.toNat + 1))):=by
 rw [Ahy]
 congr 1
 funext i
 show (if i = e.toNat then m.drops i + 1 else m.drops i) = _
 split
 ·rename_i h; rw [h]
 ·rfl
theorem Ado {x:Int} (h:0 ≤ x ∧ x ≤ 1000000000000):IntKind.i64.wrap (x + 1) = x + 1:=by
 rw [IntKind.wrap_i64]; omega
theorem Adx (n:Net) (m:MacM) (d:Bool) (e:Int) (h0:0 ≤ e) (h1:e < 64) (hb:IntKind.i64.wrap (m.drops e.toNat + 1) = m.drops e.toNat + 1) :
  Sy.Spec Tryz.prog 181 [.ptr 0 (13 + e.toNat),Aa 1] (B6 n m d) (Aa (m.drops e.toNat + 1)) (B6 n (B0 m e) d):=Ab Γ hm 100 F181 Tryz.ntmps181 rfl fun F hF=>by
 have hg:=Ahz n 1 m.now m.injected m.drops e.toNat (by omega)
 have hs:=Afi n 1 m e
 have hlt:=Tk hg
 conv=>whnf
 refine Ai (Yh add64 E E E E hg hb) E E ?_
 refine rg ?_;conv=>whnf
 exact done E (.cons .tmp .nil) [] (B6 n (B0 m e) d) (fun _ h=>h) E E ⟨Y,⟨.inl (congrArg Ob.box hs),E,.inl E,E,.inl E,E,.inl E,E,Y⟩,E,E⟩
theorem Aa8 (n:Net) (m:MacM) (d:Bool) (e:Int) (h0:0 ≤ e) (h1:e < 64) (hb:0 ≤ m.drops e.toNat ∧ m.drops e.toNat ≤ 1000000000000) :
  Sy.Spec Tryz.prog 104 [.ptr 0 0,Aa e] (B6 n m d) (.tup []) (B6 n (B0 m e) d):=Ab Γ hm 100 F104 Tryz.ntmps104 rfl fun F hF=>by
 conv=>whnf
 refine ⟨h0,by omega,?_⟩
 refine rg ?_;conv=>whnf
 refine Ai (Ah [] E F181 (Adx n m d e h0 h1 (Ado hb)) (congrArg (fun z=>[SV.ptr 0 z,Aa 1]) (show 13 + e.toNat = 0 + 13 + e.toNat * 1 by omega)) ⟨E,E,E,E,Y⟩ E ⟨.inl E,.inl E,.inl E,.inl E,Y⟩) E E ?_
 refine rg ?_;conv=>whnf
 exact Bi E .nil [] (B6 n (B0 m e) d) (fun _ h=>h) E E ⟨Y,⟨.inl E,E,.inl E,E,.inl E,E,.inl E,E,Y⟩,E,E⟩
theorem Xq (n:Net) (m:MacM) (d:Bool) (dom:Int) :
  Sy.Spec Tryz.prog 46 [.ptr 0 0,Aa dom] (B6 n m d) (Ad (Aj dom m.queues.length)) (B6 n m d):=Ab Γ hm 100 F46 Tryz.ntmps46 rfl fun F hF=>by
 have hres:Aj dom m.queues.length = (decide (0 ≤ dom) && decide (dom < m.queues.length)):=rfl
 generalize Aj dom m.queues.length = res at *
 ((conv=>whnf);refine aT ?_;refine rg ?_;conv=>whnf)
 refine ⟨fun h=>?_,fun h=>?_⟩
 ·refine rg ?_;conv=>whnf
  (skip)
  refine done E (.cons .tmp .nil) [] (B6 n m d) (fun _ h=>h) ?_ E ⟨Y,⟨.inl E,E,.inl E,E,.inl E,E,.inl E,E,Y⟩,E,E⟩
  rw [hres,h]
  rfl
 ·refine rg ?_;conv=>whnf
  (skip)
  refine done E (.cons .tmp .nil) [] (B6 n m d) (fun _ h=>h) ?_ E ⟨Y,⟨.inl E,E,.inl E,E,.inl E,E,.inl E,E,Y⟩,E,E⟩
  rw [hres,h]
  rfl
theorem Th (a b:Nat) (ha:a < 4294967296) (hb:b < 4294967296):bits .or .u32 (a:Int) (b:Int) = ((a ||| b:Nat):Int):=by
 have hx:a ||| b < 2 ^ 32:=Nat.or_lt_two_pow (by omega) (by omega)
 have h1:(BitVec.ofInt 32 (a:Int)).toNat = a:=by
  rw [BitVec.ofInt_natCast,BitVec.toNat_ofNat]; exact Nat.mod_eq_of_lt (by omega)
 have h2:(BitVec.ofInt 32 (b:Int)).toNat = b:=by
  rw [BitVec.ofInt_natCast,BitVec.toNat_ofNat]; exact Nat.mod_eq_of_lt (by omega)
 show IntKind.u32.wrap ((BitVec.ofInt 32 (a:Int) ||| BitVec.ofInt 32 (b:Int)).toNat:Int) = _
 rw [BitVec.toNat_or,h1,h2,IntKind.wrap_u32]
 omega
theorem Aev (x:UInt8) (k:UInt8):((x.toNat:Int) != (k.toNat:Int)) = decide (x ≠ k):=by
 rw [Bool.eq_iff_iff]
 simp only [bne_iff_ne,decide_eq_true_eq,ne_eq,← UInt8.toNat_inj]
 omega
theorem Ov (b:List UInt8) (k:Nat) (h:k + 2 ≤ b.length) (hb:b.length < 100000):Sy.Spec Tryz.prog 294 [.sl 1 Al b,Aa k] [] (Aa (numAt b k 2)) []:=Ab Γ hm 100 F294 Tryz.ntmps294 rfl fun F hF=>by
 have i0:((k:Nat):Int).toNat < b.length:=by simpa using (by omega:k < b.length)
 have i1:((k:Int) + 1).toNat < b.length:=by omega
 have e0:b[((k:Nat):Int).toNat]'i0 = b[k]'(by omega):=rfl
 have e1:b[((k:Int) + 1).toNat]'i1 = b[k + 1]'(by omega):=rfl
 have hp:=D0 (b[k]'(by omega)) (b[k + 1]'(by omega))
 have hn:=Mr h
 rw [← hn] at hp
 conv=>whnf
 refine ⟨E,by omega,i0,?_⟩
 rw [e0]
 conv=>whnf
 refine ⟨by decide,?_⟩
 conv=>whnf
 refine ⟨by unfold I64; omega,?_⟩
 conv=>whnf
 refine ⟨E,by omega,i1,?_⟩
 rw [e1]
 conv=>whnf
 refine ⟨(by kernel_rfl),?_⟩
 rw [hp]
 conv=>whnf
 exact Ac E (.cons .tmp .nil) E E
theorem Ahi (x y:Nat) (hx:x < 65536) (hy:y < 65536):bits .or .u32 (IntKind.u32.wrap ((IntKind.u32.wrap (x:Int)) * 2 ^ min (Int.toNat 16) IntKind.u32.bits)) (IntKind.u32.wrap (y:Int)) = ((x * 65536 + y:Nat):Int):=by
 have e1:IntKind.u32.wrap (x:Int) = (x:Int):=by rw [IntKind.wrap_u32]; omega
 have e2:IntKind.u32.wrap (y:Int) = (y:Int):=by rw [IntKind.wrap_u32]; omega
 rw [e1,e2]
 have e3:IntKind.u32.wrap ((x:Int) * 2 ^ min (Int.toNat 16) IntKind.u32.bits) = ((x * 65536:Nat):Int):=by
  show IntKind.u32.wrap ((x:Int) * 65536) = _
  rw [IntKind.wrap_u32]
  omega
 rw [e3,Th _ _ (by omega) (by omega)]
 congr 1
 have h:=Nat.two_pow_add_eq_or_of_lt (i:=16) (b:=y) (by omega) x
 rw [Nat.mul_comm x 65536]
 exact h.symm
theorem Ael (b:List UInt8) (k:Nat) (h:k + 4 ≤ b.length) (hb:b.length < 100000):Sy.Spec Tryz.prog 296 [.sl 1 Al b,Aa k] [] (Cf (numAt b k 4)) []:=Ab Γ hm 100 F296 Tryz.ntmps296 rfl fun F hF=>by
 have q1:=Ov b k (by omega) hb
 have q2:=Ov b (k + 2) (by omega) hb
 rw [show ((k + 2:Nat):Int) = (k:Int) + 2 by omega] at q2
 have hf:=Ahi (numAt b k 2) (numAt b (k + 2) 2) (by have:=Ja b k 2; omega) (by have:=Ja b (k + 2) 2; omega)
 rw [← numAt4 h] at hf
 conv=>whnf
 refine Ag q1 F294 E E E E E ?_
 refine rg ?_;conv=>whnf
 refine ⟨by decide,?_⟩
 conv=>whnf
 refine ⟨by unfold I64; omega,?_⟩
 conv=>whnf
 refine Ag q2 F294 E E E E E ?_
 refine rg ?_;conv=>whnf
 rw [hf]
 exact Ac E (.cons .tmp .nil) E E
theorem Afa (l:List UInt8) (hl:l.length < 100000) (h2:l.length % 2 = 0):Sy.Spec Tryz.prog 295 [.sl 1 Al l] [] (Ad (decide (Ez (M4 l (l.length / 2)) = 65535))) []:=Ab Γ hm 100 F295 Tryz.ntmps295 rfl fun F hF=>by
 have ha:=Ad6 l hl h2
 conv=>whnf
 refine Ag ha F329 E E E E E ?_
 refine rg ?_;conv=>whnf
 refine Ac E (.cons .tmp .nil) (congrArg Ad ?_) E
 rw [Bool.eq_iff_iff]
 simp only [beq_iff_eq,decide_eq_true_eq]
 omega
abbrev zP:List SV:=[Aa 0,Aa 0,Aa 0,Aa 0,Cf 0,Cf 0,.sl 1 Al []]
theorem Aej (b:List UInt8) (hb:b.length < 100000):Sy.Spec Tryz.prog 245 [.sl 1 Al b] [] (.tup [Ol (ipTakeT b).1,Aa (ipTakeT b).2]) []:=Ab Γ hm 100 F245 Tryz.ntmps245 rfl fun F hF=>by
 have hres:=ipTakeT.eq_1 b
 generalize ipTakeT b = res at *
 conv=>whnf
 refine ⟨fun h=>?_,fun h=>?_⟩
 ·rw [if_pos (by have:=of_decide_eq_true h; omega)] at hres
  subst hres
  refine rg ?_;conv=>whnf
  refine A1 2 zP E (.cons (.refl _) (.cons (.refl _) (.cons (.refl _) (.cons (.refl _) (.cons (.refl _) (.cons (.refl _) (.cons .nil .nil))))))) ?_
  exact Ac E (.cons (.cell E E E E) (.cons .tmp .nil)) E E
 have h20:20 ≤ b.length:=by have:=of_decide_eq_false h; omega
 rw [if_neg (by omega)] at hres
 clear h
 have i0:(0:Int).toNat < b.length:=by show 0 < _; omega
 have i1:(1:Int).toNat < b.length:=by show 1 < _; omega
 have i8:(8:Int).toNat < b.length:=by show 8 < _; omega
 have i9:(9:Int).toNat < b.length:=by show 9 < _; omega
 have e0:b[(0:Int).toNat]'i0 = bAt b 0:=(Y3 (by omega)).symm
 have q2:=Ov b 2 (by omega) hb
 have q4:=Ov b 4 (by omega) hb
 have q6:=Ov b 6 (by omega) hb
 have q12:=Ael b 12 (by omega) hb
 have q16:=Ael b 16 (by omega) hb
 have hl20:(b.take 20).length = 20:=by rw [List.length_take]; omega
 have hdiv:(b.take 20).length / 2 = 10:=by rw [hl20]
 have qs:=Afa (b.take 20) (by omega) (by rw [hl20])
 rw [hdiv] at qs
 refine rg ?_;conv=>whnf
 refine ⟨E,by decide,i0,?_⟩
 rw [e0]
 conv=>whnf
 refine ⟨fun h=>?_,fun h=>?_⟩
 ·rw [if_pos (.inl (by rw [show ((69:Int)) = ((69:UInt8).toNat:Int) from rfl,Aev] at h; exact of_decide_eq_true h))] at hres
  subst hres
  (refine rg ?_;(conv=>whnf);refine aT ?_;refine rg ?_;conv=>whnf)
  refine A1 2 zP E (.cons (.refl _) (.cons (.refl _) (.cons (.refl _) (.cons (.refl _) (.cons (.refl _) (.cons (.refl _) (.cons .nil .nil))))))) ?_
  exact Ac E (.cons (.cell E E E E) (.cons .tmp .nil)) E E
 have h69:¬ bAt b 0 ≠ 69:=by rw [show ((69:Int)) = ((69:UInt8).toNat:Int) from rfl,Aev] at h; exact of_decide_eq_false h
 clear h
 refine rg ?_;conv=>whnf
 refine Ag q2 F294 E E E E E ?_
 refine rg ?_;conv=>whnf
 refine ⟨fun h=>?_,fun h=>?_⟩
 ·rw [if_pos (.inr (by have:=of_decide_eq_true h; omega))] at hres
  subst hres
  refine rg ?_;conv=>whnf
  refine A1 2 zP E (.cons (.refl _) (.cons (.refl _) (.cons (.refl _) (.cons (.refl _) (.cons (.refl _) (.cons (.refl _) (.cons .nil .nil))))))) ?_
  exact Ac E (.cons (.cell E E E E) (.cons .tmp .nil)) E E
 have hs20:20 ≤ numAt b 2 2:=by have:=of_decide_eq_false h; omega
 rw [if_neg (fun h=>h.elim h69 (by omega))] at hres
 clear h
 refine rg ?_;conv=>whnf
 refine Ag q2 F294 E E E E E ?_
 refine rg ?_;conv=>whnf
 refine ⟨fun h=>?_,fun h=>?_⟩
 ·rw [if_pos (by have:=of_decide_eq_true h; omega)] at hres
  subst hres
  refine rg ?_;conv=>whnf
  refine A1 2 zP E (.cons (.refl _) (.cons (.refl _) (.cons (.refl _) (.cons (.refl _) (.cons (.refl _) (.cons (.refl _) (.cons .nil .nil))))))) ?_
  exact Ac E (.cons (.cell E E E E) (.cons .tmp .nil)) E E
 have hsl:numAt b 2 2 ≤ b.length:=by have:=of_decide_eq_false h; omega
 rw [if_neg (by omega)] at hres
 clear h
 refine rg ?_;conv=>whnf
 refine Ag q6 F294 E E E E E ?_
 refine rg ?_;conv=>whnf
 refine ⟨fun h=>?_,fun h=>?_⟩
 ·rw [if_pos (by have:(numAt b 6 2:Int) ≠ 0:=(by simpa using h); omega)] at hres
  subst hres
  refine rg ?_;conv=>whnf
  refine A1 2 zP E (.cons (.refl _) (.cons (.refl _) (.cons (.refl _) (.cons (.refl _) (.cons (.refl _) (.cons (.refl _) (.cons .nil .nil))))))) ?_
  exact Ac E (.cons (.cell E E E E) (.cons .tmp .nil)) E E
 rw [if_neg (by have:(numAt b 6 2:Int) = 0:=(by simpa using h); omega)] at hres
 clear h
 refine rg ?_;conv=>whnf
 refine Ai (Ci (lo:=0) (hi:=20) Γ.toTy E E E E (.inl ⟨E,E⟩) (.inr ⟨_,_,E,E⟩) (by omega) h20) E E ?_
 refine rg ?_;conv=>whnf
 refine Ag qs F295 E E E E E ?_
 by_cases hsum:Ez (M4 (b.take 20) 10) = 65535
 rotate_left
 ·rw [if_pos hsum] at hres
  subst hres
  rw [decide_eq_false hsum]
  (refine rg ?_;(conv=>whnf);refine aT ?_;refine rg ?_;conv=>whnf)
  refine A1 2 zP E (.cons (.refl _) (.cons (.refl _) (.cons (.refl _) (.cons (.refl _) (.cons (.refl _) (.cons (.refl _) (.cons .nil .nil))))))) ?_
  exact Ac E (.cons (.cell E E E E) (.cons .tmp .nil)) E E
 rw [if_neg (fun h=>h hsum)] at hres
 subst hres
 rw [decide_eq_true hsum]
 have qc:=E5 ((b.take (numAt b 2 2)).drop 20) (by rw [List.length_drop,List.length_take]; omega)
 have w1:IntKind.i64.wrap ((b[(1:Int).toNat]'i1).toNat:Int) = ((bAt b 1).toNat:Int):=by
  rw [Y3 (show 1 < b.length by omega)]
  have:=(b[1]'(by omega)).toNat_lt
  show IntKind.i64.wrap ((b[1]'(by omega)).toNat:Int) = _
  rw [IntKind.wrap_i64]; omega
 have w8:IntKind.i64.wrap ((b[(8:Int).toNat]'i8).toNat:Int) = ((bAt b 8).toNat:Int):=by
  rw [Y3 (show 8 < b.length by omega)]
  have:=(b[8]'(by omega)).toNat_lt
  show IntKind.i64.wrap ((b[8]'(by omega)).toNat:Int) = _
  rw [IntKind.wrap_i64]; omega
 have w9:IntKind.i64.wrap ((b[(9:Int).toNat]'i9).toNat:Int) = ((bAt b 9).toNat:Int):=by
  rw [Y3 (show 9 < b.length by omega)]
  have:=(b[9]'(by omega)).toNat_lt
  show IntKind.i64.wrap ((b[9]'(by omega)).toNat:Int) = _
  rw [IntKind.wrap_i64]; omega
 (refine rg ?_;(conv=>whnf);refine aF ?_;refine rg ?_;conv=>whnf)
 refine ⟨E,by decide,i1,?_⟩
 conv=>whnf
 refine Ay q4 F294 E E E (by kernel_rfl) E ?_
 refine rd (by kernel_rfl) ?_;conv=>whnf
 refine ⟨E,by decide,i8,?_⟩
 conv=>whnf
 refine ⟨E,by decide,i9,?_⟩
 conv=>whnf
 refine Ay q12 F296 E E E (by kernel_rfl) E ?_
 refine rd (by kernel_rfl) ?_;conv=>whnf
 refine Ay q16 F296 E E E (by kernel_rfl) E ?_
 refine rd (by kernel_rfl) ?_;conv=>whnf
 refine Ay q2 F294 E E E (by kernel_rfl) E ?_
 refine rd (by kernel_rfl) ?_;conv=>whnf
 refine Bu (Ci (lo:=20) (hi:=numAt b 2 2) Γ.toTy E E E E (.inr ⟨_,_,E,E⟩) (.inr ⟨_,_,E,E⟩) hs20 hsl) (by kernel_rfl) E ?_
 refine rd (by kernel_rfl) ?_;conv=>whnf
 refine Ay qc F63 E E E (by kernel_rfl) E ?_
 refine rd (by kernel_rfl) ?_;conv=>whnf
 refine ⟨(by kernel_rfl),?_⟩
 conv=>whnf
 refine Ac E (.cons (.cell E E E E) (.cons .tmp .nil)) ?_ E
 show SV.tup [.agg [Aa (bAt b 1).toNat,_,Aa (bAt b 8).toNat,Aa (bAt b 9).toNat,_,_,_],_] = SV.tup [.agg [Aa (IntKind.i64.wrap ((b[(1:Int).toNat]'i1).toNat:Int)),_,Aa (IntKind.i64.wrap ((b[(8:Int).toNat]'i8).toNat:Int)),Aa (IntKind.i64.wrap ((b[(9:Int).toNat]'i9).toNat:Int)),_,_,_],_]
 rw [w1,w8,w9]
 rfl
theorem Ail (t:Nat) (h:t ≤ 255):bits .or .i64 17664 (t:Int) = ((17664 + t:Nat):Int):=by
 have h1:=Cs 17664 t (by decide) (by omega)
 rw [show ((17664:Nat):Int) = 17664 from rfl] at h1
 rw [h1]
 congr 1
 have h2:=Nat.two_pow_add_eq_or_of_lt (i:=8) (b:=t) (by omega) 69
 rw [show 2 ^ 8 * 69 = 17664 from rfl] at h2
 rw [← h2]
theorem Ak4 (x y:Nat) (hx:x ≤ 255) (hy:y ≤ 255):bits .or .i64 (IntKind.i64.wrap ((x:Int) * 2 ^ min (Int.toNat 8) IntKind.i64.bits)) (y:Int) = ((x * 256 + y:Nat):Int):=by
 have h3:IntKind.i64.wrap ((x:Int) * 2 ^ min (Int.toNat 8) IntKind.i64.bits) = ((x * 256:Nat):Int):=by
  show IntKind.i64.wrap ((x:Int) * 256) = _
  rw [IntKind.wrap_i64]
  omega
 rw [h3,Cs _ _ (by omega) (by omega)]
 congr 1
 have h:=Nat.two_pow_add_eq_or_of_lt (i:=8) (b:=y) (by omega) x
 rw [Nat.mul_comm x 256]
 exact h.symm
theorem Aau (x:Nat) (h:x < 4294967296):IntKind.i64.wrap ((x:Int).fdiv (2 ^ (min (Int.toNat 16) IntKind.u32.bits))) = ((x / 65536:Nat):Int):=by
 show IntKind.i64.wrap ((x:Int).fdiv 65536) = _
 rw [Int.fdiv_eq_ediv_of_nonneg _ (by decide),IntKind.wrap_i64]
 omega
theorem Aeh (x:Nat) (h:x < 4294967296):IntKind.i64.wrap (x:Int) = (x:Int):=by rw [IntKind.wrap_i64]; omega
theorem Aek (p:PacketM) (hp:PacketOK p) (hb:p.body.length < 100000):Sy.Spec Tryz.prog 248 [Ol p] [] (.tup [.sl 1 Al (ipPutT p).1,Aa (ipPutT p).2]) []:=Ab Γ hm 100 F248 Tryz.ntmps248 rfl fun F hF=>by
 have hres:=ipPutT.eq_1 p
 generalize ipPutT p = res at *
 have h1:=hp.tos
 have h2:=hp.id
 have h3:=hp.ttl
 have h4:=hp.proto
 have h5:=hp.src
 have h6:=hp.dst
 conv=>whnf
 refine Du ⟨⟨_,_,F303⟩,Xp p.tos 255 (by omega)⟩ E E E E E E ?_
 (refine rg ?_;(conv=>whnf);refine aF ?_;refine rg ?_;conv=>whnf)
 refine Du ⟨⟨_,_,F303⟩,Xp p.ttl 255 (by omega)⟩ E E E E E E ?_
 (refine rg ?_;(conv=>whnf);refine aF ?_;refine rg ?_;conv=>whnf)
 refine Du ⟨⟨_,_,F303⟩,Xp p.proto 255 (by omega)⟩ E E E E E E ?_
 (refine rg ?_;(conv=>whnf);refine aF ?_;refine rg ?_;conv=>whnf)
 refine Du ⟨⟨_,_,F303⟩,Xp p.id 65535 (by omega)⟩ E E E E E E ?_
 (refine rg ?_;(conv=>whnf);refine aF ?_;refine rg ?_;conv=>whnf)
 refine ⟨fun h=>?_,fun h=>?_⟩
 ·rw [if_pos (by have:=of_decide_eq_true h; omega)] at hres
  subst hres
  refine rg ?_;conv=>whnf
  refine Ao 2 1 Al E ?_
  exact Ac E (.cons .tmp (.cons .tmp .nil)) E E
 have hl:p.body.length ≤ 1480:=by have:=of_decide_eq_false h; omega
 rw [if_neg (by omega)] at hres
 subst hres
 clear h
 have hsz:Ta p = ((Hl p 0).set 10 (UInt8.ofNat (Wy p / 256))).set 11 (UInt8.ofNat (Wy p)) ++ p.body:=by rw [Ac8,Ta]
 rw [hsz]
 have hil:=Md p 0
 have hs:=sumOfS (Hl p 0) (by rw [hil]; decide) (by rw [hil])
 have hput:=Ai9 [17664 + p.tos,20 + p.body.length,p.id,0,p.ttl * 256 + p.proto,0,p.src / 65536,p.src,p.dst / 65536,p.dst] (by simp)
 rw [show Ia [17664 + p.tos,20 + p.body.length,p.id,0,p.ttl * 256 + p.proto,0,p.src / 65536,p.src,p.dst / 65536,p.dst] = Hl p 0 from rfl] at hput
 have hss:Ad5 (Hl p 0) = Wy p:=rfl
 rw [hss] at hs
 have hsl:Wy p ≤ 65535:=Nat.sub_le _ _
 generalize Wy p = s at *
 have htb:=Dv s
 have o1:=Ail p.tos h1
 have o2:=Ak4 p.ttl p.proto h3 h4
 have g1:=Aau p.src h5
 have g2:=Aeh p.src h5
 have g3:=Aau p.dst h6
 have g4:=Aeh p.dst h6
 generalize Hl p 0 = b at *
 refine rg ?_;conv=>whnf
 refine ⟨by unfold I64; omega,?_⟩
 conv=>whnf
 refine ⟨by decide,?_⟩
 conv=>whnf
 refine ⟨by decide,?_⟩
 conv=>whnf
 refine ⟨by decide,?_⟩
 conv=>whnf
 refine Abs 68 (e:=Aix) (l:=[17664 + p.tos,20 + p.body.length,p.id,0,p.ttl * 256 + p.proto,0,p.src / 65536,p.src,p.dst / 65536,p.dst]) E ?_ ?_
 ·show _ = [SV.val (.int .i64 (bits .or .i64 17664 (p.tos:Int))),SV.val _,SV.val _,SV.val _,SV.val (.int .i64 (bits .or .i64 (IntKind.i64.wrap ((p.ttl:Int) * 2 ^ min (Int.toNat 8) IntKind.i64.bits)) (p.proto:Int))),SV.val _,
   SV.val (.int .i64 (IntKind.i64.wrap ((p.src:Int).fdiv (2 ^ (min (Int.toNat 16) IntKind.u32.bits))))),SV.val (.int .i64 (IntKind.i64.wrap (p.src:Int))),SV.val (.int .i64 (IntKind.i64.wrap ((p.dst:Int).fdiv (2 ^ (min (Int.toNat 16) IntKind.u32.bits))))),SV.val (.int .i64 (IntKind.i64.wrap (p.dst:Int)))]
  rw [o1,o2,g1,g2,g3,g4]
  rfl
 refine At 68 E ?_
 refine Ai (Ah [(0,69)] E F304 hput E Y E ⟨.inr E,Y⟩) E E ?_
 refine rg ?_;conv=>whnf
 refine Aeu [69] hs F305 E (.cons (.row E E) .nil) E E E ?_
 refine rg ?_;conv=>whnf
 have hb1:=(List.cons.inj htb).1
 have hb2:=(List.cons.inj (List.cons.inj htb).2).1
 refine ⟨by omega,?_⟩
 conv=>whnf
 refine ⟨by decide,by rw [hil]; decide,?_⟩
 conv=>whnf
 refine ⟨E,by rw [hil]; decide,UInt8.ofNat (s / 256),congrArg (fun z=>[z]) hb1,E,?_⟩
 conv=>whnf
 refine ⟨by decide,by simp [hil],?_⟩
 conv=>whnf
 refine ⟨E,by simp [hil],UInt8.ofNat s,congrArg (fun z=>[z]) hb2,E,?_⟩
 conv=>whnf
 refine Ai (Ak Γ.toTy 84 E E E E E (.row E) .sl (by decide) (by simp [hil]; omega) (by simp [hil]; omega)) E E ?_
 refine At 84 E ?_
 refine rg ?_;conv=>whnf
 exact Ac E (.cons .tmp (.cons .tmp .nil)) E E
def hop1 (p:PacketM):PacketM × Int:=if p.ttl ≤ 1 then (noP,13) else (Adb p,0)
theorem ipHopS (p:PacketM) (hb:p.body.length < 100000) (ht:p.ttl ≤ 255):Sy.Spec Tryz.prog 246 [Ol p] [] (.tup [Ol (hop1 p).1,Aa (hop1 p).2]) []:=Ab Γ hm 100 F246 Tryz.ntmps246 rfl fun F hF=>by
 have hres:=hop1.eq_1 p
 generalize hop1 p = res at *
 have qc:=E5 p.body (by omega)
 conv=>whnf
 refine ⟨fun h=>?_,fun h=>?_⟩
 ·rw [if_pos (by have:=of_decide_eq_true h; omega)] at hres
  subst hres
  refine rg ?_;conv=>whnf
  refine A1 2 zP E (.cons (.refl _) (.cons (.refl _) (.cons (.refl _) (.cons (.refl _) (.cons (.refl _) (.cons (.refl _) (.cons .nil .nil))))))) ?_
  exact Ac E (.cons (.cell E E E E) (.cons .tmp .nil)) E E
 have h2:¬ p.ttl ≤ 1:=by have:=of_decide_eq_false h; omega
 rw [if_neg h2] at hres
 subst hres
 have e:((p.ttl - 1:Nat):Int) = (p.ttl:Int) - 1:=by omega
 refine rg ?_;conv=>whnf
 refine ⟨by unfold I64; omega,?_⟩
 conv=>whnf
 refine Ag qc F63 E E E E E ?_
 refine rg ?_;conv=>whnf
 refine Ac E (.cons (.cell E E E E) (.cons .tmp .nil)) ?_ E
 show SV.tup [.agg [_,_,Aa ((p.ttl - 1:Nat):Int),_,_,_,_],_] = SV.tup [.agg [_,_,Aa ((p.ttl:Int) - 1),_,_,_,_],_]
 rw [e]
 rfl
def udpU (b:List UInt8):Nat → List SV
 | 0=>[Aa 0,Aa 0,Aa 0,Aa 0]
 | 1=>[Aa (numAt b 0 2),Aa 0,Aa 0,Aa 0]
 | 2=>[Aa (numAt b 0 2),Aa (numAt b 2 2),Aa 0,Aa 0]
 | 3=>[Aa (numAt b 0 2),Aa (numAt b 2 2),Aa (numAt b 4 2),Aa 0]
 | _=>[Aa (numAt b 0 2),Aa (numAt b 2 2),Aa (numAt b 4 2),Aa (numAt b 6 2)]
theorem Ahf (b:List UInt8) (hb:b.length < 100000):Sy.Spec Tryz.prog 339 [.sl 1 Al b] [] (.tup [Aa (udpTakeT b).1,Aa (udpTakeT b).2.1,.sl 1 Al (udpTakeT b).2.2.1,Aa (udpTakeT b).2.2.2]) []:=Ab Γ hm 100 F339 Tryz.ntmps339 rfl fun F hF=>by
 have hres:=udpTakeT.eq_1 b
 generalize udpTakeT b = res at *
 conv=>whnf
 refine ⟨fun h=>?_,fun h=>?_⟩
 ·rw [if_pos (by have:=of_decide_eq_true h; omega)] at hres
  subst hres
  refine rg ?_;conv=>whnf
  refine Ao 4 1 Al E ?_
  exact Ac E (.cons .tmp (.cons .tmp (.cons .tmp (.cons .tmp .nil)))) E E
 have h8:8 ≤ b.length:=by have:=of_decide_eq_false h; omega
 rw [if_neg (by omega)] at hres
 clear h
 have hp0:=D0 (b[0]'(by omega)) (b[1]'(by omega))
 rw [← Mr (show 0 + 2 ≤ b.length by omega)] at hp0
 have hp1:=D0 (b[2]'(by omega)) (b[3]'(by omega))
 rw [← Mr (show 2 + 2 ≤ b.length by omega)] at hp1
 have hp2:=D0 (b[4]'(by omega)) (b[5]'(by omega))
 rw [← Mr (show 4 + 2 ≤ b.length by omega)] at hp2
 have hp3:=D0 (b[6]'(by omega)) (b[7]'(by omega))
 rw [← Mr (show 6 + 2 ≤ b.length by omega)] at hp3
 refine rg ?_;conv=>whnf
 refine A0 4 (fun j=>[(0,.sl 1 Al b),(6,.ptr 6 0),(11,Aa j)]) (fun j=>[(6,.box (udpU b j))]) [] ⟨⟨E,E,E,E,E,E,Y⟩,⟨.inl E,E,Y⟩,E,E⟩ ?_
 intro j hj
 have hcase:j = 0 ∨ j = 1 ∨ j = 2 ∨ j = 3 ∨ j = 4:=by omega
 rcases hcase with rfl | rfl | rfl | rfl | rfl
 ·(refine rg ?_;(conv=>whnf);refine aT ?_;refine rg ?_;conv=>whnf)
  refine ⟨by unfold I64; omega,?_⟩
  conv=>whnf
  refine ⟨E,by omega,by omega,?_⟩
  conv=>whnf
  refine ⟨by decide,?_⟩
  conv=>whnf
  refine ⟨by unfold I64; omega,?_⟩
  conv=>whnf
  refine ⟨by unfold I64; omega,?_⟩
  conv=>whnf
  refine ⟨E,by omega,by omega,?_⟩
  conv=>whnf
  refine ⟨by decide,by decide,?_⟩
  conv=>whnf
  refine ⟨(by kernel_rfl),?_⟩
  conv=>whnf
  refine ⟨by unfold I64; omega,?_⟩
  conv=>whnf
  exact Ar [] (by decide) ⟨⟨E,E,E,E,E,E,Y⟩,⟨.inl (congrArg (fun z:Int=>Ob.box [Aa z,Aa 0,Aa 0,Aa 0]) hp0.symm),E,Y⟩,E,E⟩
 ·(refine rg ?_;(conv=>whnf);refine aT ?_;refine rg ?_;conv=>whnf)
  refine ⟨by unfold I64; omega,?_⟩
  conv=>whnf
  refine ⟨E,by omega,by omega,?_⟩
  conv=>whnf
  refine ⟨by decide,?_⟩
  conv=>whnf
  refine ⟨by unfold I64; omega,?_⟩
  conv=>whnf
  refine ⟨by unfold I64; omega,?_⟩
  conv=>whnf
  refine ⟨E,by omega,by omega,?_⟩
  conv=>whnf
  refine ⟨by decide,by decide,?_⟩
  conv=>whnf
  refine ⟨(by kernel_rfl),?_⟩
  conv=>whnf
  refine ⟨by unfold I64; omega,?_⟩
  conv=>whnf
  exact Ar [] (by decide) ⟨⟨E,E,E,E,E,E,Y⟩,⟨.inl (congrArg (fun z:Int=>Ob.box [Aa (numAt b 0 2),Aa z,Aa 0,Aa 0]) hp1.symm),E,Y⟩,E,E⟩
 ·(refine rg ?_;(conv=>whnf);refine aT ?_;refine rg ?_;conv=>whnf)
  refine ⟨by unfold I64; omega,?_⟩
  conv=>whnf
  refine ⟨E,by omega,by omega,?_⟩
  conv=>whnf
  refine ⟨by decide,?_⟩
  conv=>whnf
  refine ⟨by unfold I64; omega,?_⟩
  conv=>whnf
  refine ⟨by unfold I64; omega,?_⟩
  conv=>whnf
  refine ⟨E,by omega,by omega,?_⟩
  conv=>whnf
  refine ⟨by decide,by decide,?_⟩
  conv=>whnf
  refine ⟨(by kernel_rfl),?_⟩
  conv=>whnf
  refine ⟨by unfold I64; omega,?_⟩
  conv=>whnf
  exact Ar [] (by decide) ⟨⟨E,E,E,E,E,E,Y⟩,⟨.inl (congrArg (fun z:Int=>Ob.box [Aa (numAt b 0 2),Aa (numAt b 2 2),Aa z,Aa 0]) hp2.symm),E,Y⟩,E,E⟩
 ·(refine rg ?_;(conv=>whnf);refine aT ?_;refine rg ?_;conv=>whnf)
  refine ⟨by unfold I64; omega,?_⟩
  conv=>whnf
  refine ⟨E,by omega,by omega,?_⟩
  conv=>whnf
  refine ⟨by decide,?_⟩
  conv=>whnf
  refine ⟨by unfold I64; omega,?_⟩
  conv=>whnf
  refine ⟨by unfold I64; omega,?_⟩
  conv=>whnf
  refine ⟨E,by omega,by omega,?_⟩
  conv=>whnf
  refine ⟨by decide,by decide,?_⟩
  conv=>whnf
  refine ⟨(by kernel_rfl),?_⟩
  conv=>whnf
  refine ⟨by unfold I64; omega,?_⟩
  conv=>whnf
  exact Ar [] (by decide) ⟨⟨E,E,E,E,E,E,Y⟩,⟨.inl (congrArg (fun z:Int=>Ob.box [Aa (numAt b 0 2),Aa (numAt b 2 2),Aa (numAt b 4 2),Aa z]) hp3.symm),E,Y⟩,E,E⟩
 clear hp0 hp1 hp2 hp3
 (refine rg ?_;(conv=>whnf);refine aF ?_;refine rg ?_;conv=>whnf)
 refine ⟨by decide,by decide,?_⟩
 conv=>whnf
 refine ⟨fun h=>?_,fun h=>?_⟩
 ·rw [if_pos (by have:=of_decide_eq_true h; omega)] at hres
  subst hres
  refine rg ?_;conv=>whnf
  refine Ao 4 1 Al E ?_
  exact Ac E (.cons .tmp (.cons .tmp (.cons .tmp (.cons .tmp .nil)))) E E
 have hs8:8 ≤ numAt b 4 2:=by have:=of_decide_eq_false h; omega
 rw [if_neg (by omega)] at hres
 clear h
 refine rg ?_;conv=>whnf
 refine ⟨by decide,by decide,?_⟩
 conv=>whnf
 refine ⟨fun h=>?_,fun h=>?_⟩
 ·rw [if_pos (by have:=of_decide_eq_true h; omega)] at hres
  subst hres
  refine rg ?_;conv=>whnf
  refine Ao 4 1 Al E ?_
  exact Ac E (.cons .tmp (.cons .tmp (.cons .tmp (.cons .tmp .nil)))) E E
 have hsl:numAt b 4 2 ≤ b.length:=by have:=of_decide_eq_false h; omega
 rw [if_neg (by omega)] at hres
 clear h
 refine rg ?_;conv=>whnf
 refine ⟨by decide,by decide,?_⟩
 conv=>whnf
 refine ⟨fun h=>?_,fun h=>?_⟩
 ·rw [if_pos (by have:(numAt b 6 2:Int) ≠ 0:=(by simpa using h); omega)] at hres
  subst hres
  refine rg ?_;conv=>whnf
  refine Ao 4 1 Al E ?_
  exact Ac E (.cons .tmp (.cons .tmp (.cons .tmp (.cons .tmp .nil)))) E E
 rw [if_neg (by have:(numAt b 6 2:Int) = 0:=(by simpa using h); omega)] at hres
 subst hres
 clear h
 have qc:=E5 ((b.take (numAt b 4 2)).drop 8) (by rw [List.length_drop,List.length_take]; omega)
 refine rg ?_;conv=>whnf
 refine ⟨by decide,by decide,?_⟩
 conv=>whnf
 refine ⟨by decide,by decide,?_⟩
 conv=>whnf
 refine ⟨by decide,by decide,?_⟩
 conv=>whnf
 refine Bu (Ci (lo:=8) (hi:=numAt b 4 2) Γ.toTy E E E E (.inr ⟨_,_,E,E⟩) (.inr ⟨_,_,E,E⟩) hs8 hsl) (by kernel_rfl) E ?_
 refine rd (by kernel_rfl) ?_;conv=>whnf
 refine Ay qc F63 E E E (by kernel_rfl) E ?_
 refine rd (by kernel_rfl) ?_;conv=>whnf
 refine ⟨(by kernel_rfl),?_⟩
 conv=>whnf
 exact Ac E (.cons .tmp (.cons .tmp (.cons .tmp (.cons .tmp .nil)))) E E
theorem Akr (src dst:Nat) (body:List UInt8) (h1:src ≤ 65535) (h2:dst ≤ 65535) (h3:body.length ≤ 1472):Sy.Spec Tryz.prog 310 [Aa src,Aa dst,.sl 1 Al body] [] (.tup [.sl 1 Al (Ahg src dst body),Aa 0]) []:=Ab Γ hm 100 F310 Tryz.ntmps310 rfl fun F hF=>by
 ((conv=>whnf);refine aF ?_;refine rg ?_;conv=>whnf)
 (refine ⟨fun h=>False.elim (by simp at h; omega),fun _=>?_⟩;refine rg ?_;(conv=>whnf);refine aF ?_;refine rg ?_;(conv=>whnf);refine ⟨fun h=>False.elim (by simp at h; omega),fun _=>?_⟩;refine rg ?_;(conv=>whnf);refine ⟨fun h=>False.elim (by simp at h; omega),fun _=>?_⟩;refine rg ?_;conv=>whnf)
 refine ⟨by unfold I64; omega,?_⟩
 conv=>whnf
 refine B5 8 1000 1 Al E E ?_
 refine Ai (Aav Γ.toTy E E E E E E) E E ?_
 refine rg ?_;conv=>whnf
 have key:∀ (x:Nat) (pre:List Nat),pre.length ≤ 4 → Cp (pre ++ [x]) = Cp pre ++ [UInt8.ofNat (x / 256),UInt8.ofNat x]:=fun x pre _=>Hc pre x
 have hwl:∀ l:List Nat,(Cp l).length = 2 * l.length:=Iu
 obtain ⟨ws,hws⟩:∃ ws:List Nat,ws = [src,dst,8 + body.length,0]:=⟨_,rfl⟩
 refine A0 4 (fun j=>[(2,.sl 1 Al body),(8,.osl 1000),(35,.agg [Aa src,Aa dst,Aa (8 + body.length:Nat),Aa 0]),(36,Aa j)]) (fun j=>[(1000,.row 1 Al (Cp (ws.take j)))]) [] ⟨⟨E,E,E,E,E,E,E,E,Y⟩,⟨.inl (congrArg (Ob.row 1 Al) (by simp [Cp])),E,Y⟩,E,E⟩ ?_
 intro j hj
 have hcase:j = 0 ∨ j = 1 ∨ j = 2 ∨ j = 3 ∨ j = 4:=by omega
 rcases hcase with rfl | rfl | rfl | rfl | rfl
 ·have hs:Cp (ws.take 1) = Cp (ws.take 0) ++ [UInt8.ofNat (src / 256),UInt8.ofNat src]:=by subst hws; exact Hc [] src
  have hl:=hwl (ws.take 0)
  have hl2:(ws.take 0).length ≤ 4:=by rw [List.length_take]; omega
  have htb:=Dv src
  (refine rg ?_;(conv=>whnf);refine aT ?_;refine rg ?_;conv=>whnf)
  refine Ai (Ec (k:=.int .i64) Γ.toTy E E E Tryz.underlying3 E E (by decide) (by decide) E) E E ?_
  refine rg ?_;conv=>whnf
  refine ⟨by decide,?_⟩
  conv=>whnf
  refine Ai (Ak Γ.toTy 46 E E E E E (.row E) (.lit (e:=Al) (l:=[UInt8.ofNat (src / 256),UInt8.ofNat src]) E htb) (by simp) (by rw [hl]; simp only [List.length_cons,List.length_nil]; omega) (by rw [hl]; simp only [List.length_cons,List.length_nil]; omega)) E E ?_
  refine rg ?_;conv=>whnf
  refine ⟨by unfold I64; omega,?_⟩
  conv=>whnf
  exact Ar [(1000,46)] (by decide) ⟨⟨E,E,E,E,E,E,E,E,Y⟩,⟨.inl (congrArg (Ob.row 1 Al) hs),E,Y⟩,E,E⟩
 ·have hs:Cp (ws.take 2) = Cp (ws.take 1) ++ [UInt8.ofNat (dst / 256),UInt8.ofNat dst]:=by subst hws; exact Hc [src] dst
  have hl:=hwl (ws.take 1)
  have hl2:(ws.take 1).length ≤ 4:=by rw [List.length_take]; omega
  have htb:=Dv dst
  (refine rg ?_;(conv=>whnf);refine aT ?_;refine rg ?_;conv=>whnf)
  refine Ai (Ec (k:=.int .i64) Γ.toTy E E E Tryz.underlying3 E E (by decide) (by decide) E) E E ?_
  refine rg ?_;conv=>whnf
  refine ⟨by decide,?_⟩
  conv=>whnf
  refine Ai (Ak Γ.toTy 46 E E E E E (.row E) (.lit (e:=Al) (l:=[UInt8.ofNat (dst / 256),UInt8.ofNat dst]) E htb) (by simp) (by rw [hl]; simp only [List.length_cons,List.length_nil]; omega) (by rw [hl]; simp only [List.length_cons,List.length_nil]; omega)) E E ?_
  refine rg ?_;conv=>whnf
  refine ⟨by unfold I64; omega,?_⟩
  conv=>whnf
  exact Ar [(1000,46)] (by decide) ⟨⟨E,E,E,E,E,E,E,E,Y⟩,⟨.inl (congrArg (Ob.row 1 Al) hs),E,Y⟩,E,E⟩
 ·have hs:Cp (ws.take 3) = Cp (ws.take 2) ++ [UInt8.ofNat ((8 + body.length) / 256),UInt8.ofNat (8 + body.length)]:=by subst hws; exact Hc [src,dst] (8 + body.length)
  have hl:=hwl (ws.take 2)
  have hl2:(ws.take 2).length ≤ 4:=by rw [List.length_take]; omega
  have htb:=Dv (8 + body.length)
  (refine rg ?_;(conv=>whnf);refine aT ?_;refine rg ?_;conv=>whnf)
  refine Ai (Ec (k:=.int .i64) Γ.toTy E E E Tryz.underlying3 E E (by decide) (by decide) E) E E ?_
  refine rg ?_;conv=>whnf
  refine ⟨by decide,?_⟩
  conv=>whnf
  refine Ai (Ak Γ.toTy 46 E E E E E (.row E) (.lit (e:=Al) (l:=[UInt8.ofNat ((8 + body.length) / 256),UInt8.ofNat (8 + body.length)]) E htb) (by simp) (by rw [hl]; simp only [List.length_cons,List.length_nil]; omega) (by rw [hl]; simp only [List.length_cons,List.length_nil]; omega)) E E ?_
  refine rg ?_;conv=>whnf
  refine ⟨by unfold I64; omega,?_⟩
  conv=>whnf
  exact Ar [(1000,46)] (by decide) ⟨⟨E,E,E,E,E,E,E,E,Y⟩,⟨.inl (congrArg (Ob.row 1 Al) hs),E,Y⟩,E,E⟩
 ·have hs:Cp (ws.take 4) = Cp (ws.take 3) ++ [UInt8.ofNat (0 / 256),UInt8.ofNat 0]:=by subst hws; exact Hc [src,dst,8 + body.length] 0
  have hl:=hwl (ws.take 3)
  have hl2:(ws.take 3).length ≤ 4:=by rw [List.length_take]; omega
  have htb:=Dv 0
  (refine rg ?_;(conv=>whnf);refine aT ?_;refine rg ?_;conv=>whnf)
  refine Ai (Ec (k:=.int .i64) Γ.toTy E E E Tryz.underlying3 E E (by decide) (by decide) E) E E ?_
  refine rg ?_;conv=>whnf
  refine ⟨by decide,?_⟩
  conv=>whnf
  refine Ai (Ak Γ.toTy 46 E E E E E (.row E) (.lit (e:=Al) (l:=[UInt8.ofNat (0 / 256),UInt8.ofNat 0]) E htb) (by simp) (by rw [hl]; simp only [List.length_cons,List.length_nil]; omega) (by rw [hl]; simp only [List.length_cons,List.length_nil]; omega)) E E ?_
  refine rg ?_;conv=>whnf
  refine ⟨by unfold I64; omega,?_⟩
  conv=>whnf
  exact Ar [(1000,46)] (by decide) ⟨⟨E,E,E,E,E,E,E,E,Y⟩,⟨.inl (congrArg (Ob.row 1 Al) hs),E,Y⟩,E,E⟩
 have hl:=hwl (ws.take 4)
 have e:ws.take 4 = [src,dst,8 + body.length,0]:=by rw [hws]; rfl
 rw [e] at hl ⊢
 have hl3:(Cp [src,dst,8 + body.length,0]).length = 8:=hl
 (refine rg ?_;(conv=>whnf);refine aF ?_;refine rg ?_;conv=>whnf)
 refine Ai (Ak Γ.toTy 50 E E E E E (.row E) .sl (by simp) (by rw [hl3]; simp; omega) (by rw [hl3]; omega)) E E ?_
 refine At 50 E ?_
 refine rg ?_;conv=>whnf
 exact Ac E (.cons .tmp (.cons .tmp .nil)) E E
theorem Ahh (a b:Nat) (ha:a < 18446744073709551616) (hb:b < 18446744073709551616):Sy.Spec Tryz.prog 311 [A7 a,A7 b] [] (Aa (udpPort a b:Nat)) []:=Ab Γ hm 100 F311 Tryz.ntmps311 rfl fun F hF=>by
 have hx:=bits_xor_u64_nat a b ha hb
 have hmd:((a ^^^ b:Nat):Int).tmod 16384 = (((a ^^^ b) % 16384:Nat):Int):=by rw [Int.tmod_eq_emod_of_nonneg (by omega)]; omega
 have hl:=Nat.mod_lt (a ^^^ b) (show 0 < 16384 by decide)
 have hw:IntKind.i64.wrap (((a ^^^ b) % 16384:Nat):Int) = (((a ^^^ b) % 16384:Nat):Int):=by rw [IntKind.wrap_i64]; omega
 conv=>whnf
 refine ⟨by decide,?_⟩
 rw [hx,hmd]
 conv=>whnf
 rw [hw]
 refine ⟨by unfold I64; omega,?_⟩
 conv=>whnf
 refine Ac E (.cons .tmp .nil) ?_ E
 refine congrArg (fun z:Int=>SV.val (.int .i64 z)) ?_
 rw [udpPort]
 omega
theorem Aem (v:Int) (h:Qj v = true):Sy.Spec Tryz.prog 309 [Aa v] [] (.tup [.sl 1 Al [],Aa 17]) []:=Ab Γ hm 100 F309 Tryz.ntmps309 rfl fun F hF=>by
 simp only [Qj,Bool.or_eq_true,decide_eq_true_eq] at h
 conv=>whnf
 refine ⟨fun h1=>?_,fun h1=>?_⟩
 ·(refine rg ?_;(conv=>whnf);refine aT ?_;refine rg ?_;conv=>whnf)
  refine Ao 2 1 Al E ?_
  exact Ac E (.cons .tmp (.cons .tmp .nil)) E E
 refine rg ?_;conv=>whnf
 refine ⟨fun h2=>?_,fun h2=>absurd (of_decide_eq_false h2) (by have:=of_decide_eq_false h1; omega)⟩
 refine rg ?_;conv=>whnf
 refine Ao 2 1 Al E ?_
 exact Ac E (.cons .tmp (.cons .tmp .nil)) E E
theorem Ahb {v:Int} (h:Qj v = false):1 ≤ v ∧ v ≤ 16777215:=by
 simp only [Qj,Bool.or_eq_false_iff,decide_eq_false_iff_not] at h
 omega
theorem Agm (k:Nat):(Ke k).map Al = [SV.val (.int .u8 8),SV.val (.int .u8 0),SV.val (.int .u8 0),SV.val (.int .u8 0),SV.val (.int .u8 (IntKind.u8.wrap ((k:Int).fdiv (2 ^ (min (Int.toNat 16) IntKind.i64.bits))))),
  SV.val (.int .u8 (IntKind.u8.wrap ((k:Int).fdiv (2 ^ (min (Int.toNat 8) IntKind.i64.bits))))),SV.val (.int .u8 (IntKind.u8.wrap (k:Int))),SV.val (.int .u8 0)]:=by
 have h1:IntKind.u8.wrap ((k:Int).fdiv (2 ^ (min (Int.toNat 16) IntKind.i64.bits))) = ((UInt8.ofNat (k / 65536)).toNat:Int):=by
  show IntKind.u8.wrap ((k:Int).fdiv 65536) = _
  rw [Int.fdiv_eq_ediv_of_nonneg _ (by decide),IntKind.wrap_u8]
  simp
 have h2:IntKind.u8.wrap ((k:Int).fdiv (2 ^ (min (Int.toNat 8) IntKind.i64.bits))) = ((UInt8.ofNat (k / 256)).toNat:Int):=by
  show IntKind.u8.wrap ((k:Int).fdiv 256) = _
  rw [Int.fdiv_eq_ediv_of_nonneg _ (by decide),IntKind.wrap_u8]
  simp
 have h3:=u8_of k
 rw [h1,h2,h3]
 rfl
theorem Ajg (k:Nat) (h:1 ≤ k ∧ k ≤ 16777215):Sy.Spec Tryz.prog 309 [Aa k] [] (.tup [.osl 0,Aa 0]) [(0,.row 1 Al (Ke k))]:=Ab Γ hm 100 F309 Tryz.ntmps309 rfl fun F hF=>by
 have hl:=Agm k
 conv=>whnf
 refine ⟨fun h1=>absurd (of_decide_eq_true h1) (by omega),fun _=>?_⟩
 refine rg ?_;conv=>whnf
 refine ⟨fun h1=>absurd (of_decide_eq_true h1) (by omega),fun _=>?_⟩
 refine rg ?_;conv=>whnf
 refine ⟨by decide,?_⟩
 conv=>whnf
 refine ⟨by decide,?_⟩
 conv=>whnf
 refine Ei 18 Al (Ke k) E hl ?_
 exact done E (.cons .tmp (.cons .tmp .nil)) [(0,18)] [(0,.row 1 Al (Ke k))] (fun _ h=>h) E E ⟨Y,⟨.inl E,E,Y⟩,E,E⟩
theorem Ag0 (a b:List UInt8):((⟨a.toArray⟩:ByteArray) == (⟨b.toArray⟩:ByteArray)) = decide (a = b):=by
 have key:=Go.MapKept.bytes_beq (⟨a.toArray⟩:ByteArray) ⟨b.toArray⟩
 by_cases h:a = b
 ·subst h
  rw [decide_eq_true rfl]
  exact key.2 E
 ·rw [decide_eq_false h]
  cases hb:((⟨a.toArray⟩:ByteArray) == (⟨b.toArray⟩:ByteArray)) with
  | false=>rfl
  | true =>
   have:=congrArg (fun z:ByteArray=>z.data.toList) (key.1 hb)
   exact absurd (by simpa using this) h
theorem Ahj (x y z:UInt8):bits .or .i64 (bits .or .i64 (IntKind.i64.wrap ((IntKind.i64.wrap (x.toNat:Int)) * 2 ^ min (Int.toNat 16) IntKind.i64.bits)) (IntKind.i64.wrap ((IntKind.i64.wrap (y.toNat:Int)) * 2 ^ min (Int.toNat 8) IntKind.i64.bits))) (IntKind.i64.wrap (z.toNat:Int))
  = (((x.toNat * 256 + y.toNat) * 256 + z.toNat:Nat):Int):=by
 have h1:=x.toNat_lt
 have h2:=y.toNat_lt
 have h3:=z.toNat_lt
 have e1:IntKind.i64.wrap (x.toNat:Int) = (x.toNat:Int):=by rw [IntKind.wrap_i64]; omega
 have e2:IntKind.i64.wrap (y.toNat:Int) = (y.toNat:Int):=by rw [IntKind.wrap_i64]; omega
 have e3:IntKind.i64.wrap (z.toNat:Int) = (z.toNat:Int):=by rw [IntKind.wrap_i64]; omega
 rw [e1,e2,e3]
 have f1:IntKind.i64.wrap ((x.toNat:Int) * 2 ^ min (Int.toNat 16) IntKind.i64.bits) = ((x.toNat * 65536:Nat):Int):=by
  show IntKind.i64.wrap ((x.toNat:Int) * 65536) = _
  rw [IntKind.wrap_i64]
  omega
 have f2:IntKind.i64.wrap ((y.toNat:Int) * 2 ^ min (Int.toNat 8) IntKind.i64.bits) = ((y.toNat * 256:Nat):Int):=by
  show IntKind.i64.wrap ((y.toNat:Int) * 256) = _
  rw [IntKind.wrap_i64]
  omega
 rw [f1,f2,Cs _ _ (by omega) (by omega)]
 have g1:x.toNat * 65536 ||| y.toNat * 256 = x.toNat * 65536 + y.toNat * 256:=by
  have h:=Nat.two_pow_add_eq_or_of_lt (i:=16) (b:=y.toNat * 256) (by omega) x.toNat
  rw [Nat.mul_comm x.toNat 65536]
  exact h.symm
 rw [g1,Cs _ _ (by omega) (by omega)]
 refine congrArg (fun n:Nat=>(n:Int)) ?_
 have h:256 * (x.toNat * 256 + y.toNat) + z.toNat = 256 * (x.toNat * 256 + y.toNat) ||| z.toNat:=Nat.two_pow_add_eq_or_of_lt (i:=8) (b:=z.toNat) (by omega) (x.toNat * 256 + y.toNat)
 have e:x.toNat * 65536 + y.toNat * 256 = 256 * (x.toNat * 256 + y.toNat):=by omega
 rw [e,← h]
 omega
theorem vniS (b:List UInt8) (hb:b.length < 100000):Sy.Spec Tryz.prog 340 [.sl 1 Al b] [] (.tup [Aa (vniT b).1,.sl 1 Al (vniT b).2.1,Aa (vniT b).2.2]) []:=Ab Γ hm 100 F340 Tryz.ntmps340 rfl fun F hF=>by
 have hres:=vniT.eq_1 b
 generalize vniT b = res at *
 conv=>whnf
 refine ⟨fun h=>?_,fun h=>?_⟩
 ·rw [if_pos (by have:=of_decide_eq_true h; omega)] at hres
  subst hres
  refine rg ?_;conv=>whnf
  refine Ao 3 1 Al E ?_
  exact Ac E (.cons .tmp (.cons .tmp (.cons .tmp .nil))) E E
 have h8:8 ≤ b.length:=by have:=of_decide_eq_false h; omega
 rw [if_neg (by omega)] at hres
 clear h
 have i4:(4:Int).toNat < b.length:=by show 4 < _; omega
 have i5:(5:Int).toNat < b.length:=by show 5 < _; omega
 have i6:(6:Int).toNat < b.length:=by show 6 < _; omega
 have hv:bits .or .i64 (bits .or .i64 (IntKind.i64.wrap ((IntKind.i64.wrap ((b[(4:Int).toNat]'i4).toNat:Int)) * 2 ^ min (Int.toNat 16) IntKind.i64.bits)) (IntKind.i64.wrap ((IntKind.i64.wrap ((b[(5:Int).toNat]'i5).toNat:Int)) * 2 ^ min (Int.toNat 8) IntKind.i64.bits))) (IntKind.i64.wrap ((b[(6:Int).toNat]'i6).toNat:Int))
   = (numAt b 4 3:Int):=by
  rw [Ahj,numAt3 (show 4 + 3 ≤ b.length by omega)]
  rfl
 have hvl:=Ja b 4 3
 refine rg ?_;conv=>whnf
 refine ⟨E,by decide,i4,?_⟩
 conv=>whnf
 refine ⟨by decide,?_⟩
 conv=>whnf
 refine ⟨E,by decide,i5,?_⟩
 conv=>whnf
 refine ⟨by decide,?_⟩
 conv=>whnf
 refine ⟨E,by decide,i6,?_⟩
 conv=>whnf
 refine ⟨(by kernel_rfl),?_⟩
 rw [hv]
 generalize hvv:numAt b 4 3 = v at *
 conv=>whnf
 by_cases h0:v = 0
 ·rw [if_pos (.inl h0)] at hres
  subst hres
  have q:=Aem v (by rw [h0]; decide)
  refine Ag q F309 E E E E E ?_
  (refine rg ?_;(conv=>whnf);refine aT ?_;refine rd (by kernel_rfl) ?_;conv=>whnf)
  refine ⟨(by kernel_rfl),?_⟩
  ((conv=>whnf);refine aT ?_;refine rg ?_;conv=>whnf)
  refine Ao 3 1 Al E ?_
  exact Ac E (.cons .tmp (.cons .tmp (.cons .tmp .nil))) E E
 have q:=Ajg v (by omega)
 refine Ai (Ah [(0,55)] E F309 q E Y E ⟨.inr E,Y⟩) E E ?_
 refine At 55 E ?_
 (refine rg ?_;(conv=>whnf);refine aF ?_;refine rd (by kernel_rfl) ?_;conv=>whnf)
 refine Bu (H1 Γ.toTy (bs:=Ke v) E E E E E E E .sl) (by kernel_rfl) E ?_
 refine rd (by kernel_rfl) ?_;conv=>whnf
 refine Bu (Ci (lo:=0) (hi:=8) Γ.toTy E E E E (.inl ⟨E,E⟩) (.inr ⟨_,_,E,E⟩) (by omega) h8) (by kernel_rfl) E ?_
 refine rd (by kernel_rfl) ?_;conv=>whnf
 refine Bu (H1 Γ.toTy (bs:=b.take 8) E E E E E E E .sl) (by kernel_rfl) E ?_
 refine rd (by kernel_rfl) ?_;conv=>whnf
 refine ⟨(by kernel_rfl),?_⟩
 conv=>whnf
 have hbe:=Ag0 (Ke v) (b.take 8)
 rw [hbe]
 by_cases he:b.take 8 = Ke v
 rotate_left
 ·rw [if_pos (.inr he)] at hres
  subst hres
  rw [decide_eq_false (fun e=>he e.symm)]
  refine ⟨fun _=>?_,fun h=>absurd h (by decide)⟩
  refine rg ?_;conv=>whnf
  refine Ao 3 1 Al E ?_
  exact Ac E (.cons .tmp (.cons .tmp (.cons .tmp .nil))) E E
 rw [if_neg (fun h=>h.elim h0 (fun h2=>h2 he))] at hres
 subst hres
 rw [decide_eq_true he.symm]
 have etk:(b.take b.length).drop 8 = b.drop 8:=by rw [List.take_length]
 refine ⟨fun h=>absurd h (by decide),fun _=>?_⟩
 refine rg ?_;conv=>whnf
 refine Ai (Ci (lo:=8) (hi:=b.length) Γ.toTy E E E E (.inr ⟨_,_,E,E⟩) (.inl ⟨E,E⟩) h8 (Nat.le_refl _)) E E ?_
 refine rg ?_;conv=>whnf
 refine Ai (Ak Γ.toTy 45 E E E E E .nil .sl (by simp) (by simp; omega) (by simp; omega)) E E ?_
 refine At 45 E ?_
 refine rg ?_;conv=>whnf
 refine Ac E (.cons .tmp (.cons .tmp (.cons .tmp .nil))) ?_ E
 show SV.tup [_,.sl 1 Al (b.drop 8),_] = SV.tup [_,.sl 1 Al ([] ++ (b.take b.length).drop 8),_]
 rw [etk]
 rfl
theorem Aaq (a c v:Nat) (f:FrameM) (h:f.body.length ≤ 1450):ipPutT (L1 a c v f) = (Ta (L1 a c v f),0):=by
 rw [ipPutT,if_neg (by rw [Hp]; omega)]
theorem Abz (a b:Nat):udpPort a b ≤ 65535:=by
 have:=Nat.mod_lt (a ^^^ b) (show 0 < 16384 by decide)
 unfold udpPort
 omega
theorem Aii (a c v:Nat) (f:FrameM) (ha:a < 4294967296) (hc:c < 4294967296) (h:f.body.length ≤ 1450):FrameOK ⟨Ho c,Ho a,2048,Ta (L1 a c v f)⟩ :=
 ⟨Uy c hc,Uy a ha,by show (2048:Nat) ≤ 65535; decide,by show (Ta (L1 a c v f)).length ≤ 1504; rw [Kv,Hp]; omega⟩
theorem Akn (a c:Nat) (v:Int) (f:FrameM) (ha:a < 4294967296) (hc:c < 4294967296) (hf:FrameOK f) :
  Sy.Spec Tryz.prog 253 [Cf a,Cf c,Aa v,By f] [] (.tup [.sl 1 Al (wrapT a c v f).1,Aa (wrapT a c v f).2]) []:=Ab Γ hm 100 F253 Tryz.ntmps253 rfl fun F hF=>by
 have hres:=wrapT.eq_1 a c v f
 generalize wrapT a c v f = res at *
 have q0:=Lf f
 have hd:=hf.dst
 have hs:=hf.src
 have hb:=hf.body
 have hpl:=Il f
 conv=>whnf
 refine B1 7 4 (By f) E E E ?_
 by_cases ht:f.typ = 33024
 ·rw [if_pos ht] at hres
  subst hres
  rw [decide_eq_true ht] at q0
  refine rg ?_;conv=>whnf
  refine Ag q0 F166 E E E E E ?_
  (refine rg ?_;(conv=>whnf);refine aT ?_;refine rg ?_;conv=>whnf)
  refine Ao 8 1 Al E ?_
  exact Ac E (.cons .tmp (.cons .tmp .nil)) E E
 rw [if_neg ht] at hres
 rw [decide_eq_false ht] at q0
 refine rg ?_;conv=>whnf
 refine Ag q0 F166 E E E E E ?_
 (refine rg ?_;(conv=>whnf);refine aF ?_;refine rg ?_;conv=>whnf)
 refine Ai (Ah [(0,55)] E F33 (Lq f hf) E Y E ⟨.inr E,Y⟩) E E ?_
 refine At 55 E ?_
 (refine rg ?_;(conv=>whnf);refine aF ?_;refine rg ?_;conv=>whnf)
 cases hv:Qj v
 rotate_left
 ·rw [if_pos hv] at hres
  subst hres
  refine Ag (Aem v hv) F309 E E E E E ?_
  (refine rg ?_;(conv=>whnf);refine aT ?_;refine rg ?_;conv=>whnf)
  refine Ao 8 1 Al E ?_
  exact Ac E (.cons .tmp (.cons .tmp .nil)) E E
 rw [if_neg (by rw [hv]; decide)] at hres
 have hvg:=Ahb hv
 obtain ⟨k,rfl⟩:=Int.eq_ofNat_of_zero_le (show 0 ≤ v by omega)
 rw [Int.toNat_natCast] at hres
 refine Ai (Ah [(0,56)] E F309 (Ajg k (by omega)) E Y E ⟨.inr E,Y⟩) E E ?_
 (refine rg ?_;(conv=>whnf);refine aF ?_;refine rg ?_;conv=>whnf)
 refine ⟨fun h=>?_,fun h=>?_⟩
 ·rw [if_pos (by have:=of_decide_eq_true h; omega)] at hres
  subst hres
  refine rg ?_;conv=>whnf
  refine Ao 8 1 Al E ?_
  exact Ac E (.cons .tmp (.cons .tmp .nil)) E E
 have hl:f.body.length ≤ 1450:=by have:=of_decide_eq_false h; omega
 rw [if_neg (by omega)] at hres
 subst hres
 clear h
 have qp:=Ahh f.dst f.src (by omega) (by omega)
 have hpo:=Abz f.dst f.src
 have qu:=Akr (udpPort f.dst f.src) 4789 (Ke k ++ Vq f) hpo (by decide) (by rw [List.length_append,Hz,hpl]; omega)
 have hwb:(L1 a c k f).body = Ahg (udpPort f.dst f.src) 4789 (Ke k ++ Vq f):=rfl
 have qi:=Aek (L1 a c k f) (Ag9 a c k f ha hc) (by rw [Hp]; omega)
 rw [Aaq a c k f hl] at qi
 have qe:=Lq _ (Aii a c k f ha hc hl)
 refine rg ?_;conv=>whnf
 refine Ag qp F311 E E E E E ?_
 refine rg ?_;conv=>whnf
 refine Ai (Ak Γ.toTy 46 E E E E E (.row E) .sl (by decide) (by rw [Hz,hpl]; simp; omega) (by rw [Hz,hpl]; omega)) E E ?_
 refine At 46 E ?_
 refine rg ?_;conv=>whnf
 refine Ag qu F310 E E E E E ?_
 refine rg ?_;conv=>whnf
 refine Ag qi F248 E E E E E ?_
 refine rg ?_;conv=>whnf
 refine Ag (Aas c hc) F244 E E E E E ?_
 refine rg ?_;conv=>whnf
 refine Ag (Aas a ha) F244 E E E E E ?_
 refine rg ?_;conv=>whnf
 refine Ai (Ah [(0,57)] E F33 qe E Y E ⟨.inr E,Y⟩) E E ?_
 refine At 57 E ?_
 refine rg ?_;conv=>whnf
 exact Ac E (.cons .tmp (.cons .tmp .nil)) E E
def Cn (p:PacketM) (v e:Int):List SV:=[Aa p.tos,Aa p.id,Aa p.ttl,Aa p.proto,Cf p.src,Cf p.dst,.sl 1 Al p.body,Aa v,Aa e]
def B9 (is:Bool) (re e:Int):Int:=if is = true ∧ re = 0 then e else re
theorem O7 (p:PacketM) (v re:Int) (is:Bool) (e:Int):Sy.Spec Tryz.prog 338 [.ptr 0 0,Ad is,Aa e] [(0,.box (Cn p v re))] (.tup []) [(0,.box (Cn p v (B9 is re e)))]:=Ab Γ hm 100 F338 Tryz.ntmps338 rfl fun F hF=>by
 cases is
 ·have h:B9 false re e = re:=by simp [B9]
  rw [h]
  ((conv=>whnf);refine aF ?_;refine rg ?_;(conv=>whnf);refine aF ?_;refine rg ?_;conv=>whnf)
  exact Bi E .nil [] [(0,.box (Cn p v re))] (fun _ h=>h) E E ⟨Y,⟨.inl E,E,Y⟩,E,E⟩
 ·((conv=>whnf);refine aT ?_;refine rg ?_;conv=>whnf)
  refine ⟨fun h=>?_,fun h=>?_⟩
  ·have h2:B9 true re e = e:=by show (if true = true ∧ re = 0 then e else re) = e; rw [if_pos ⟨rfl,by simpa using h⟩]
   rw [h2]
   refine rg ?_;conv=>whnf
   exact Bi E .nil [] [(0,.box (Cn p v e))] (fun _ h=>h) E E ⟨Y,⟨.inl E,E,Y⟩,E,E⟩
  ·have h2:B9 true re e = re:=by
    show (if true = true ∧ re = 0 then e else re) = re
    rw [if_neg (fun h3=>by
     have h4:¬ re = 0:=by simpa using h
     exact h4 h3.2)]
   rw [h2]
   refine rg ?_;conv=>whnf
   exact Bi E .nil [] [(0,.box (Cn p v re))] (fun _ h=>h) E E ⟨Y,⟨.inl E,E,Y⟩,E,E⟩
theorem Ak1 (b:List UInt8) (hb:b.length < 100000):Sy.Spec Tryz.prog 316 [.ptr 0 0,.sl 1 Al b] [(0,.box (Cn noP 0 0))] (.tup []) [(0,.box (Cn (outerT b).1 0 (outerT b).2))]:=Ab Γ hm 100 F316 Tryz.ntmps316 rfl fun F hF=>by
 have hres:=outerT.eq_1 b
 generalize outerT b = res at *
 have q1:=My b hb
 have hbad:=@takeF_bad b
 have hok:=@Zh b
 generalize takeF b = tk at *
 obtain ⟨f,e⟩:=tk
 dsimp only at hres q1 hbad hok
 conv=>whnf
 refine Ag q1 F165 E E E E E ?_
 refine rg ?_;conv=>whnf
 refine Ai (Ah [(0,0)] E F338 (O7 noP 0 0 true e) E ⟨E,Y⟩ E ⟨.inl E,Y⟩) E E ?_
 rw [show B9 true 0 e = e by simp [B9]]
 refine rg ?_;conv=>whnf
 refine Ai (Ah [(0,0)] E F338 (O7 noP 0 e ((f.typ:Int) != 2048) 11) E ⟨E,Y⟩ E ⟨.inl E,Y⟩) E E ?_
 by_cases he:e = 0
 rotate_left
 ·rw [if_pos he] at hres
  subst hres
  rw [show B9 ((f.typ:Int) != 2048) e 11 = e by simp [B9,he]]
  refine rg ?_;conv=>whnf
  refine ⟨fun h=>absurd (show e = 0 by simpa using h) he,fun _=>?_⟩
  refine rg ?_;conv=>whnf
  exact Bi E .nil [] [(0,.box (Cn noP 0 e))] (fun _ h=>h) E E ⟨Y,⟨.inl E,E,Y⟩,E,E⟩
 subst he
 rw [if_neg (by simp)] at hres
 by_cases ht:f.typ = 2048
 rotate_left
 ·rw [if_pos ht] at hres
  subst hres
  have hb2:((f.typ:Int) != 2048) = true:=by simp; omega
  rw [hb2,show B9 true 0 11 = 11 by simp [B9]]
  (refine rg ?_;(conv=>whnf);refine aF ?_;refine rg ?_;conv=>whnf)
  exact Bi E .nil [] [(0,.box (Cn noP 0 11))] (fun _ h=>h) E E ⟨Y,⟨.inl E,E,Y⟩,E,E⟩
 rw [if_neg (fun h=>h ht)] at hres
 have hb2:((f.typ:Int) != 2048) = false:=by simp; omega
 rw [hb2,show B9 false 0 11 = 0 by simp [B9]]
 have hfb:=(hok rfl).body
 have q2:=Aej f.body (by omega)
 have hib:=@Al9 f.body
 generalize ipTakeT f.body = ip at *
 obtain ⟨p,e2⟩:=ip
 dsimp only at hres q2 hib
 (refine rg ?_;(conv=>whnf);refine aT ?_;refine rg ?_;conv=>whnf)
 refine Ag q2 F245 E E E E E ?_
 refine rg ?_;conv=>whnf
 refine Ai (Ah [(0,0)] E F338 (O7 p 0 0 true e2) E ⟨E,Y⟩ E ⟨.inl E,Y⟩) E E ?_
 rw [show B9 true 0 e2 = e2 by simp [B9]]
 refine rg ?_;conv=>whnf
 refine Ai (Ah [(0,0)] E F338 (O7 p 0 e2 ((p.proto:Int) != 17) 11) E ⟨E,Y⟩ E ⟨.inl E,Y⟩) E E ?_
 have hfin:res = (p,B9 ((p.proto:Int) != 17) e2 11):=by
  by_cases h2:e2 = 0
  ·subst h2
   rw [if_neg (by simp)] at hres
   rw [hres]
   simp only [B9]
   by_cases h3:p.proto = 17
   ·rw [if_neg (by simp [h3]),if_neg (by simp [h3])]
   ·rw [if_pos h3,if_pos (by simp; omega)]
  ·rw [if_pos h2] at hres
   rw [hres,hib h2,show B9 ((noP.proto:Int) != 17) e2 11 = e2 by simp [B9,h2]]
 rw [hfin]
 refine rg ?_;conv=>whnf
 exact Bi E .nil [] [(0,.box (Cn p 0 (B9 ((p.proto:Int) != 17) e2 11)))] (fun _ h=>h) E E ⟨Y,⟨.inl E,E,Y⟩,E,E⟩
def frameT (p:PacketM) (e:Int):FrameM × Int × Int :=
 if e ≠ 0 then (noF,0,e) else if (udpTakeT p.body).2.2.2 ≠ 0 then (noF,0,(udpTakeT p.body).2.2.2) else if (udpTakeT p.body).2.1 ≠ 4789 then (noF,0,11)
 else if (vniT (udpTakeT p.body).2.2.1).2.2 ≠ 0 then (noF,(vniT (udpTakeT p.body).2.2.1).1,(vniT (udpTakeT p.body).2.2.1).2.2)
 else ((takeF (vniT (udpTakeT p.body).2.2.1).2.1).1,(vniT (udpTakeT p.body).2.2.1).1,
  if (takeF (vniT (udpTakeT p.body).2.2.1).2.1).2 ≠ 0 then (takeF (vniT (udpTakeT p.body).2.2.1).2.1).2 else if (takeF (vniT (udpTakeT p.body).2.2.1).2.1).1.typ = 33024 then 15 else 0)
theorem frameS (p:PacketM) (e:Int) (hb:p.body.length < 100000):Sy.Spec Tryz.prog 317 [.ptr 0 0] [(0,.box (Cn p 0 e))] (By (frameT p e).1) [(0,.box (Cn p (frameT p e).2.1 (frameT p e).2.2))]:=Ab Γ hm 100 F317 Tryz.ntmps317 rfl fun F hF=>by
 have hres:=frameT.eq_1 p e
 generalize frameT p e = res at *
 have q1:=Ahf p.body hb
 have hul:=@Akl p.body
 generalize udpTakeT p.body = u at *
 obtain ⟨u1,u2,u3,u4⟩:=u
 dsimp only at hres q1 hul
 have q2:=vniS u3 (by omega)
 have hvl:=@vniT_body u3
 generalize vniT u3 = w at *
 obtain ⟨w1,w2,w3⟩:=w
 dsimp only at hres q2 hvl
 have q3:=My w2 (by omega)
 have hbad:=@takeF_bad w2
 generalize takeF w2 = t at *
 obtain ⟨f,t2⟩:=t
 dsimp only at hres q3 hbad
 conv=>whnf
 refine ⟨fun h=>?_,fun h=>?_⟩
 ·rw [if_pos (by simpa using h)] at hres
  subst hres
  refine rg ?_;conv=>whnf
  refine A1 2 zF E (.cons (.refl _) (.cons (.refl _) (.cons (.refl _) (.cons .nil .nil)))) ?_
  exact done E (.cons (.cell E E E E) .nil) [] [(0,.box (Cn p 0 e))] (fun _ h=>h) E E ⟨Y,⟨.inl E,E,Y⟩,E,E⟩
 have he:e = 0:=by simpa using h
 clear h
 subst he
 rw [if_neg (by simp)] at hres
 refine rg ?_;conv=>whnf
 refine Ag q1 F339 E E E E E ?_
 refine rg ?_;conv=>whnf
 refine Ai (Ah [(0,0)] E F338 (O7 p 0 0 true u4) E ⟨E,Y⟩ E ⟨.inl E,Y⟩) E E ?_
 rw [show B9 true 0 u4 = u4 by simp [B9]]
 refine rg ?_;conv=>whnf
 refine Ai (Ah [(0,0)] E F338 (O7 p 0 u4 (u2 != 4789) 11) E ⟨E,Y⟩ E ⟨.inl E,Y⟩) E E ?_
 by_cases h4:u4 = 0
 rotate_left
 ·rw [if_pos h4] at hres
  subst hres
  rw [show B9 (u2 != 4789) u4 11 = u4 by simp [B9,h4]]
  refine rg ?_;conv=>whnf
  refine ⟨fun h=>absurd (show u4 = 0 by simpa using h) h4,fun _=>?_⟩
  refine rg ?_;conv=>whnf
  refine ⟨fun _=>?_,fun h=>absurd (show u4 = 0 by simpa using h) h4⟩
  refine rg ?_;conv=>whnf
  refine A1 2 zF E (.cons (.refl _) (.cons (.refl _) (.cons (.refl _) (.cons .nil .nil)))) ?_
  exact done E (.cons (.cell E E E E) .nil) [] [(0,.box (Cn p 0 u4))] (fun _ h=>h) E E ⟨Y,⟨.inl E,E,Y⟩,E,E⟩
 subst h4
 rw [if_neg (by simp)] at hres
 by_cases h2:u2 = 4789
 rotate_left
 ·rw [if_pos h2] at hres
  subst hres
  rw [show B9 (u2 != 4789) 0 11 = 11 by simp [B9,h2]]
  (refine rg ?_;(conv=>whnf);refine aF ?_;refine rg ?_;(conv=>whnf);refine aT ?_;refine rg ?_;conv=>whnf)
  refine A1 2 zF E (.cons (.refl _) (.cons (.refl _) (.cons (.refl _) (.cons .nil .nil)))) ?_
  exact done E (.cons (.cell E E E E) .nil) [] [(0,.box (Cn p 0 11))] (fun _ h=>h) E E ⟨Y,⟨.inl E,E,Y⟩,E,E⟩
 rw [if_neg (fun h=>h h2)] at hres
 rw [show B9 (u2 != 4789) 0 11 = 0 by simp [B9,h2]]
 (refine rg ?_;(conv=>whnf);refine aT ?_;refine rg ?_;conv=>whnf)
 refine Ag q2 F340 E E E E E ?_
 refine rg ?_;conv=>whnf
 refine Ai (Ah [(0,0)] E F338 (O7 p w1 0 true w3) E ⟨E,Y⟩ E ⟨.inl E,Y⟩) E E ?_
 rw [show B9 true 0 w3 = w3 by simp [B9]]
 refine rg ?_;conv=>whnf
 refine ⟨fun h=>?_,fun h=>?_⟩
 ·rw [if_pos (by simpa using h)] at hres
  subst hres
  refine rg ?_;conv=>whnf
  refine A1 2 zF E (.cons (.refl _) (.cons (.refl _) (.cons (.refl _) (.cons .nil .nil)))) ?_
  exact done E (.cons (.cell E E E E) .nil) [] [(0,.box (Cn p w1 w3))] (fun _ h=>h) E E ⟨Y,⟨.inl E,E,Y⟩,E,E⟩
 have h3:w3 = 0:=by simpa using h
 clear h
 subst h3
 rw [if_neg (by simp)] at hres
 refine rg ?_;conv=>whnf
 refine Ag q3 F165 E E E E E ?_
 refine rg ?_;conv=>whnf
 refine Ai (Ah [(0,0)] E F338 (O7 p w1 0 true t2) E ⟨E,Y⟩ E ⟨.inl E,Y⟩) E E ?_
 rw [show B9 true 0 t2 = t2 by simp [B9]]
 refine rg ?_;conv=>whnf
 refine Ag (Lf f) F166 E E E E E ?_
 refine rg ?_;conv=>whnf
 refine Ai (Ah [(0,0)] E F338 (O7 p w1 t2 (decide (f.typ = 33024)) 15) E ⟨E,Y⟩ E ⟨.inl E,Y⟩) E E ?_
 have hfin:B9 (decide (f.typ = 33024)) t2 15 = if t2 ≠ 0 then t2 else if f.typ = 33024 then 15 else 0:=by
  by_cases k1:t2 = 0
  ·subst k1
   rw [if_neg (by simp)]
   by_cases k2:f.typ = 33024 <;> simp [B9,k2]
  ·rw [if_pos k1]
   simp [B9,k1]
 rw [← hfin] at hres
 subst hres
 refine rg ?_;conv=>whnf
 exact done E (.cons (.cell E E E E) .nil) [] [(0,.box (Cn p w1 (B9 (decide (f.typ = 33024)) t2 15)))] (fun _ h=>h) E E ⟨Y,⟨.inl E,E,Y⟩,E,E⟩
theorem Xl (b:List UInt8):Bq b = if (frameT (outerT b).1 (outerT b).2).2.2 ≠ 0 then (0,0,0,noF,(frameT (outerT b).1 (outerT b).2).2.2)
  else ((outerT b).1.src,(outerT b).1.dst,(frameT (outerT b).1 (outerT b).2).2.1,(frameT (outerT b).1 (outerT b).2).1,0):=by
 unfold Bq
 generalize outerT b = o
 obtain ⟨p,e⟩:=o
 dsimp only
 by_cases he:e = 0
 rotate_left
 ·rw [if_pos he]
  have h1:frameT p e = (noF,0,e):=by rw [frameT,if_pos he]
  rw [h1,if_pos he]
 subst he
 rw [if_neg (by simp)]
 unfold I1 frameT
 rw [if_neg (show ¬ (0:Int) ≠ 0 by simp)]
 generalize udpTakeT p.body = u
 obtain ⟨u1,u2,u3,u4⟩:=u
 dsimp only
 by_cases h4:u4 = 0
 rotate_left
 ·rw [if_pos h4,if_pos h4,if_pos h4]
  dsimp only
  rw [if_pos h4]
 subst h4
 simp only [ne_eq,not_true_eq_false,if_false]
 by_cases h2:u2 = 4789
 rotate_left
 ·simp [h2]
 simp only [h2,not_true_eq_false,if_false]
 generalize vniT u3 = w
 obtain ⟨w1,w2,w3⟩:=w
 dsimp only
 by_cases h3:w3 = 0
 rotate_left
 ·simp [h3]
 simp only [h3,not_true_eq_false,if_false]
 generalize takeF w2 = t
 obtain ⟨f,t2⟩:=t
 dsimp only
 by_cases k1:t2 = 0
 ·by_cases k2:f.typ = 33024 <;> simp [k1,k2]
 ·simp [k1]
theorem Ae4 (b:List UInt8) (hb:b.length < 100000) :
  Sy.Spec Tryz.prog 259 [.sl 1 Al b] [] (.tup [Cf (Bq b).1,Cf (Bq b).2.1,Aa (Bq b).2.2.1,By (Bq b).2.2.2.1,Aa (Bq b).2.2.2.2]) []:=Ab Γ hm 100 F259 Tryz.ntmps259 rfl fun F hF=>by
 have hres:=Xl b
 generalize Bq b = res at *
 have q1:=Ak1 b hb
 have hol:=(Qw b).2
 generalize outerT b = o at *
 obtain ⟨p,e⟩:=o
 dsimp only at hres q1 hol
 have q2:=frameS p e (by omega)
 generalize frameT p e = fr at *
 obtain ⟨f,v,e2⟩:=fr
 dsimp only at hres q2
 conv=>whnf
 refine A1 9 (Cn noP 0 0) E (.cons (.refl _) (.cons (.refl _) (.cons (.refl _) (.cons (.refl _) (.cons (.refl _) (.cons (.refl _) (.cons .nil (.cons (.refl _) (.cons (.refl _) .nil))))))))) ?_
 refine rg ?_;conv=>whnf
 refine Ai (Ah [(0,9)] E F316 q1 E ⟨E,Y⟩ E ⟨.inl E,Y⟩) E E ?_
 refine rg ?_;conv=>whnf
 refine Ai (Ah [(0,9)] E F317 q2 E ⟨E,Y⟩ E ⟨.inl E,Y⟩) E E ?_
 refine rg ?_;conv=>whnf
 refine ⟨fun h=>?_,fun h=>?_⟩
 ·rw [if_pos (by simpa using h)] at hres
  subst hres
  refine rg ?_;conv=>whnf
  refine ⟨(by kernel_rfl),?_⟩
  conv=>whnf
  refine A1 5 zF E (.cons (.refl _) (.cons (.refl _) (.cons (.refl _) (.cons .nil .nil)))) ?_
  exact Ac E (.cons .tmp (.cons .tmp (.cons .tmp (.cons (.cell E E E E) (.cons .tmp .nil))))) E E
 rw [if_neg (by simpa using h)] at hres
 subst hres
 refine rg ?_;conv=>whnf
 refine ⟨(by kernel_rfl),?_⟩
 conv=>whnf
 exact Ac E (.cons .tmp (.cons .tmp (.cons .tmp (.cons (.cell E E E E) (.cons .tmp .nil))))) E E
end Go.Sy.YtmelpejjondedaaGreat
