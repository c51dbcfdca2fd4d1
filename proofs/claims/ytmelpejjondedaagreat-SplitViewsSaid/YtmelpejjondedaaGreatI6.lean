/-
  Z1 Z2 Sy34 Sy35 Sy36 Sy37 Sy38 Z3 Z4 K27 K28 K29 K30 K31 K32 K33 K34 K35 K36: parts of a proof, joined by program.
-/
import Derived.Test.YtmelpejjondedaaGreatI5
import Derived.Test.YtmelpejjondedaaGreatI4
import Derived.Test.YtmelpejjondedaaGreatI3
import Derived.Laws.LoneSync
namespace Go.Sy.YtmelpejjondedaaGreat
open Go.Proofs
def Bb (e:Int):Prop:=0 ≤ e ∧ e < 64
def DomIn (n:Net) (d:Int):Prop:=0 ≤ d ∧ d.toNat < n.domains.length
theorem Hv {n:Net} {d:Int} (h:Aj d n.domains.length = true):DomIn n d:=by
 have:=Bl h
 unfold DomIn
 omega
theorem O3 (b:List UInt8):Bb (takeF b).2:=by
 unfold takeF Bb
 repeat' split
 all_goals (dsimp only; omega)
theorem Aa5 (f:FrameM):Bb (stripT f).2.2.2:=by
 unfold stripT Bb
 repeat' split
 all_goals (dsimp only; omega)
theorem Ur (n:Net) (port:Int) (b:List UInt8):Bb (enterT n port b).2.2:=by
 have h1:=O3 b
 have h2:=Aa5 (takeF b).1
 have h3:∀ f tg v,Bb (H3 n port f tg v).2.2:=fun f tg v=>by
  unfold H3 Bb
  repeat' split
  all_goals (dsimp only; omega)
 unfold enterT
 split
 ·unfold Bb; dsimp only; omega
 split
 ·exact h1
 split
 ·split
  ·exact h2
  ·exact h3 _ _ _
 ·exact h3 _ _ _
theorem Ae2 (n:Net) (port:Int) (b:List UInt8):Bb (linkT n port b).2.2.2:=by
 unfold linkT
 split
 ·unfold Bb; dsimp only; omega
 ·exact Ur _ _ _
theorem Abv (n:Net) (port dom:Int) (f:FrameM):Bb (leaveT n port dom f).2:=by
 unfold leaveT
 split
 ·unfold Bb; dsimp only; omega
 split
 ·unfold Bb; dsimp only; omega
 split
 ·unfold Bb; dsimp only; omega
 split
 ·unfold Bb; dsimp only; omega
 split
 ·show Bb (tagT f (nth n.domains dom).vlan).2
  unfold tagT Bb
  repeat' split
  all_goals (dsimp only; omega)
 ·unfold Bb; dsimp only; omega
theorem Ad1 (a b:Nat) (v:Int) (f:FrameM):Bb (wrapT a b v f).2:=by
 unfold wrapT Bb
 repeat' split
 all_goals (dsimp only; omega)
theorem Aez (n:Net) (dom peer:Int) (f:FrameM):Bb (meshT n dom peer f).2:=by
 unfold meshT
 split
 ·unfold Bb; dsimp only; omega
 split
 ·unfold Bb; dsimp only; omega
 ·exact Ad1 _ _ _ _
theorem Q8 (b:List UInt8):Bb (ipTakeT b).2:=by
 unfold ipTakeT Bb
 repeat' split
 all_goals (dsimp only; omega)
theorem Wu (b:List UInt8):Bb (udpTakeT b).2.2.2:=by
 unfold udpTakeT Bb
 repeat' split
 all_goals (dsimp only; omega)
theorem Af1 (b:List UInt8):Bb (vniT b).2.2:=by
 unfold vniT Bb
 repeat' split
 all_goals (dsimp only; omega)
theorem Abn (b:List UInt8):Bb (outerT b).2:=by
 unfold outerT
 split
 ·exact O3 _
 split
 ·unfold Bb; dsimp only; omega
 split
 ·exact Q8 _
 ·unfold Bb; dsimp only; split <;> omega
theorem Ab5 (b:List UInt8):Bb (Ip b).2.2:=by
 unfold Ip
 split
 ·exact Wu _
 split
 ·unfold Bb; dsimp only; omega
 split
 ·exact Af1 _
 split
 ·exact O3 _
 split
 ·unfold Bb; dsimp only; omega
 ·unfold Bb; dsimp only; omega
theorem Yl (b:List UInt8):Bb (Bm b).2.2.2.2:=by
 unfold Bm
 split
 ·exact Abn _
 split
 ·exact Ab5 _
 ·unfold Bb; dsimp only; omega
theorem Afl (n:Net) (b:List UInt8):Bb (comeT n b).2.2.2:=by
 unfold comeT
 split
 ·unfold Bb; dsimp only; omega
 split
 ·exact Yl _
 split
 ·unfold Bb; dsimp only; omega
 split
 ·unfold Bb; dsimp only; omega
 ·unfold Bb; dsimp only; omega
theorem Ahv (n:Net) (irb:Int) (f:FrameM):Bb (hopT n irb f).2.2:=by
 unfold hopT
 split
 ·unfold Bb; dsimp only; omega
 split
 ·unfold Bb; dsimp only; omega
 split
 ·exact Q8 _
 split
 ·unfold Bb; dsimp only; omega
 split
 ·unfold Bb; dsimp only; omega
 split
 ·unfold Bb; dsimp only; omega
 ·unfold Bb; dsimp only; omega
theorem Aap (n:Net) (fw:List Bool) (t:List EntryM) (dom:Int) (q:QueuedM) (now:Int):Bb (bridgeT n fw t dom q now).2.2:=by
 unfold bridgeT
 split
 ·unfold Bb; dsimp only; omega
 split
 ·split
  ·exact Ahv _ _ _
  ·unfold Bb; dsimp only; omega
 ·unfold Bb; dsimp only; omega
theorem Adq {n:Net} {dev v:Int} (h:Dd n dev v = true):DomIn n (Aah n dev v):=by
 have h1:0 ≤ Aah n dev v:=by simpa [Dd] using h
 have h2:Aah n dev v < n.domains.length:=Ez _ _
 exact ⟨h1,by omega⟩
theorem Af2 {n:Net} (hb:Af n = true) {port:Int} (hp:Aj port n.ports.length = true) {tg:Bool} {vid:Int} (h:(vlanT (nth n.ports port) tg vid).2 = true):DomIn n (Aah n (nth n.ports port).dev (vlanT (nth n.ports port) tg vid).1):=by
 have hk:=Bl hp
 have hk2:port.toNat < n.ports.length:=by omega
 simp only [Af,Bool.and_eq_true] at hb
 have hpb:=allB_iff.1 hb.1.1.1.1.1.2 _ hk2
 rw [An hk2] at h ⊢
 generalize n.ports[port.toNat] = p at *
 simp only [Ib,Bool.and_eq_true] at hpb
 obtain ⟨⟨⟨⟨⟨⟨⟨⟨g1,g2⟩,g3⟩,g4⟩,g5⟩,g6⟩,g7⟩,g8⟩,g9⟩:=hpb
 unfold vlanT at h ⊢
 split
 ·rw [if_pos (by assumption)] at h
  have h1:p.native ≠ 0:=by simpa using h
  have h2:0 ≤ p.native:=by simpa using g2
  refine Adq ?_
  have h3:decide (0 < p.native) = true:=by simp; omega
  rw [h3,Bool.true_and] at g8
  simpa using g8
 ·rw [if_neg (by assumption)] at h
  split
  ·rename_i h4
   have h5:vid ∈ p.tagged:=inB_mem.1 h4
   obtain ⟨i,hi,rfl⟩:=List.mem_iff_getElem.1 h5
   exact Adq (allB_iff.1 g7 i hi)
  ·rw [if_neg (by assumption)] at h
   cases h
theorem Us {n:Net} {port:Int} {b:List UInt8} (h:(enterT n port b).2.2 = 0):DomIn n (enterT n port b).1:=by
 unfold enterT at h ⊢
 split
 ·rw [if_pos (by assumption)] at h; cases h
 rename_i hc
 rw [if_neg hc] at h
 have hp:Aj port n.ports.length = true:=by cases hx:Aj port n.ports.length; exact absurd (.inl hx) hc; rfl
 have hb:Af n = true:=by cases hx:Af n; exact absurd (.inr hx) hc; rfl
 have key:∀ f tg v,(H3 n port f tg v).2.2 = 0 → DomIn n (H3 n port f tg v).1:=fun f tg v h=>by
  unfold H3 at h ⊢
  split
  ·rw [if_pos (by assumption)] at h; cases h
  rw [if_neg (by assumption)] at h
  split
  ·rw [if_pos (by assumption)] at h; cases h
  rename_i h5
  show DomIn n (S3 n _ _)
  rw [S3,if_pos hb]
  exact Af2 hb hp (by simpa using h5)
 split
 ·rename_i h2
  rw [if_pos h2] at h
  exact absurd h h2
 rename_i h2
 rw [if_neg h2] at h
 split
 ·rename_i h3
  rw [if_pos h3] at h
  split
  ·rename_i h4
   rw [if_pos h4] at h
   exact absurd h h4
  ·rename_i h4
   rw [if_neg h4] at h
   exact key _ _ _ h
 ·rename_i h3
  rw [if_neg h3] at h
  exact key _ _ _ h
theorem Ae3 {n:Net} {port:Int} {b:List UInt8} (h:(linkT n port b).2.2.2 = 0):DomIn n (linkT n port b).2.1:=by
 unfold linkT at h ⊢
 split
 ·rw [if_pos (by assumption)] at h; cases h
 ·rename_i h2
  rw [if_neg h2] at h
  exact Us h
theorem Zf {n:Net} (hb:Af n = true) {dom:Nat} (hd:dom < n.domains.length) {k:Int} (hk:k ∈ n.domains[dom].peers):DomIn n k:=by
 simp only [Af,Bool.and_eq_true] at hb
 have:=allB_iff.1 hb.1.1.1.1.1.1.2 _ hd
 obtain ⟨i,hi,rfl⟩:=List.mem_iff_getElem.1 hk
 have h2:=allB_iff.1 this i hi
 simp only [Vy,Bool.and_eq_true] at h2
 exact Hv h2.1.1.1.1.1.1.1.1.1
theorem Aid {n:Net} (hb:Af n = true) {src dst:Nat} {vni:Int} (h:¬ (endsT n src dst vni).1 < 0):DomIn n (endsT n src dst vni).1 ∧ DomIn n (endsT n src dst vni).2:=by
 unfold endsT at h ⊢
 dsimp only at h ⊢
 split
 ·rw [if_pos (by assumption)] at h; exact absurd (by decide) h
 rename_i h1
 rw [if_neg h1] at h
 split
 ·rw [if_pos (by assumption)] at h; exact absurd (by decide) h
 rename_i h2
 have hd:=Ez (fun d:Domain=>decide (d.dev = Dg (fun d:Device=>decide (d.vtep = (dst:Int))) n.devices) && decide (d.vni = vni)) n.domains
 generalize Dg (fun d:Domain=>decide (d.dev = Dg (fun d:Device=>decide (d.vtep = (dst:Int))) n.devices) && decide (d.vni = vni)) n.domains = dom at *
 have hd2:dom.toNat < n.domains.length:=by omega
 have hi:=Ez (fun k:Int=>decide (Hb n k = (src:Int))) (nth n.domains dom).peers
 generalize Dg (fun k:Int=>decide (Hb n k = (src:Int))) (nth n.domains dom).peers = i at *
 rw [An hd2] at hi ⊢
 have hi2:i.toNat < (n.domains[dom.toNat]).peers.length:=by omega
 refine ⟨?_,⟨by dsimp only; omega,hd2⟩⟩
 show DomIn n (nth (n.domains[dom.toNat]).peers i)
 rw [An hi2]
 exact Zf hb hd2 (List.getElem_mem hi2)
theorem Wo {n:Net} {b:List UInt8} (h:(comeT n b).2.2.2 = 0):DomIn n (comeT n b).1 ∧ DomIn n (comeT n b).2.1:=by
 unfold comeT at h ⊢
 split
 ·rw [if_pos (by assumption)] at h; cases h
 rename_i hb
 rw [if_neg hb] at h
 split
 ·rename_i h2
  rw [if_pos h2] at h; exact absurd h h2
 rename_i h2
 rw [if_neg h2] at h
 split
 ·rw [if_pos (by assumption)] at h; cases h
 rename_i h3
 rw [if_neg h3] at h
 split
 ·rw [if_pos (by assumption)] at h; cases h
 exact Aid (by simpa using hb) h3
theorem Ahw {n:Net} {irb:Int} {f:FrameM} (hin:∀ (d:Int),(lookT n irb d).2 = true → 0 ≤ (lookT n irb d).1 ∧ (lookT n irb d).1.toNat < n.irbs.length) (h:(hopT n irb f).2.2 = 0):DomIn n (hopT n irb f).1:=by
 unfold hopT at h ⊢
 split
 ·rw [if_pos (by assumption)] at h; cases h
 rename_i h1
 rw [if_neg h1] at h
 split
 ·rw [if_pos (by assumption)] at h; cases h
 rename_i h2
 rw [if_neg h2] at h
 split
 ·rename_i h3
  rw [if_pos h3] at h; exact absurd h h3
 rename_i h3
 rw [if_neg h3] at h
 split
 ·rw [if_pos (by assumption)] at h; cases h
 rename_i h4
 rw [if_neg h4] at h
 split
 ·rw [if_pos (by assumption)] at h; cases h
 rename_i h5
 rw [if_neg h5] at h
 split
 ·rw [if_pos (by assumption)] at h; cases h
 have hl:=hin ((ipTakeT f.body).1.dst:Int) (by simpa using h5)
 have hb:Af n = true:=by cases hx:Af n; exact absurd (.inr hx) h1; rfl
 have:=(Dn hb hl.2).1
 show DomIn n (nth n.irbs _).domain
 rw [An hl.2]
 exact this
structure TabOK (t:List EntryM):Prop where
 short:Am t
 mac:∀ e ∈ t,e.mac < 18446744073709551616
 wh:∀ e ∈ t,I64 e.where_
structure QueuedOK (q:QueuedM):Prop where
 frame:FrameOK q.frame
 from_:-2 ≤ q.from_ ∧ q.from_ < 1099511627776
 peer:0 ≤ q.peer ∧ q.peer < 1099511627776
def Dv (l:List QueuedM):Prop:=l.length ≤ 64 ∧ ∀ q ∈ l,QueuedOK q
structure MacOK (n:Net) (m:MacM) (J D:Int):Prop where
 up:m.up.length = n.links.length
 tabs:m.tables.length = n.domains.length
 ques:m.queues.length = n.domains.length
 tab:∀ t ∈ m.tables,TabOK t
 que:∀ l ∈ m.queues,Dv l
 now:0 ≤ m.now ∧ m.now ≤ 1099511627776
 inj:0 ≤ m.injected ∧ m.injected ≤ J
 drp:∀ i,0 ≤ m.drops i ∧ m.drops i ≤ D
theorem Ec {f:FrameM} (hf:FrameOK f) {a b:Int} (c:Int) (h1:-2 ≤ a ∧ a < 1099511627776) (h2:0 ≤ b ∧ b < 1099511627776):QueuedOK ⟨a,b,c,f⟩:=⟨hf,h1,h2⟩
theorem Ahe:QueuedOK noQ:=⟨Cz,by decide,by decide⟩
theorem Qg:TabOK []:=⟨by unfold Am; decide,fun _ h=>(by cases h),fun _ h=>(by cases h)⟩
theorem Q4:Dv []:=⟨by decide,fun _ h=>(by cases h)⟩
theorem Xj {α:Type} {l:List α} {i:Nat} {x y:α} (h:y ∈ l.set i x):y = x ∨ y ∈ l:=by
 rcases List.mem_or_eq_of_mem_set h with h | h
 ·exact .inr h
 ·exact .inl h
theorem Uj {α:Type} {l:List α} {i:Nat} {d:α} (h:i < l.length):(l[i]?).getD d ∈ l:=by
 rw [List.getElem?_eq_getElem h]
 exact List.getElem_mem h
theorem Dr {n:Net} {m:MacM} {J D:Int} (h:MacOK n m J D) (dom:Int):Dv (queueL m dom):=by
 unfold queueL
 by_cases hd:dom.toNat < m.queues.length
 ·exact h.que _ (Uj hd)
 ·rw [List.getElem?_eq_none (by omega)]; exact Q4
theorem O4 {n:Net} {m:MacM} {J D:Int} (h:MacOK n m J D) (dom:Int):TabOK (tableL m dom):=by
 unfold tableL
 by_cases hd:dom.toNat < m.tables.length
 ·exact h.tab _ (Uj hd)
 ·rw [List.getElem?_eq_none (by omega)]; exact Qg
theorem MacOK.mono {n:Net} {m:MacM} {J D J' D':Int} (h:MacOK n m J D) (h1:J ≤ J') (h2:D ≤ D'):MacOK n m J' D' :=
 ⟨h.up,h.tabs,h.ques,h.tab,h.que,h.now,⟨h.inj.1,by have:=h.inj.2; omega⟩,fun i=>⟨(h.drp i).1,by have:=(h.drp i).2; omega⟩⟩
theorem Kp {n:Net} {m:MacM} {J D:Int} (h:MacOK n m J D) (hD:0 ≤ D) (e:Int):MacOK n (Bv m e) J (D + 1):=by
 refine ⟨h.up,h.tabs,h.ques,h.tab,h.que,h.now,h.inj,fun i=>?_⟩
 have:=h.drp i
 show 0 ≤ (if i = e.toNat then m.drops i + 1 else m.drops i) ∧ (if i = e.toNat then m.drops i + 1 else m.drops i) ≤ D + 1
 split <;> omega
theorem Ac6 {n:Net} {m:MacM} {J D:Int} (h:MacOK n m J D) (dom:Int) {l:List QueuedM} (hl:Dv l):MacOK n (Aeg m dom l) J D:=by
 refine ⟨h.up,h.tabs,by rw [Aeg]; simp [h.ques],h.tab,fun x hx=>?_,h.now,h.inj,h.drp⟩
 rcases Xj hx with rfl | hx
 ·exact hl
 ·exact h.que x hx
theorem W1 {n:Net} {m:MacM} {J D:Int} (h:MacOK n m J D) (dom:Int) {l:List EntryM} (hl:TabOK l):MacOK n (Dk m dom l) J D:=by
 refine ⟨h.up,by rw [Dk]; simp [h.tabs],h.ques,fun x hx=>?_,h.que,h.now,h.inj,h.drp⟩
 rcases Xj hx with rfl | hx
 ·exact hl
 ·exact h.tab x hx
theorem Ag1 {l:List QueuedM} (hl:Dv l) {q:QueuedM} (hq:QueuedOK q):Dv (pushT l q).1:=by
 unfold pushT
 split
 ·exact hl
 ·refine ⟨by simp; omega,fun x hx=>?_⟩
  rcases List.mem_append.1 hx with hx | hx
  ·exact hl.2 x hx
  ·rw [List.mem_singleton.1 hx]; exact hq
theorem Af9 {l:List QueuedM} (hl:Dv l) (at_:Int):QueuedOK (takeT l at_).1 ∧ Dv (takeT l at_).2.1:=by
 unfold takeT
 split
 ·exact ⟨Ahe,hl⟩
 ·rename_i h
  refine ⟨hl.2 _ (Uj (by omega)),?_,fun x hx=>hl.2 x (List.mem_of_mem_eraseIdx hx)⟩
  have:=List.length_eraseIdx_le l at_.toNat
  have:=hl.1
  show (l.eraseIdx at_.toNat).length ≤ 64
  omega
theorem Ou {n:Net} {m:MacM} {J D:Int} (h:MacOK n m J D) (hD:0 ≤ D) (dom:Int) {q:QueuedM} (hq:QueuedOK q) (e:Int):MacOK n (comeM m dom q e) J (D + 1):=by
 unfold comeM
 split
 ·exact Kp h hD e
 split
 ·exact (Ac6 h dom (Ag1 (Dr h dom) hq)).mono (Int.le_refl _) (by omega)
 ·exact Kp h hD 3
theorem Tb {n:Net} {m:MacM} {J D:Int} (h:MacOK n m J D) (dom at_:Int):MacOK n (takeM m dom at_).1 J D ∧ QueuedOK (takeM m dom at_).2.1:=by
 unfold takeM
 split
 ·exact ⟨h,Ahe⟩
 ·have:=Af9 (Dr h dom) at_
  exact ⟨Ac6 h dom this.2,this.1⟩
theorem Ab6 {n:Net} (hn:n.Fin) {m:MacM} {J D:Int} (h:MacOK n m J D) (hJ:0 ≤ J) (hD:0 ≤ D) (port:Int) (b:List UInt8):MacOK n (injectT n m port b) (J + 1) (D + 1):=by
 unfold injectT
 split
 ·exact h.mono (by omega) (by omega)
 ·rename_i hc
  have hp:Aj port n.ports.length = true:=by cases hx:Aj port n.ports.length; exact absurd (.inl hx) hc; rfl
  have hpi:=Bl hp
  have hs:=hn.ports
  unfold Am at hs
  have h1:=h.inj
  have hm:MacOK n ⟨m.up,m.tables,m.queues,m.now,m.injected + 1,m.drops⟩ (J + 1) D:=⟨h.up,h.tabs,h.ques,h.tab,h.que,h.now,(by show 0 ≤ m.injected + 1 ∧ m.injected + 1 ≤ J + 1; omega),h.drp⟩
  exact Ou hm hD _ (Ec (Qo _ _ _) _ (by omega) (by omega)) _
structure OutOK (n:Net) (o:OutM):Prop where
 kind:1 ≤ o.kind ∧ o.kind ≤ 5
 bytes:o.bytes.length ≤ 1518
 frame:o.kind = 4 → FrameOK o.frame ∧ DomIn n o.domain
 err:o.kind = 5 → Bb o.error
theorem Aeu {n:Net} (hn:n.Fin) (port:Int):-1 ≤ E8 n port ∧ E8 n port < 2147483648:=by
 unfold E8
 split
 ·rename_i h
  obtain ⟨⟨h1,h2⟩,h3,hb⟩:=h
  have hk:port.toNat < n.ports.length:=by omega
  rw [An hk] at h3 ⊢
  have hl:=(Ko hb hk h3).1
  rw [An hl]
  simp only [Af,Bool.and_eq_true] at hb
  have hlb:=allB_iff.1 hb.1.1.1.1.2 _ hl
  simp only [Q6,Bool.and_eq_true] at hlb
  have ha:=Bl hlb.1.1.1.1
  have hb2:=Bl hlb.1.1.1.2
  have hs:=hn.ports
  unfold Am at hs
  split <;> omega
 ·omega
theorem Zr {n:Net} (hn:n.Fin) (port:Int) (b:List UInt8):0 ≤ (linkT n port b).1 ∧ (linkT n port b).1 < 1099511627776:=by
 have:=Aeu hn port
 unfold linkT
 split <;> dsimp only <;> omega
theorem U0 {n:Net} (hn:n.Fin) (b:List UInt8):0 ≤ (comeT n b).1 ∧ (comeT n b).1 < 1099511627776:=by
 by_cases h:(comeT n b).2.2.2 = 0
 ·have:=(Wo h).1
  have hs:=hn.domains
  unfold Am at hs
  unfold DomIn at this
  omega
 ·unfold comeT at h ⊢
  split
  ·decide
  rename_i h1
  rw [if_neg h1] at h
  split
  ·exact ⟨Int.le_refl _,by dsimp only; omega⟩
  rename_i h1
  rw [if_neg h1] at h
  split
  ·decide
  rename_i h1
  rw [if_neg h1] at h
  split
  ·decide
  rename_i h1
  rw [if_neg h1] at h
  exact absurd E h
theorem Ah3 {n:Net} (hn:n.Fin) {m:MacM} {J D:Int} (h:MacOK n m J D) (hD:0 ≤ D) {o:OutM} (ho:OutOK n o) (origin:Int):MacOK n (goesM n m o origin).1 J (D + 1):=by
 unfold goesM
 split
 ·exact h.mono (Int.le_refl _) (by omega)
 split
 ·have:=Zr hn o.port o.bytes
  exact Ou h hD _ (Ec (Zs _ _ _) _ (by omega) (by omega)) _
 split
 ·exact Ou h hD _ (Ec (Aam _ _) _ (by omega) (U0 hn o.bytes)) _
 split
 ·rename_i h4
  exact Ou h hD o.domain (Ec (a:=-2) (b:=0) (ho.frame h4).1 origin (by decide) (by decide)) 0
 ·exact Kp h hD _
theorem Km {n:Net} (hn:n.Fin) (origin:Int):∀ (l:List OutM) {m:MacM} {J D:Int},MacOK n m J D → 0 ≤ D → (∀ o ∈ l,OutOK n o) → MacOK n (Bg n m origin l).1 J (D + l.length)
 | [],m,J,D,h,_,_=>by
  rw [Bg]
  exact h.mono (Int.le_refl _) (by simp)
 | o :: l,m,J,D,h,hD,ho=>by
  rw [Bg]
  have:=Km hn origin l (Ah3 hn h hD (ho o (by simp)) origin) (by omega) (fun x hx=>ho x (by simp [hx]))
  exact this.mono (Int.le_refl _) (by simp only [List.length_cons]; omega)
theorem Zn {n:Net} {o:OutM} {r:List UInt8 × Int} (hk:1 ≤ o.kind ∧ o.kind ≤ 3) (hr:r.1.length ≤ 1518) (he:Bb r.2):OutOK n (M7 o r):=by
 unfold M7
 split
 ·exact ⟨⟨by dsimp only; omega,by dsimp only; omega⟩,by simp,fun h=>absurd h (by dsimp only; omega),fun _=>he⟩
 ·exact ⟨⟨hk.1,by have:=hk.2; dsimp only; omega⟩,hr,fun h=>by have:=hk.2; dsimp only at h; omega,fun h=>by have:=hk.2; dsimp only at h; omega⟩
theorem Ae4 {t:List EntryM} (h:TabOK t) {m:Nat} (hm:m < 18446744073709551616) {wh:Int} (hw:I64 wh) (now:Int):TabOK (learnT t m wh now):=by
 have hs:=h.short
 unfold Am at hs
 have key:∀ e:EntryM,e ∈ learnT t m wh now → e ∈ t ∨ e = ⟨m,wh,now⟩:=fun e he=>by
  unfold learnT at he
  split at he
  ·exact .inl he
  split at he
  ·rcases Xj he with h | h
   ·exact .inr h
   ·exact .inl h
  ·rcases List.mem_append.1 he with h | h
   ·split at h
    ·exact .inl (List.mem_of_mem_eraseIdx h)
    ·exact .inl h
   ·exact .inr (List.mem_singleton.1 h)
 refine ⟨?_,fun e he=>?_,fun e he=>?_⟩
 ·unfold learnT
  split
  ·exact h.short
  rename_i hb
  have h8:t.length ≤ 8:=by
   have:tableB t = true:=by cases hx:tableB t; exact absurd (.inl hx) hb; rfl
   simp only [tableB,Bool.and_eq_true,decide_eq_true_eq] at this
   exact this.1
  split
  ·unfold Am; simp; omega
  ·unfold Am
   split
   ·have:=List.length_eraseIdx_le t (oldestU t t.length)
    simp only [List.length_append,List.length_cons,List.length_nil]
    omega
   ·simp only [List.length_append,List.length_cons,List.length_nil]
    omega
 ·rcases key e he with h1 | rfl
  ·exact h.mac e h1
  ·exact hm
 ·rcases key e he with h1 | rfl
  ·exact h.wh e h1
  ·exact hw
theorem K5 {t:List EntryM} (h:TabOK t) {q:QueuedM} (hq:QueuedOK q) (now:Int):TabOK (learnQ t q now):=by
 unfold learnQ
 split
 ·exact h
 ·have hs:=hq.frame.src
  refine Ae4 h (by omega) ?_ now
  have h1:=hq.from_
  have h2:=hq.peer
  unfold I64
  split <;> omega
theorem Akd {t:List EntryM} (h:TabOK t) (now:Int):TabOK (ageT t now):=by
 unfold ageT
 split
 ·exact h
 ·have hs:=h.short
  unfold Am at hs
  refine ⟨?_,fun e he=>h.mac e (List.mem_filter.1 he).1,fun e he=>h.wh e (List.mem_filter.1 he).1⟩
  unfold Am
  exact Nat.lt_of_le_of_lt (List.length_filter_le _ _) hs
theorem Zj (n:Net) (dom:Int):(Ax n dom).length ≤ n.ports.length:=by
 rw [Ax]
 have:=Ds (Lv n (nth n.domains dom)) n.ports.length
 exact this
end Go.Sy.YtmelpejjondedaaGreat
namespace Go.Sy
theorem Ad0 {C:Cx} {kk:List KI} {s:SS} (q:Nat) (r:List Nat) {sz:Nat} {α:Type} {e:α → SV} {l:List α} (h:s.h q = .row sz e l) (hl:l ≠ []) (hr:∀ i ∈ r,s.σ i = .osl q)
  (hg:∀ b cap,l.length ≤ cap → G C kk ⟨freezeσ s.σ (.val (.slice (some ⟨b,0,none⟩) l.length cap)) r,upd s.h q (.pin b l.length cap sz e l)⟩):G C kk s:=fun κ a w hs=>by
 have hob:=hs.obj q
 rw [h] at hob
 rcases hob with ⟨_,h1⟩ | hrow
 ·exact absurd h1 hl
 obtain ⟨b,cap,cs,T,fr,e1,e2,e3,e4,e5,e6⟩:=hrow
 refine hg b cap e5 κ a w ⟨hs.defers,hs.size,hs.inv,hs.ctx,fun i=>?_,fun j=>?_⟩
 ·refine freezeσ_ok r _ i (hs.slot i) (fun hi=>?_)
  have:=hs.slot i
  rw [hr i hi] at this
  simp only [Rd,e1] at this
  simp only [Rd]
  exact this
 ·show ObOK κ w j (upd s.h q _ j)
  by_cases hj:j = q
  ·subst hj; rw [A7]; exact ⟨e1,b,cap,cs,T,fr,e1,e2,e3,e4,e5,e6⟩
  ·rw [Bn _ _ hj]; exact hs.obj j
theorem S5 {C:Cx} {kk:List KI} {s:SS} (q d:Nat) (r:List Nat) (m:Nat) {b n cap sz:Nat} {α:Type} {e:α → SV} {l:List α} (h:s.h q = .pin b n cap sz e l) (hd:s.h d = .fresh) (hm:m ≤ l.length)
  (hr:∀ i ∈ r,s.σ i = .val (.slice (some ⟨b,0,none⟩) m cap)) (hg:G C kk ⟨freezeσ s.σ (.osl d) r,upd (upd s.h q .non) d (.row sz e (l.take m))⟩):G C kk s:=fun κ a w hs=>by
 have hob:=hs.obj q
 rw [h] at hob
 have hnew:κ d = .new:=by have:=hs.obj d; rwa [hd] at this
 obtain ⟨e0,b',cap',cs,T,fr,e1,e2,e3,e4,e5,e6⟩:=hob
 rw [e0] at e1
 cases e1
 have hln:l.length ≤ n:=by
  by_cases h0:l.length = 0
  ·omega
  ·have:=(e6 (l.length - 1) _ ⟨by omega,rfl⟩).1
   omega
 obtain ⟨st,inv⟩:=Is (n':=m) (w':=w) hs.inv e0 hnew rfl rfl rfl rfl (fun _ _=>rfl)
 have hlt:(l.take m).length = m:=by rw [List.length_take]; omega
 refine hg _ a w ⟨hs.defers,hs.size,inv,hs.ctx.step inv st,fun j=>?_,fun j=>?_⟩
 ·refine freezeσ_ok r _ j (Rd.step st _ _ (hs.slot j)) (fun hj=>?_)
  have:=hs.slot j
  rw [hr j hj] at this
  simp only [Rd] at this
  simp [Rd,Ap,this]
 ·show ObOK _ w j (upd (upd s.h q .non) d _ j)
  by_cases hj:j = d
  ·subst hj; rw [A7]
   refine .inr ⟨b,cap,cs,T,fr,by rw [Ap,hlt],e2,e3,e4,by omega,fun i x hx=>?_⟩
   obtain ⟨hi,rfl⟩:=hx
   obtain ⟨_,u,q2,q3⟩:=e6 i (e l[i]) ⟨by omega,rfl⟩
   refine ⟨hi,u,?_,q3⟩
   rw [List.getElem_take]
   exact RdD.keep st.keeps _ _ q2
  ·rw [Bn _ _ hj]
   by_cases hj2:j = q
   ·subst hj2; rw [A7]; trivial
   ·rw [Bn _ _ hj2]; exact ObOK.step st (fun e=>e.elim hj2 hj) _ (hs.obj j)
theorem Cc {P:Program} (Γ:Ty P) {o:Oper} {s:SS} {t:TypeId} {ti:TI} {et:TypeId} {sz eb b n cap lo hi:Nat} {ez:List Value} {x:Operand} {lx hx:Option Operand}
  (h:o.op = .slice t x lx hx none) (ht:Γ.get t = some ti) (hk:ti.k = .slice et sz eb ez) (hxe:ev s x = .val (.slice (some ⟨b,0,none⟩) n cap)) (hlo:BoundIs s lx 0 lo) (hhi:BoundIs s hx n hi) (h1:lo ≤ hi) (h2:hi ≤ cap) :
  Good P o s ⟨.val (.slice (some (if cap = lo then ⟨b,0,none⟩ else ⟨b,lo * sz,none⟩)) (hi - lo) (cap - lo)),[],[]⟩ :=
 Good.pure fun κ a w _ hr _=>by
  have r1:=hr x (by simp [h,Op.operands])
  rw [hxe] at r1
  obtain ⟨hu,i,zv,q1,q2,q3,q4,q5⟩:=Bp Γ ht hk
  have b1:=hlo.val (a:=a) (fun y hy=>hr y (by simp [h,Op.operands,hy]))
  have b2:=hhi.val (a:=a) (fun y hy=>hr y (by simp [h,Op.operands,hy]))
  have hb:=D2 (P:=P) w (len:=n) (cap:=cap) b1 b2 h1 h2
  refine ⟨.slice (some (if cap = lo then ⟨b,0,none⟩ else ⟨b,lo * sz,none⟩)) (hi - lo) (cap - lo),?_,by simp only [Rd]⟩
  by_cases hc:cap = lo
  ·subst hc
   simp [execOp,h,r1.val,Instr.sliceAt,Instr.slice,run_underlying hu,hb,sizeOf,typeInfo,q1]
  ·simp [execOp,h,r1.val,Instr.sliceAt,Instr.slice,run_underlying hu,hb,sizeOf,typeInfo,q1,q2,hc,Addr.add_lit]
theorem Vi {P:Program} (Γ:Ty P) {o:Oper} {s:SS} {t:TypeId} {ti:TI} {et:TypeId} {sz eb b n cap lo hi mm:Nat} {ez:List Value} {x:Operand} {lx hx mx:Operand} {k1 k2 k3:IntKind}
  (h:o.op = .slice t x (some lx) (some hx) (some mx)) (ht:Γ.get t = some ti) (hk:ti.k = .slice et sz eb ez) (hxe:ev s x = .val (.slice (some ⟨b,0,none⟩) n cap)) (hlo:ev s lx = .val (.int k1 lo)) (hhi:ev s hx = .val (.int k2 hi)) (hmx:ev s mx = .val (.int k3 mm))
  (h1:lo ≤ hi) (h2:hi ≤ mm) (h3:mm ≤ cap):Good P o s ⟨.top,[],[]⟩ :=
 Good.pure fun κ a w _ hr _=>by
  have r1:=hr x (by simp [h,Op.operands])
  have r2:=hr lx (by simp [h,Op.operands])
  have r3:=hr hx (by simp [h,Op.operands])
  have r4:=hr mx (by simp [h,Op.operands])
  rw [hxe] at r1
  rw [hlo] at r2
  rw [hhi] at r3
  rw [hmx] at r4
  obtain ⟨hu,i,zv,q1,q2,q3,q4,q5⟩:=Bp Γ ht hk
  have hb:(Instr.sliceBounds true n cap (some (a.eval lx)) (some (a.eval hx)) (some (a.eval mx))).run P w = .ok (lo,hi,mm) w:=by
   rw [r2.val,r3.val,r4.val]
   simp [Instr.sliceBounds,Instr.sliceBound,asIntOf,h1,h2,h3]
  refine ⟨.slice (some (if mm = lo then ⟨b,0,none⟩ else ⟨b,lo * sz,none⟩)) (hi - lo) (mm - lo),?_,by simp only [Rd,RdD]⟩
  by_cases hc:mm = lo
  ·subst hc
   simp [execOp,h,r1.val,Instr.sliceAt,Instr.slice,run_underlying hu,hb,sizeOf,typeInfo,q1]
  ·simp [execOp,h,r1.val,Instr.sliceAt,Instr.slice,run_underlying hu,hb,sizeOf,typeInfo,q1,q2,hc,Addr.add_lit]
theorem J4 {κ:Ka} {w w':World} {k b n cap:Nat} (hi:Inv κ w) (hk:κ k = .row b n cap) (hos:w'.os = w.os) (ht:w'.tape = w.tape) (ho:w'.output = w.output)
  (hs:w'.heap.size = w.heap.size) (hb:∀ i,i ≠ b → w'.heap[i]? = w.heap[i]?):Step (fun j=>j = k) κ w κ w' ∧ Inv κ w':=by
 have hkb:(κ k).block? = some b:=by rw [hk]; rfl
 refine ⟨⟨by omega,hos,ht,ho,E,fun c hm=>hb c (fun e=>hi.apart k b hkb (e ▸ hm)),fun c _ hn=>hb c (fun e=>hn (.inl ⟨k,e ▸ hkb⟩)),fun j c hj hjc=>hb c (fun e=>hj ?_),fun _ _=>rfl,fun _ _=>.inr (.inl E),fun _ h=>.inl h⟩,
  ⟨hi.inj,fun j c h=>by rw [hs]; exact hi.bnd j c h,hi.apart,fun c h=>by rw [hs]; exact hi.mbnd c h⟩⟩
 subst e
 exact hi.inj j k _ hjc hkb
theorem Yy {cs:List Value} {sz n:Nat} (h:∀ i,i < n → ∃ u:Value,u.cells.size = sz ∧ Ones u.cells.toList ∧ ∀ j,j < sz → cs[i * sz + j]? = u.cells[j]?) {p:Nat} (hp:p < n * sz) {v:Value} (hv:cs[p]? = some v):v.oneCell' = true:=by
 have h0:0 < sz:=by
  rcases Nat.eq_zero_or_pos sz with rfl | h
  ·simp at hp
  ·exact h
 obtain ⟨u,h1,h2,h3⟩:=h (p / sz) (Nat.div_lt_of_lt_mul (by rw [Nat.mul_comm]; exact hp))
 have h4:=h3 (p % sz) (Nat.mod_lt _ h0)
 rw [Nat.mul_comm,Nat.div_add_mod,hv] at h4
 obtain ⟨hl,he⟩:=Array.getElem?_eq_some_iff.1 h4.symm
 refine h2 v ?_
 rw [← he]
 exact Array.getElem_mem_toList hl
theorem Sv {P:Program} (Γ:Ty P) {o:Oper} {s:SS} (q:Nat) {t:TypeId} {ti:TI} {et:TypeId} {sz eb b n cap i j:Nat} {ez:List Value} {x y:Operand} {α:Type} {e:α → SV} {l:List α} {B:Option Addr} {c:Nat}
  (h:o.op = .call ⟨.builtin .append,#[x,y],#[t,t]⟩) (ht:Γ.get t = some ti) (hk:ti.k = .slice et sz eb ez) (hx:ev s x = .val (.slice (some ⟨b,0,none⟩) i cap))
  (hy:ev s y = .val (.slice B (n - j) c)) (hB:B = some (if cap = j then ⟨b,0,none⟩ else ⟨b,j * sz,none⟩)) (hob:s.h q = .pin b n cap sz e l) (hl:l.length = n) (hij:i ≤ j) (hj:j ≤ n) :
  Good P o s ⟨.val (.slice (some ⟨b,0,none⟩) (i + (n - j)) cap),[],[(q,.pin b n cap sz e (l.take i ++ l.drop j))]⟩:=by
 intro κ a w hinv hr ho N Q hN
 have r1:=hr x (by simp [h,Op.operands,Call.operands])
 have r2:=hr y (by simp [h,Op.operands,Call.operands])
 rw [hx] at r1
 rw [hy] at r2
 subst hB
 have hq:=ho q (.inr (by simp [Up.ws]))
 rw [hob] at hq
 obtain ⟨e0,b',cap',cs,T,fr,e1,e2,e3,e4,e5,e6⟩:=hq
 rw [e0] at e1
 cases e1
 obtain ⟨hu,ii,zv,q1,q2,q3,q4,q5⟩:=Bp Γ ht hk
 have hall:∀ i,i < n → ∃ u:Value,u.cells.size = sz ∧ Ones u.cells.toList ∧ ∀ j,j < sz → cs[i * sz + j]? = u.cells[j]?:=fun i hi=>by
  obtain ⟨_,u,_,u2⟩:=e6 i (e l[i]) ⟨by omega,rfl⟩
  exact ⟨u,u2⟩
 obtain ⟨news,hnews⟩:∃ news,news = (cs.drop (j * sz)).take ((n - j) * sz):=⟨_,rfl⟩
 have hmul:(n - j) * sz + j * sz = n * sz:=by rw [← Nat.add_mul]; congr 1; omega
 have hnc:n * sz ≤ cap * sz:=Nat.mul_le_mul_right sz e5
 have hijs:i * sz ≤ j * sz:=Nat.mul_le_mul_right sz hij
 have hnl:news.length = (n - j) * sz:=by rw [hnews,List.length_take,List.length_drop]; omega
 have hget:∀ p,p < (n - j) * sz → news[p]? = cs[j * sz + p]?:=fun p hp=>by
  rw [hnews,List.getElem?_take,if_pos hp,List.getElem?_drop]
 have hones:Ones news:=fun v hv=>by
  obtain ⟨p,hp,he⟩:=List.getElem_of_mem hv
  have h1:news[p]? = some v:=by rw [List.getElem?_eq_getElem hp,he]
  rw [hnl] at hp
  rw [hget p hp] at h1
  exact Yy hall (by omega) h1
 obtain ⟨w',f1,f2,f3,f4,f5,f6,f7⟩:=Bz P b (i * sz) T fr news 0 cs w e2 e3 (by omega) hones
 obtain ⟨st,inv⟩:=J4 hinv e0 f3 f4 f5 f6 f7
 have hroom:i + (n - j) ≤ cap:=by omega
 have hcell:∀ p v,cs[p]? = some v → w.cell? ⟨b,p,none⟩ = some v:=fun p v hp=>by
  simp [World.cell?,e2,hp]
 have hc:(Builtin.firstCells sz (n - j) (.slice (some (if cap = j then ⟨b,0,none⟩ else ⟨b,j * sz,none⟩)) (n - j) c)).run P w = .ok news.toArray w:=by
  by_cases hcj:cap = j
  ·have h0:n - j = 0:=by omega
   rw [if_pos hcj,h0]
   have h1:news = []:=by rw [h0] at hnl; simpa using hnl
   rw [h1]
   exact run_firstCells_some (P:=P) w sz 0 ⟨b,0,none⟩ 0 c [] (by simp) (fun j v hj=>by simp at hj)
  ·rw [if_neg hcj]
   refine run_firstCells_some (P:=P) w sz (n - j) ⟨b,j * sz,none⟩ (n - j) c news hnl (fun p v hp=>?_)
   rw [Addr.add_lit]
   have hlt:p < (n - j) * sz:=by
    rw [← hnl]; exact (List.getElem?_eq_some_iff.1 hp).1
   rw [hget p hlt] at hp
   exact hcell _ _ hp
 have hrun:(execOp a.eval o).run P w = .ok (.value (.slice (some ⟨b,0,none⟩) (i + (n - j)) cap)) w':=by
  simp [execOp,h,resolve,invoke,builtin,Builtin.append_,r1.val,r2.val,run_underlying hu,sizeOf,typeInfo,q1,q2,Builtin.lenOf,hroom,hc,Addr.add_lit,f1]
 simp only [Oper.wp,hrun,Oper.upon]
 refine hN _ κ w' (st.weaken (fun k hk=>by subst hk; simp [Up.ws])) inv (by simp only [Rd]) (fun p hp=>?_)
 simp only [List.mem_singleton] at hp
 subst hp
 refine ⟨e0,b,cap,_,T,fr,e0,f2,by rw [Be]; exact e3,by rw [Be]; exact e4,e5,?_⟩
 rintro k z ⟨hk0,rfl⟩
 have hset:=Ho cs news (i * sz + 0)
 have hlen:(l.take i ++ l.drop j).length = i + (n - j):=by rw [List.length_append,List.length_take,List.length_drop]; omega
 rw [hlen] at hk0
 by_cases hki:k < i
 ·obtain ⟨_,u,u1,u2,u3,u4⟩:=e6 k (e l[k]) ⟨by omega,rfl⟩
  have:(k + 1) * sz ≤ i * sz:=Nat.mul_le_mul_right sz (by omega)
  rw [Nat.add_mul,Nat.one_mul] at this
  refine ⟨by omega,u,?_,u2,u3,fun p hp=>?_⟩
  ·rw [List.getElem_append_left (by rw [List.length_take]; omega),List.getElem_take]
   exact RdD.keep st.keeps _ _ u1
  ·rw [hset _ (by omega),if_neg (by omega),u4 p hp]
 ·obtain ⟨_,u,u1,u2,u3,u4⟩:=e6 (j + (k - i)) (e l[j + (k - i)]) ⟨by omega,rfl⟩
  have hks:k * sz = i * sz + (k - i) * sz:=by rw [← Nat.add_mul]; congr 1; omega
  have hjs:(j + (k - i)) * sz = j * sz + (k - i) * sz:=by rw [← Nat.add_mul]
  have:(k - i + 1) * sz ≤ (n - j) * sz:=Nat.mul_le_mul_right sz (by omega)
  rw [Nat.add_mul,Nat.one_mul] at this
  refine ⟨by omega,u,?_,u2,u3,fun p hp=>?_⟩
  ·rw [List.getElem_append_right (by rw [List.length_take]; omega),List.getElem_drop]
   have hidx:j + (k - (l.take i).length) = j + (k - i):=by rw [List.length_take]; omega
   simp only [hidx]
   exact RdD.keep st.keeps _ _ u1
  ·rw [hset _ (by omega),if_pos (by omega),← u4 p hp,hjs]
   rw [show k * sz + p - (i * sz + 0) = (k - i) * sz + p by omega,hget _ (by omega)]
   congr 1
   omega
theorem H1 {P:Program} (Γ:Ty P) {o:Oper} {s:SS} (q:Nat) {t:TypeId} {ti:TI} {et:TypeId} {sz eb b n cap k m c:Nat} {ez:List Value} {x:Operand} {α:Type} {e:α → SV} {l:List α} {B:Option Addr}
  (h:o.op = .call ⟨.builtin .clear,#[x],#[t]⟩) (ht:Γ.get t = some ti) (hk:ti.k = .slice et sz eb ez) (hez:ez.length = sz) (hz1:∀ v ∈ ez,v.oneCell' = true) (hx:ev s x = .val (.slice B m c)) (hB:B = some (if cap = k then ⟨b,0,none⟩ else ⟨b,k * sz,none⟩))
  (hob:s.h q = .pin b n cap sz e l) (hkl:k ≤ l.length) (hm:k + m ≤ cap) :
  Good P o s ⟨.tup [],[],[(q,.pin b n cap sz e (l.take k))]⟩:=by
 intro κ a w hinv hr ho N Q hN
 have r1:=hr x (by simp [h,Op.operands,Call.operands])
 rw [hx] at r1
 subst hB
 have hq:=ho q (.inr (by simp [Up.ws]))
 rw [hob] at hq
 obtain ⟨e0,b',cap',cs,T,fr,e1,e2,e3,e4,e5,e6⟩:=hq
 rw [e0] at e1
 cases e1
 obtain ⟨hu,ii,zv,q1,q2,q3,q4,q5⟩:=Bp Γ ht hk
 have hzs:zv.cells.size = sz:=by rw [← hez,← q5]; simp
 have hlt:(l.take k).length = k:=by rw [List.length_take]; omega
 by_cases hm0:m = 0
 ·subst hm0
  have hrun:(execOp a.eval o).run P w = .ok (.value (.tuple #[])) w:=by
   simp [execOp,h,resolve,invoke,builtin,Builtin.clear_,r1.val,run_underlying hu]
  simp only [Oper.wp,hrun,Oper.upon]
  refine hN _ κ w (Step.refl _ κ w) hinv (by simp [Rd,RdL]) (fun p hp=>?_)
  simp only [List.mem_singleton] at hp
  subst hp
  refine ⟨e0,b,cap,cs,T,fr,e0,e2,e3,e4,e5,?_⟩
  rintro p z ⟨hp0,rfl⟩
  rw [List.getElem_take]
  exact e6 p (e l[p]) ⟨by omega,E⟩
 obtain ⟨m,rfl⟩:∃ p,m = p + 1:=⟨m - 1,by omega⟩
 rw [if_neg (by omega)] at r1
 obtain ⟨news,hnews⟩:∃ news,news = (Builtin.zeroCells zv.cells (m + 1)).toList:=⟨_,rfl⟩
 have hnl:news.length = (m + 1) * sz:=by rw [hnews,Array.length_toList,Ls,hzs]
 have hones:Ones news:=fun v hv=>by
  rw [hnews,Array.mem_toList_iff] at hv
  refine hz1 v ?_
  rw [← q5]
  simp only [Builtin.zeroCells,Array.mem_map,Array.mem_range] at hv
  obtain ⟨p,hp,rfl⟩:=hv
  have h0:0 < zv.cells.size:=by
   rcases Nat.eq_zero_or_pos zv.cells.size with h | h
   ·rw [h] at hp; simp at hp
   ·exact h
  have hlt2:p % zv.cells.size < zv.cells.size:=Nat.mod_lt _ h0
  rw [getElem!_pos zv.cells _ hlt2]
  exact Array.getElem_mem_toList hlt2
 have hmul:k * sz + (m + 1) * sz ≤ cap * sz:=by rw [← Nat.add_mul]; exact Nat.mul_le_mul_right sz hm
 obtain ⟨w',f1,f2,f3,f4,f5,f6,f7⟩:=Bz P b (k * sz) T fr news 0 cs w e2 e3 (by omega) hones
 obtain ⟨st,inv⟩:=J4 hinv e0 f3 f4 f5 f6 f7
 have hrun:(execOp a.eval o).run P w = .ok (.value (.tuple #[])) w':=by
  simp [execOp,h,resolve,invoke,builtin,Builtin.clear_,r1.val,run_underlying hu,zeroValue,typeInfo,q1,q4,← hnews,f1]
 simp only [Oper.wp,hrun,Oper.upon]
 refine hN _ κ w' (st.weaken (fun k hk=>by subst hk; simp [Up.ws])) inv (by simp [Rd,RdL]) (fun p hp=>?_)
 simp only [List.mem_singleton] at hp
 subst hp
 refine ⟨e0,b,cap,_,T,fr,e0,f2,by rw [Be]; exact e3,by rw [Be]; exact e4,e5,?_⟩
 rintro p z ⟨hp0,rfl⟩
 have hset:=Ho cs news (k * sz + 0)
 obtain ⟨h0,u,u1,u2,u3,u4⟩:=e6 p (e l[p]) ⟨by omega,rfl⟩
 have:(p + 1) * sz ≤ k * sz:=Nat.mul_le_mul_right sz (by omega)
 rw [Nat.add_mul,Nat.one_mul] at this
 refine ⟨h0,u,?_,u2,u3,fun j hj=>?_⟩
 ·rw [List.getElem_take]
  exact RdD.keep st.keeps _ _ u1
 ·have hcl:k * sz ≤ cs.length:=by omega
  rw [hset _ (by omega),if_neg (by omega),u4 j hj]
theorem G_dat {C:Cx} {kk:List KI} {s:SS} (i q:Nat) {sz:Nat} {α:Type} {e:α → SV} {l:List α} (h:s.σ i = .sl sz e l) (hl:l ≠ [])
  (hg:∀ b off cap,l.length ≤ cap → G C kk ⟨upd s.σ i (.val (.slice (some ⟨b,off,none⟩) l.length cap)),upd s.h q (.dat (.slice (some ⟨b,off,none⟩) l.length cap) sz e l)⟩):G C kk s:=fun κ a w hs=>by
 have h1:=hs.slot i
 rw [h] at h1
 have h1':=h1
 simp only [Rd,RdD] at h1
 rcases h1 with ⟨h2,_⟩ | ⟨b,off,cap,h2,h3,_⟩
 ·exact absurd h2 hl
 ·refine hg b off cap h3 κ a w ⟨hs.defers,hs.size,hs.inv,hs.ctx,fun j=>?_,fun j=>?_⟩
  ·show Rd κ w (upd s.σ i (.val (.slice (some ⟨b,off,none⟩) l.length cap)) j) _
   by_cases hj:j = i
   ·subst hj; rw [A7]; simp only [Rd]; exact h2
   ·rw [Bn _ _ hj]; exact hs.slot j
  ·show ObOK κ w j (upd s.h q (.dat (.slice (some ⟨b,off,none⟩) l.length cap) sz e l) j)
   by_cases hj:j = q
   ·subst hj; rw [A7]; rw [h2] at h1'; exact h1'
   ·rw [Bn _ _ hj]; exact hs.obj j
theorem Vj {P:Program} (Γ:Ty P) {o:Oper} {s:SS} {t:TypeId} {ti:TI} {et:TypeId} {sz eb b off n cap hi:Nat} {ez:List Value} {x hx mx:Operand} {k2 k3:IntKind}
  (h:o.op = .slice t x none (some hx) (some mx)) (ht:Γ.get t = some ti) (hk:ti.k = .slice et sz eb ez) (hxe:ev s x = .val (.slice (some ⟨b,off,none⟩) n cap)) (hhi:ev s hx = .val (.int k2 hi)) (hmx:ev s mx = .val (.int k3 hi))
  (h3:hi ≤ cap):Good P o s ⟨.val (.slice (some ⟨b,off,none⟩) hi hi),[],[]⟩ :=
 Good.pure fun κ a w _ hr _=>by
  have r1:=hr x (by simp [h,Op.operands])
  have r3:=hr hx (by simp [h,Op.operands])
  have r4:=hr mx (by simp [h,Op.operands])
  rw [hxe] at r1
  rw [hhi] at r3
  rw [hmx] at r4
  obtain ⟨hu,i,zv,q1,q2,q3,q4,q5⟩:=Bp Γ ht hk
  have hb:(Instr.sliceBounds true n cap none (some (a.eval hx)) (some (a.eval mx))).run P w = .ok (0,hi,hi) w:=by
   rw [r3.val,r4.val]
   simp [Instr.sliceBounds,Instr.sliceBound,asIntOf,h3]
  refine ⟨.slice (some ⟨b,off,none⟩) hi hi,?_,by simp only [Rd]⟩
  by_cases hc:hi = 0
  ·subst hc
   simp [execOp,h,r1.val,Instr.sliceAt,Instr.slice,run_underlying hu,hb,sizeOf,typeInfo,q1]
  ·simp [execOp,h,r1.val,Instr.sliceAt,Instr.slice,run_underlying hu,hb,sizeOf,typeInfo,q1,q2,hc,Addr.add_lit]
theorem Vp {P:Program} (Γ:Ty P) {o:Oper} {s:SS} (q:Nat) {t:TypeId} {ti:TI} {et:TypeId} {sz eb b off n cap:Nat} {ez:List Value} {x y:Operand} {α:Type} {e:α → SV} {l l':List α}
  (h:o.op = .call ⟨.builtin .append,#[x,y],#[t,t]⟩) (ht:Γ.get t = some ti) (hk:ti.k = .slice et sz eb ez) (hez:ez.length = sz) (hx:ev s x = .val (.slice (some ⟨b,off,none⟩) n n))
  (hq:s.h q = .dat (.slice (some ⟨b,off,none⟩) l.length cap) sz e l) (hn:n ≤ l.length) (hy:ev s y = .sl sz e l') (hbytes:(n + l'.length) * eb ≤ 140737488355328) (h63:n + l'.length ≤ 9223372036854775807) :
  Good P o s ⟨.sl sz e (l.take n ++ l'),[q],[]⟩:=by
 intro κ a w hinv hr ho N Q hN
 have r1:=hr x (by simp [h,Op.operands,Call.operands])
 have r2:=hr y (by simp [h,Op.operands,Call.operands])
 rw [hx] at r1
 rw [hy] at r2
 have hq1:=ho q (.inl (by simp))
 rw [hq] at hq1
 have hq1:Rd κ w (.sl sz e l) (.slice (some ⟨b,off,none⟩) l.length cap):=hq1
 obtain ⟨hu,ii,zv,q1,q2,q3,q4,q5⟩:=Bp Γ ht hk
 have hzs:zv.cells.size = sz:=by rw [← hez,← q5]; simp
 have htl:(l.take n).length = n:=by rw [List.length_take]; omega
 have hbase:Rd κ w (.sl sz e (l.take n)) (.slice (some ⟨b,off,none⟩) n n):=by
  simp only [Rd,RdD] at hq1 ⊢
  rcases hq1 with ⟨h0,_⟩ | ⟨b2,off2,cap2,h2,h3,h4,h5,h6⟩
  ·have hn0:n = 0:=by rw [h0] at hn; simpa using hn
   subst hn0
   exact .inl ⟨by simp,_,_,E⟩
  ·cases h2
   refine .inr ⟨b,off,n,by rw [htl],by rw [htl]; exact Nat.le_refl _,h4,h5,fun i hi=>?_⟩
   obtain ⟨u,h7,h8⟩:=h6 i (by omega)
   exact ⟨u,by rw [List.getElem_take]; exact h7,h8⟩
 have hrb:=hbase.src
 have hru:=r2.src
 rw [htl] at hrb
 obtain ⟨m,hm⟩:∃ m,l'.length = m:=⟨_,rfl⟩
 rw [hm] at hru hbytes h63
 generalize hve:a.eval y = u at *
 obtain ⟨ad,c,news,hu2,hnl,hn1,hnc,hng⟩:∃ (a:Option Addr) (c:Nat) (news:List Value),u = .slice a m c ∧ news.length = m * sz ∧ Ones news ∧ (∀ W:World,(∀ p:Addr,p.block < w.heap.size → W.cell? p = w.cell? p) → (Builtin.firstCells sz m u).run P W = .ok news.toArray W) ∧
   (∀ j x,rowF e l' j x → j < m ∧ ∃ q:Value,RdD (Own κ) w x q ∧ q.cells.size = sz ∧ Ones q.cells.toList ∧ ∀ l,l < sz → news[j * sz + l]? = q.cells[l]?):=by
  rcases hru with ⟨rfl,hno,a,c,rfl⟩ | ⟨b,o,c,news,rfl,h1,h2,h3,h4⟩
  ·refine ⟨a,c,[],E,by simp,by simp [Ones],fun W _=>?_,fun j x h=>absurd h (hno j x)⟩
   cases a <;> simp [Builtin.firstCells,loadCells,loadCellsFrom]
  ·refine ⟨some ⟨b,o,none⟩,c,news,E,h1,h2,fun W hW=>?_,fun j x hx=>h4 j x hx⟩
   exact run_firstCells_some (P:=P) W sz m ⟨b,o,none⟩ m c news h1 (fun j q hj=>by
    rw [Addr.add_lit]
    have h5:=h3 j q hj
    rw [hW _ (by exact World.block_lt_of_cell? w _ h5),h5])
 subst hu2
 by_cases hm0:m = 0
 ·subst hm0
  have hl':l' = []:=List.eq_nil_of_length_eq_zero hm
  subst hl'
  have hc:=hnc w (fun _ _=>rfl)
  have hnn:news = []:=by simpa using hnl
  subst hnn
  have hrun:(execOp a.eval o).run P w = .ok (.value (.slice (some ⟨b,off,none⟩) n n)) w:=by
   simp [execOp,h,resolve,invoke,builtin,Builtin.append_,r1.val,hve,run_underlying hu,sizeOf,typeInfo,q1,q2,Builtin.lenOf,hc,storeCells]
  simp only [Oper.wp,hrun,Oper.upon]
  refine hN _ κ w (Step.refl _ κ w) hinv ?_ (fun p hp=>by cases hp)
  rw [List.append_nil]
  exact hbase
 obtain ⟨olds,hol,hof,hfo⟩:∃ olds:List Value,olds.length = n * sz ∧ (∀ j x,rowF e (l.take n) j x → j < n → ∃ q:Value,RdD (Own κ) w x q ∧ q.cells.size = sz ∧ Ones q.cells.toList ∧ ∀ l,l < sz → olds[j * sz + l]? = q.cells[l]?) ∧
   (Builtin.firstCells sz n (.slice (some ⟨b,off,none⟩) n n)).run P w.drew = .ok olds.toArray w.drew:=by
  rcases hrb with ⟨rfl,hno,_⟩ | ⟨b2,o2,c2,olds,he,g1,g2,g3,g4⟩
  ·exact ⟨[],by simp,fun j x _ hj=>absurd hj (by omega),run_firstCells_some (P:=P) w.drew sz 0 ⟨b,off,none⟩ 0 0 [] (by simp) (fun j v hj=>by simp at hj)⟩
  ·cases he
   exact ⟨olds,g1,fun j x hx _=>(g4 j x hx).2,run_firstCells_some (P:=P) w.drew sz n ⟨b,off,none⟩ n n olds g1 (fun j v hj=>by
    have:=g3 j v hj
    rw [Addr.add_lit]; simpa using this)⟩
 have hcap:n + m ≤ grownCap w (n + m) n et:=grownCap_ge w (n + m) n et
 have h48:¬ (281474976710656 < Builtin.nextslicecap (n + m) n * ii.bytes):=by
  have:=growslice_fits (need:=n + m) (old:=n) (bytes:=ii.bytes) (by omega) (by rw [q3]; exact hbytes)
  omega
 have h63':¬ (9223372036854775807 < (n:Int) + (m:Int)):=by omega
 have hroom:¬ n + m ≤ n:=by omega
 have hc:=hnc w.drew (fun _ _=>rfl)
 obtain ⟨w',hw'⟩:∃ w',w.drew.alloc (.cells (olds.toArray ++ news.toArray ++ Builtin.zeroCells zv.cells (grownCap w (n + m) n et - (n + m))) et) = w':=⟨_,rfl⟩
 have hrun:(execOp a.eval o).run P w = .ok (.value (.slice (some ⟨w.heap.size,0,none⟩) (n + m) (grownCap w (n + m) n et))) w':=by
  rw [← hw']
  simp [execOp,h,resolve,invoke,builtin,Builtin.append_,r1.val,hve,run_underlying hu,sizeOf,typeInfo,zeroValue,q4,q1,q2,Builtin.lenOf,hm0,h63',h48,Question.forced,hfo,hc,newRow,grownCap]
  rw [if_neg hroom]
  have ea:∀ Z:Array Value,olds.toArray ++ (news.toArray ++ Z) = (olds ++ news).toArray ++ Z:=fun Z=>by apply Array.ext'; simp
  rw [ea]
 have g0:Grew w w':=by rw [← hw']; exact (Grew.drew w).trans (Grew.alloc _ _)
 obtain ⟨st,inv⟩:=Ad9 hinv g0
 have hblk:w'.heap[w.heap.size]? = some (.cells (olds ++ news ++ (Builtin.zeroCells zv.cells (grownCap w (n + m) n et - (n + m))).toList).toArray et):=by
  rw [← hw']
  have:(w.drew.alloc (.cells (olds.toArray ++ news.toArray ++ Builtin.zeroCells zv.cells (grownCap w (n + m) n et - (n + m))) et)).heap[w.heap.size]? = some (.cells (olds.toArray ++ news.toArray ++ Builtin.zeroCells zv.cells (grownCap w (n + m) n et - (n + m))) et):=heap_alloc_new w.drew _
  rw [this]
  congr 2
  apply Array.ext'
  simp
 have hsz:w.heap.size < w'.heap.size:=by rw [← hw']; simp
 simp only [Oper.wp,hrun,Oper.upon]
 refine hN _ κ w' (st.weaken (fun _ h=>h.elim)) inv ?_ (fun p hp=>by cases hp)
 simp only [Rd,RdD]
 have hlen:(l.take n ++ l').length = n + m:=by rw [List.length_append,htl,hm]
 refine .inr ⟨w.heap.size,0,grownCap w (n + m) n et,by rw [hlen],by rw [hlen]; exact hcap,?_,hsz,fun j hj=>?_⟩
 ·rintro (⟨k,hk⟩ | hk)
  ·exact Nat.lt_irrefl _ (hinv.bnd k _ hk)
  ·exact Nat.lt_irrefl _ (hinv.mbnd _ hk)
 ·rw [hlen] at hj
  by_cases hjn:j < n
  ·obtain ⟨qv,g1,g2,g3,g4⟩:=hof j (e (l.take n)[j]) ⟨by omega,rfl⟩ hjn
   refine ⟨qv,by rw [List.getElem_append_left (by omega)]; exact RdD.keep st.keeps _ _ g1,g2,g3,fun p hp=>?_⟩
   have:(j + 1) * sz ≤ n * sz:=Nat.mul_le_mul_right sz (by omega)
   rw [Nat.add_mul,Nat.one_mul] at this
   rw [cell_of_row w' _ _ _ et (0,0) hblk,List.getElem?_toArray,List.append_assoc,List.getElem?_append_left (by omega),Nat.zero_add]
   exact g4 p hp
  ·obtain ⟨_,qv,g1,g2,g3,g4⟩:=hng (j - n) (e (l'[j - n]'(by omega))) ⟨by omega,rfl⟩
   refine ⟨qv,?_,g2,g3,fun p hp=>?_⟩
   ·rw [List.getElem_append_right (by omega)]
    simp only [htl]
    exact RdD.keep st.keeps _ _ g1
   ·have e1:j * sz = n * sz + (j - n) * sz:=by rw [← Nat.add_mul]; congr 1; omega
    have:(j - n + 1) * sz ≤ m * sz:=Nat.mul_le_mul_right sz (by omega)
    rw [Nat.add_mul,Nat.one_mul] at this
    rw [cell_of_row w' _ _ _ et (0,0) hblk,List.getElem?_toArray,List.append_assoc,List.getElem?_append_right (by omega),List.getElem?_append_left (by omega),← g4 p hp]
    congr 1
    omega
theorem Q9 {P:Program} {o:Oper} {s:SS} (q:Nat) {sz:Nat} {α:Type} {e:α → SV} {l:List α} {v:Value} {x:Operand} (h:o.op = .move x ∨ o.op = .assign x) (hx:ev s x = .val v) (hq:s.h q = .dat v sz e l):Good P o s ⟨.sl sz e l,[q],[]⟩ :=
 Good.pure fun κ a w _ hr ho=>by
  have hq1:=ho q (by simp)
  rw [hq] at hq1
  have hr1:=hr x (by rcases h with h | h <;> simp [h,Op.operands])
  rw [hx] at hr1
  refine ⟨a.eval x,?_,?_⟩
  ·rcases h with h | h <;> simp [execOp,h]
  ·rw [hr1.val]; exact hq1
theorem Um {f g:Nat → Option (Nat × Nat)}:∀ (ps:List (Nat × Value)) (cs:Array Value),(∀ p ∈ ps,f p.1 = g p.1) → Instr.fill f cs ps = Instr.fill g cs ps
 | [],cs,_=>rfl
 | (i,v) :: ps,cs,h=>by
  have h1:=h (i,v) (by simp)
  simp only [Instr.fill]
  dsimp only at h1
  rw [h1]
  cases g i with
  | none=>rfl
  | some os =>
   dsimp only
   split
   ·rfl
   ·exact Um ps _ (fun p hp=>h p (by simp [hp]))
theorem Z3 {P:Program} (Γ:Ty P) {o:Oper} {s:SS} {t et:TypeId} {ti:TI} {len esz:Nat} {ps:List (Nat × Operand)} {out:List SV} (h:o.op = .build t ps.toArray) (ht:Γ.get t = some ti) (hk:ti.k = .array et len esz)
  (h1:Q3 ti.zero = true) (hps:(ps.all fun p=>Nat.blt p.1 len) = true) (hf:Un ((List.range len).map fun i=>(i * esz,esz)) (ti.zero.map .val) (ps.map fun p=>(p.1,ev s p.2)) = some out):Good P o s ⟨.agg out,[],[]⟩ :=
 Good.pure fun κ a w _ hr _=>by
  obtain ⟨d,info,z,k1,k2,k3,k4,k5,k6⟩:=Γ.ok t ti ht
  obtain ⟨hu,i,q1,q2⟩:=Kt Γ ht hk
  have hops:∀ p ∈ ps,Rd κ w (ev s p.2) (a.eval p.2):=fun p hp=>hr p.2 (by
   simp only [h,Op.operands]
   simp only [List.mem_toArray,List.mem_map]
   exact ⟨p,hp,E⟩)
  obtain ⟨r,r1,r2,r3⟩:=Xv (κ:=κ) (w:=w) (a:=a) ps _ out z.cells (by rw [k6]; exact Ox _) (by rw [k6]; exact Kd h1) hops hf
  refine ⟨.agg r,?_,?_⟩
  ·have hcg:=Um (f:=fun i=>some (i * esz,esz)) (g:=fun i=>((List.range len).map fun i=>(i * esz,esz))[i]?) (ps.map fun p=>(p.1,a.eval p.2)) z.cells (fun p hp=>by
    obtain ⟨x,hx,rfl⟩:=List.mem_map.1 hp
    have hlt:x.1 < len:=Nat.le_of_ble_eq_true (List.all_eq_true.1 hps x hx)
    dsimp only
    rw [List.getElem?_map,List.getElem?_range hlt]
    rfl)
   simp only [execOp,h,Sem.run_bind,Instr.build,zeroValue,typeInfo,run_program,Result.andThen_ok,k3,k5,Sem.run_pure,run_underlying hu,sizeOf,q1,q2,List.map_toArray]
   rw [hcg,r1]
   simp
  ·simp only [Rd]
   exact ⟨r.toList,by simp,r3,r2⟩
mutual
def rnb (k d:Nat):SV → SV
 | .ptr j o=>bif Nat.beq j k then .ptr d o else .ptr j o
 | .agg l=>.agg (Tm k d l)
 | .tup l=>.tup (Tm k d l)
 | .ifc t y=>.ifc t (rnb k d y)
 | .clo f g l=>.clo f (Tm k d g) (Tm k d l)
 | y=>y
def Tm (k d:Nat):List SV → List SV
 | []=>[]
 | y :: l=>rnb k d y :: Tm k d l
end
mutual
theorem Abd {κ κ':Ka} {w:World} {K:Nat → Prop} {k d:Nat} (st:Step K κ w κ' w) (hx:∀ o v,Rd κ w (.ptr k o) v → Rd κ' w (.ptr d o) v):∀ (y:SV) (v:Value),Rd κ w y v → Rd κ' w (rnb k d y) v
 | .ptr j o,v,h=>by
  unfold rnb
  by_cases hk:j = k
  ·subst hk; rw [show Nat.beq j j = true from Nat.beq_refl j]; exact hx o v h
  ·rw [show Nat.beq j k = false from by cases hb:Nat.beq j k with | false=>rfl | true=>exact absurd (Nat.eq_of_beq_eq_true hb) hk]; exact Rd.step st _ _ h
 | .agg l,v,h=>by
  simp only [Rd] at h
  unfold rnb
  simp only [Rd]
  obtain ⟨cs,h1,h2,h3⟩:=h
  exact ⟨cs,h1,h2,Jf st hx l cs h3⟩
 | .tup l,v,h=>by
  simp only [Rd] at h
  unfold rnb
  simp only [Rd]
  obtain ⟨cs,h1,h3⟩:=h
  exact ⟨cs,h1,Jf st hx l cs h3⟩
 | .ifc t y,v,h=>by
  simp only [Rd] at h
  unfold rnb
  simp only [Rd]
  obtain ⟨u,h1,h3⟩:=h
  exact ⟨u,h1,Abd st hx y u h3⟩
 | .clo f g l,v,h=>by
  simp only [Rd] at h
  unfold rnb
  simp only [Rd]
  obtain ⟨fs,cs,h1,h2,h3⟩:=h
  exact ⟨fs,cs,h1,Jf st hx g fs h2,Jf st hx l cs h3⟩
 | .top,v,h=>by unfold rnb; exact Rd.step st _ _ h
 | .val u,v,h=>by unfold rnb; exact Rd.step st _ _ h
 | .sl sz e l,v,h=>by unfold rnb; exact Rd.step st _ _ h
 | .ref sz z o,v,h=>by unfold rnb; exact Rd.step st _ _ h
 | .rpt k sz i o,v,h=>by unfold rnb; exact Rd.step st _ _ h
 | .osl k,v,h=>by unfold rnb; exact Rd.step st _ _ h
theorem Jf {κ κ':Ka} {w:World} {K:Nat → Prop} {k d:Nat} (st:Step K κ w κ' w) (hx:∀ o v,Rd κ w (.ptr k o) v → Rd κ' w (.ptr d o) v):∀ (l:List SV) (vs:List Value),RdL κ w l vs → RdL κ' w (Tm k d l) vs
 | [],vs,h=>by
  unfold Tm
  simpa [RdL] using h
 | y :: l,vs,h=>by
  simp only [RdL] at h
  unfold Tm
  simp only [RdL]
  obtain ⟨v,r,h1,h2,h3⟩:=h
  exact ⟨v,r,h1,Abd st hx y v h2,Jf st hx l r h3⟩
end
def rnbO (k d:Nat):Ob → Ob
 | .box l=>.box (Tm k d l)
 | o=>o
theorem Aa6 {κ:Ka} {w:World} {k d b:Nat} (hi:Inv κ w) (hk:κ k = .blk b) (hd:κ d = .new) :
  Step (fun j=>j = k ∨ j = d) κ w (Ce (Ce κ k .dead) d (.blk b)) w ∧ Inv (Ce (Ce κ k .dead) d (.blk b)) w:=by
 have hkd:k ≠ d:=fun e=>by subst e; rw [hk] at hd; cases hd
 have hkb:(κ k).block? = some b:=by rw [hk]; rfl
 have key:∀ j c,((Ce (Ce κ k .dead) d (.blk b)) j).block? = some c → (j = d ∧ c = b) ∨ (j ≠ d ∧ j ≠ k ∧ (κ j).block? = some c):=by
  intro j c h
  by_cases hj:j = d
  ·subst hj; rw [Ap] at h; exact .inl ⟨rfl,by simpa [Ent.block?] using h.symm⟩
  ·rw [Bd _ _ hj] at h
   by_cases hj2:j = k
   ·subst hj2; rw [Ap] at h; cases h
   ·rw [Bd _ _ hj2] at h; exact .inr ⟨hj,hj2,h⟩
 refine ⟨⟨Nat.le_refl _,E,E,E,E,fun _ _=>rfl,fun _ _ _=>rfl,fun _ _ _ _=>rfl,fun j hj=>?_,?_,?_⟩,⟨?_,?_,?_,fun c h=>hi.mbnd c h⟩⟩
 ·rw [Bd _ _ (fun e=>hj (.inr e)),Bd _ _ (fun e=>hj (.inl e))]
 ·rintro j (rfl | rfl)
  ·exact .inr (.inr (by rw [Bd _ _ hkd,Ap]))
  ·exact .inl hd
 ·rintro c (⟨j,hj⟩ | hj)
  ·rcases key j c hj with ⟨_,rfl⟩ | ⟨_,_,h⟩
   ·exact .inl (.inl ⟨k,hkb⟩)
   ·exact .inl (.inl ⟨j,h⟩)
  ·exact .inl (.inr hj)
 ·intro i j c h1 h2
  rcases key i c h1 with ⟨a1,a2⟩ | ⟨a1,a2,a3⟩ <;> rcases key j c h2 with ⟨b1,b2⟩ | ⟨b1,b2,b3⟩
  ·exact a1.trans b1.symm
  ·subst a2; exact absurd (hi.inj j k _ b3 hkb) b2
  ·subst b2; exact absurd (hi.inj i k _ a3 hkb) a2
  ·exact hi.inj i j c a3 b3
 ·intro j c h
  rcases key j c h with ⟨_,rfl⟩ | ⟨_,_,h⟩
  ·exact hi.bnd k _ hkb
  ·exact hi.bnd j c h
 ·intro j c h
  rcases key j c h with ⟨_,rfl⟩ | ⟨_,_,h⟩
  ·exact hi.apart k _ hkb
  ·exact hi.apart j c h
theorem Ew {C:Cx} {kk:List KI} {s:SS} (k d:Nat) {l:List SV} (h:s.h k = .box l) (hd:s.h d = .fresh) (hkd:k ≠ d)
  (hg:G C kk ⟨fun i=>rnb k d (s.σ i),upd (fun j=>bif Nat.beq j k then .non else rnbO k d (s.h j)) d (.box (Tm k d l))⟩):G C kk s:=fun κ a w hs=>by
 have hob:=hs.obj k
 rw [h] at hob
 have hnew:κ d = .new:=by have:=hs.obj d; rwa [hd] at this
 obtain ⟨b,cs,T,fr,e1,e2,e3,e4,e5⟩:=hob
 obtain ⟨st,inv⟩:=Aa6 hs.inv e1 hnew
 have hne:∀ j,j ≠ k → j ≠ d → (Ce (Ce κ k .dead) d (.blk b)) j = κ j:=fun j h1 h2=>by rw [Bd _ _ h2,Bd _ _ h1]
 have hv:∀ o v,Rd κ w (.ptr k o) v → Rd (Ce (Ce κ k .dead) d (.blk b)) w (.ptr d o) v:=fun o v hv=>by
  simp only [Rd,e1] at hv
  simp only [Rd,Ap]
  exact hv
 refine hg _ a w ⟨hs.defers,hs.size,inv,hs.ctx.step inv st,fun j=>Abd st hv _ _ (hs.slot j),fun j=>?_⟩
 show ObOK _ w j (upd (fun j=>bif Nat.beq j k then .non else rnbO k d (s.h j)) d (.box (Tm k d l)) j)
 by_cases hj:j = d
 ·subst hj
  rw [A7]
  exact ⟨b,cs,T,fr,Ap _ _ _,e2,e3,e4,Jf st hv l cs e5⟩
 ·rw [Bn _ _ hj]
  by_cases hj2:j = k
  ·subst hj2; rw [show Nat.beq j j = true from Nat.beq_refl j]; trivial
  ·rw [show Nat.beq j k = false from by cases hb:Nat.beq j k with | false=>rfl | true=>exact absurd (Nat.eq_of_beq_eq_true hb) hj2]
   have hb:=ObOK.step st (fun e=>e.elim hj2 hj) _ (hs.obj j)
   have h0:=hs.obj j
   show ObOK _ w j (rnbO k d (s.h j))
   cases hh:s.h j with
   | box m =>
    rw [hh] at h0 hb
    obtain ⟨b2,cs2,T2,fr2,f1,f2,f3,f4,f5⟩:=h0
    exact ⟨b2,cs2,T2,fr2,(hne j hj2 hj).trans f1,f2,f3,f4,Jf st hv m cs2 f5⟩
   | fresh=>rw [hh] at hb; exact hb
   | non=>rw [hh] at hb; exact hb
   | row sz' e' l'=>rw [hh] at hb; exact hb
   | lit sz' svs=>rw [hh] at hb; exact hb
   | glob sz' x' g'=>rw [hh] at hb; exact hb
   | pin b' n' cap' sz' e' l'=>rw [hh] at hb; exact hb
   | dat v' sz' e' l'=>rw [hh] at hb; exact hb
theorem VwL.get {s:SS} {V:List Nat}:∀ {l m:List SV} (_:VwL s V l m) {i:Nat} {y:SV},Dh m i = some y → ∃ x,Dh l i = some x ∧ Vw s V x y
 | _,_,.nil,i,y,h=>by cases i <;> simp [Dh] at h
 | _,_,.cons (x:=x) h0 hs,0,y,h=>by
  simp only [Dh,Option.some.injEq] at h
  subst h
  exact ⟨x,E,h0⟩
 | _,_,.cons h0 hs,i + 1,y,h=>VwL.get hs (i:=i) h
theorem VwL.len {s:SS} {V:List Nat}:∀ {l m:List SV} (_:VwL s V l m),m.length = l.length
 | _,_,.nil=>rfl
 | _,_,.cons _ hs=>by simp [VwL.len hs]
theorem Wm:∀ {l:List SV} {i:Nat} {x:SV},I7 l = true → Dh l i = some x → x.data = true
 | [],i,x,_,h=>by cases i <;> simp [Dh] at h
 | y :: l,0,x,hd,h=>by
  simp only [Dh,Option.some.injEq] at h
  subst h
  simp only [I7,Bool.and_eq_true] at hd
  exact hd.1
 | y :: l,i + 1,x,hd,h=>by
  simp only [I7,Bool.and_eq_true] at hd
  exact Wm hd.2 (i:=i) h
theorem Qp {C:Cx} {k:List KI} {s:SS} (d:Nat) {sz:Nat} {svs:List SV} (svs':List SV) (h:s.h d = .lit sz svs) (hv:VwL s [] svs svs') (hd:I7 svs' = true) (hg:G C k ⟨s.σ,upd s.h d (.lit sz svs')⟩):G C k s:=fun κ a w hs=>by
 refine hg κ a w ⟨hs.defers,hs.size,hs.inv,hs.ctx,hs.slot,fun j=>?_⟩
 show ObOK κ w j (upd s.h d (.lit sz svs') j)
 by_cases hj:j = d
 ·subst hj
  rw [A7]
  have hob:=hs.obj j
  rw [h] at hob
  have hlen:=hv.len
  obtain ⟨b,cap,cs,T,fr,e1,e2,e3,e4,e5,e6⟩:=hob
  refine ⟨b,cap,cs,T,fr,by rw [hlen]; exact e1,e2,e3,e4,by omega,fun i x hx=>?_⟩
  obtain ⟨y,hy,hvw⟩:=hv.get hx
  obtain ⟨f1,u,f2,f3⟩:=e6 i y hy
  exact ⟨by omega,u,Rd.data _ _ (Wm hd hx) (hvw.rd hs.inv (fun n hn=>by cases hn) f2.toRd),f3⟩
 ·rw [Bn _ _ hj]; exact hs.obj j
theorem RdL.setI {κ:Ka} {w:World} {x:SV} {v:Value} (hx:Rd κ w x v):∀ {l:List SV} {cs:List Value} (i:Nat),RdL κ w l cs → RdL κ w (l.set i x) (cs.set i v)
 | [],cs,i,h=>by simp only [RdL] at h; subst h; simp [RdL]
 | y :: l,cs,0,h=>by
  simp only [RdL] at h
  obtain ⟨u,r,rfl,h1,h2⟩:=h
  simp only [List.set_cons_zero,RdL]
  exact ⟨v,r,E,hx,h2⟩
 | y :: l,cs,i + 1,h=>by
  simp only [RdL] at h
  obtain ⟨u,r,rfl,h1,h2⟩:=h
  simp only [List.set_cons_succ,RdL]
  exact ⟨u,_,E,h1,h2.setI hx i⟩
theorem E6 {κ:Ka} {w:World} {k:Nat} {l:List SV} (hi:Inv κ w) (h:ObOK κ w k (.box l)) {off:Nat} {x:SV} {v:Value} (hx:x.plain = true) (hv:∀ κ w,Rd κ w x v) (h1:v.oneCell' = true) :
  ∃ b,κ k = .blk b ∧ (∀ j y,Dh l j = some y → ∃ u,w.cell? ⟨b,j,none⟩ = some u ∧ Rd κ w y u) ∧ (∀ j,j < l.length → w.frozen? ⟨b,j,none⟩ = false) ∧
   Step (· = k) κ w κ (w.setCell ⟨b,off,none⟩ v) ∧ Inv κ (w.setCell ⟨b,off,none⟩ v) ∧ ObOK κ (w.setCell ⟨b,off,none⟩ v) k (.box (l.set off x)):=by
 obtain ⟨b,cs,T,fr,e1,e2,e3,e4,e5⟩:=h
 have hsame:(w.setCell ⟨b,off,none⟩ v).heap[b]? = some (.cells (cs.set off v).toArray T fr):=by
  simp [World.setCell,Array.getElem?_modify,e2]
 have hoth:∀ j,j ≠ b → (w.setCell ⟨b,off,none⟩ v).heap[j]? = w.heap[j]?:=fun j hj=>heap_setCell_other w ⟨b,off,none⟩ j v hj
 obtain ⟨st,inv⟩:=Jc (w':=w.setCell ⟨b,off,none⟩ v) hi (k:=k) (b:=b) (by rw [e1]; rfl) rfl rfl rfl (by simp) hoth
 have hlen:=e5.length
 refine ⟨b,e1,fun j y hy=>?_,fun j hj=>?_,st,inv,b,_,T,fr,e1,hsame,by rw [List.length_set]; exact e3,?_,(RdL.step st _ _ e5).setI (hv _ _) off⟩
 ·obtain ⟨u,hu,hr⟩:=e5.get hy
  exact ⟨u,by rw [cell_of_row w b j cs.toArray T fr e2,List.getElem?_toArray]; exact hu,hr⟩
 ·obtain ⟨lo,hi'⟩:=fr
  simp only [World.frozen?,e2]
  rcases e3 with h | h
  ·simp only at h; subst h; simp
  ·simp only at h; simp; omega
 ·intro c hc
  rcases List.mem_or_eq_of_mem_set hc with h | h
  ·exact e4 c h
  ·rw [h]; exact h1
theorem Vn {P:Program} {o:Oper} {s:SS} {f:FuncId} {ik:IntKind} {ts:Array TypeId} {x:Operand} {k off:Nat} {l:List SV} {v:Int}
  (hf:∀ (a:Addr) (x:Int) (w:World),w.cell? a = some (.int ik x) → (callFunc f #[.pointer (some a)]).run P w = .ok (.value (.int ik x)) w)
  (h:o.op = .call ⟨.value (.func f),#[x],ts⟩) (hx:ev s x = .ptr k off) (hk:s.h k = .box l) (hy:Dh l off = some (.val (.int ik v))):Good P o s ⟨.val (.int ik v),[k],[]⟩ :=
 Good.pure fun κ a w hi hr ho=>by
  have h1:=hr x (by simp [h,Op.operands,Call.operands])
  rw [hx] at h1
  have h2:=ho k (by simp)
  rw [hk] at h2
  obtain ⟨b,cs,T,fr,e1,e2,e3,e4,e5⟩:=h2
  simp only [Rd,e1] at h1
  obtain ⟨u,hu,hr2⟩:=e5.get hy
  have hc:w.cell? ⟨b,off,none⟩ = some (.int ik v):=by rw [cell_of_row w b off cs.toArray T fr e2,List.getElem?_toArray,hu,hr2.val]
  have hrun:=hf ⟨b,off,none⟩ v w hc
  refine ⟨.int ik v,?_,by simp only [Rd]⟩
  have hev:a.eval (.func f) = .func (.func f) #[] #[]:=rfl
  simp [execOp,h,resolve,hev,Deferred.ofValue,invoke,h1,hrun]
theorem Xp {P:Program} {o:Oper} {s:SS} {f:FuncId} {ts:Array TypeId} {x y:Operand} {k off:Nat} {l:List SV} {v d:Int}
  (hf:∀ (a:Addr) (x y:Int) (w:World),w.cell? a = some (.int .i64 x) → w.frozen? a = false → (callFunc f #[.pointer (some a),.int .i64 y]).run P w = .ok (.value (.int .i64 (IntKind.i64.wrap (x + y)))) (w.setCell a (.int .i64 (IntKind.i64.wrap (x + y)))))
  (h:o.op = .call ⟨.value (.func f),#[x,y],ts⟩) (hx:ev s x = .ptr k off) (hy:ev s y = .val (.int .i64 d)) (hk:s.h k = .box l) (hl:Dh l off = some (.val (.int .i64 v))) (hv:IntKind.i64.wrap (v + d) = v + d) :
  Good P o s ⟨.val (.int .i64 (v + d)),[],[(k,.box (l.set off (.val (.int .i64 (v + d)))))]⟩:=by
 intro κ a w hi hr ho N Q hN
 have h1:=hr x (by simp [h,Op.operands,Call.operands])
 have h2:=hr y (by simp [h,Op.operands,Call.operands])
 rw [hx] at h1
 rw [hy] at h2
 have h3:=ho k (.inr (by simp [Up.ws]))
 rw [hk] at h3
 obtain ⟨b,e1,c1,c2,st,inv,ob⟩:=E6 (off:=off) (x:=.val (.int .i64 (v + d))) (v:=.int .i64 (v + d)) hi h3 rfl (fun _ _=>by simp only [Rd]) rfl
 simp only [Rd,e1] at h1
 obtain ⟨u,hu,hr2⟩:=c1 off _ hl
 rw [hr2.val] at hu
 have hrun:=hf ⟨b,off,none⟩ v d w hu (c2 off (S1 hl))
 rw [hv] at hrun
 have hrun2:(execOp a.eval o).run P w = .ok (.value (.int .i64 (v + d))) (w.setCell ⟨b,off,none⟩ (.int .i64 (v + d))):=by
  have hev:a.eval (.func f) = .func (.func f) #[] #[]:=rfl
  simp [execOp,h,resolve,hev,Deferred.ofValue,invoke,h1,h2.val,hrun]
 simp only [Oper.wp,hrun2,Oper.upon]
 refine hN _ κ _ (st.weaken (by simp [Up.ws])) inv (by simp only [Rd]) (fun p hp=>?_)
 simp only [List.mem_singleton] at hp
 subst hp
 exact ob
theorem Vo {P:Program} (Γ:Ty P) {o:Oper} {s:SS} (q:Nat) {t:TypeId} {ti:TI} {et:TypeId} {eb b n cap lo k c1 c2:Nat} {ez:List Value} {x y:Operand} {α:Type} {e:α → SV} {l:List α} {B B2:Option Addr}
  (h:o.op = .call ⟨.builtin .copy,#[x,y],#[t,t]⟩) (ht:Γ.get t = some ti) (hk:ti.k = .slice et 1 eb ez) (hx:ev s x = .val (.slice B (n - lo) c1)) (hB:B = some ⟨b,lo,none⟩) (hy:ev s y = .val (.slice B2 k c2)) (hB2:B2 = some ⟨b,0,none⟩)
  (hq:s.h q = .pin b n cap 1 e l) (hl:l.length = n) (hk2:k ≤ n) (hpos:0 < min k (n - lo)) :
  Good P o s ⟨.val (.int .i64 (min k (n - lo):Nat)),[],[(q,.pin b n cap 1 e (l.take lo ++ l.take (min k (n - lo)) ++ l.drop (lo + min k (n - lo))))]⟩:=by
 intro κ a w hinv hr ho N Q hN
 have r1:=hr x (by simp [h,Op.operands,Call.operands])
 have r2:=hr y (by simp [h,Op.operands,Call.operands])
 rw [hx] at r1
 rw [hy] at r2
 subst hB
 subst hB2
 have hob:=ho q (.inr (by simp [Up.ws]))
 rw [hq] at hob
 obtain ⟨e0,b',cap',cs,T,fr,e1,e2,e3,e4,e5,e6⟩:=hob
 rw [e0] at e1
 cases e1
 obtain ⟨hu,ii,zv,q1,q2,q3,q4,q5⟩:=Bp Γ ht hk
 obtain ⟨mn,hmn⟩:∃ mn,min k (n - lo) = mn:=⟨_,rfl⟩
 rw [hmn] at hpos hN
 have hnc:n ≤ cs.length:=by omega
 have hall:∀ i,i < n → ∃ u:Value,u.cells.size = 1 ∧ Ones u.cells.toList ∧ ∀ j,j < 1 → cs[i * 1 + j]? = u.cells[j]?:=fun i hi=>by
  obtain ⟨_,u,_,u2⟩:=e6 i (e l[i]) ⟨by omega,rfl⟩
  exact ⟨u,u2⟩
 obtain ⟨news,hnews⟩:∃ news,news = cs.take mn:=⟨_,rfl⟩
 have hnl:news.length = mn:=by rw [hnews,List.length_take]; omega
 have hget:∀ p,p < mn → news[p]? = cs[p]?:=fun p hp=>by rw [hnews,List.getElem?_take,if_pos hp]
 have hones:Ones news:=fun v hv=>by
  obtain ⟨p,hp,he⟩:=List.getElem_of_mem hv
  have h1:news[p]? = some v:=by rw [List.getElem?_eq_getElem hp,he]
  rw [hnl] at hp
  rw [hget p hp] at h1
  exact Yy (n:=n) hall (by omega) h1
 obtain ⟨w',f1,f2,f3,f4,f5,f6,f7⟩:=Bz P b lo T fr news 0 cs w e2 e3 (by omega) hones
 obtain ⟨st,inv⟩:=J4 hinv e0 f3 f4 f5 f6 f7
 have hcell:∀ p v,cs[p]? = some v → w.cell? ⟨b,p,none⟩ = some v:=fun p v hp=>by simp [World.cell?,e2,hp]
 have hc:=Wn (P:=P) w w' t t o.type et ⟨b,lo,none⟩ ⟨b,0,none⟩ (n - lo) c1 k c2 news hu q1 q2 (by rw [hnl,hmn]) (fun j v hv=>by
  rw [Addr.add_lit]
  have hlt:j < mn:=by rw [← hnl]; exact (List.getElem?_eq_some_iff.1 hv).1
  rw [hget j hlt] at hv
  rw [Nat.zero_add]
  exact hcell _ _ hv) f1
 rw [hnl] at hc
 have hrun:(execOp a.eval o).run P w = .ok (.value (.int .i64 (mn:Nat))) w':=by
  simp [execOp,h,resolve,invoke,builtin,r1.val,r2.val,hc]
 simp only [Oper.wp,hrun,Oper.upon]
 refine hN _ κ w' (st.weaken (fun k hk=>by subst hk; simp [Up.ws])) inv (by simp only [Rd]) (fun p hp=>?_)
 simp only [List.mem_singleton] at hp
 subst hp
 refine ⟨e0,b,cap,_,T,fr,e0,f2,by rw [Be]; exact e3,by rw [Be]; exact e4,e5,?_⟩
 rintro i z ⟨hi0,rfl⟩
 have hset:=Ho cs news (lo + 0)
 have hlen:(l.take lo ++ l.take mn ++ l.drop (lo + mn)).length = n:=by
  simp only [List.length_append,List.length_take,List.length_drop]; omega
 rw [hlen] at hi0
 have src:∀ j (hj:j < l.length),∃ u:Value,RdD (Own κ) w (e l[j]) u ∧ u.cells.size = 1 ∧ Ones u.cells.toList ∧ ∀ p,p < 1 → cs[j * 1 + p]? = u.cells[p]?:=fun j hj=>(e6 j (e l[j]) ⟨hj,rfl⟩).2
 by_cases hi1:i < lo
 ·obtain ⟨u,u1,u2,u3,u4⟩:=src i (by omega)
  refine ⟨hi0,u,?_,u2,u3,fun p hp=>?_⟩
  ·have:(l.take lo ++ l.take mn ++ l.drop (lo + mn))[i]'(by rw [hlen]; exact hi0) = l[i]'(by omega):=by
    rw [List.getElem_append_left (by simp only [List.length_append,List.length_take]; omega),List.getElem_append_left (by simp only [List.length_take]; omega),List.getElem_take]
   rw [this]
   exact RdD.keep st.keeps _ _ u1
  ·rw [hset _ (by omega),if_neg (by omega),u4 p hp]
 ·by_cases hi2:i < lo + mn
  ·obtain ⟨u,u1,u2,u3,u4⟩:=src (i - lo) (by omega)
   refine ⟨hi0,u,?_,u2,u3,fun p hp=>?_⟩
   ·have:(l.take lo ++ l.take mn ++ l.drop (lo + mn))[i]'(by rw [hlen]; exact hi0) = l[i - lo]'(by omega):=by
     rw [List.getElem_append_left (by simp only [List.length_append,List.length_take]; omega),List.getElem_append_right (by simp only [List.length_take]; omega),List.getElem_take]
     congr 1
     simp only [List.length_take]; omega
    rw [this]
    exact RdD.keep st.keeps _ _ u1
   ·rw [hset _ (by omega),if_pos (by omega),hget _ (by omega),← u4 p hp]
    congr 1
    omega
  ·obtain ⟨u,u1,u2,u3,u4⟩:=src i (by omega)
   refine ⟨hi0,u,?_,u2,u3,fun p hp=>?_⟩
   ·have:(l.take lo ++ l.take mn ++ l.drop (lo + mn))[i]'(by rw [hlen]; exact hi0) = l[i]'(by omega):=by
     rw [List.getElem_append_right (by simp only [List.length_append,List.length_take]; omega),List.getElem_drop]
     congr 1
     simp only [List.length_append,List.length_take]; omega
    rw [this]
    exact RdD.keep st.keeps _ _ u1
   ·rw [hset _ (by omega),if_neg (by omega),u4 p hp]
end Go.Sy
namespace Go.Sy.YtmelpejjondedaaGreat
open Go.Proofs
attribute [local irreducible] Go.Sy.G Go.Sy.DR
set_option maxRecDepth 100000
set_option maxHeartbeats 4000000
theorem U4 (m:Nat) (h:m < 4294967296):bits .and .u64 (m:Int) 4294967295 = (m:Int):=by
 have:=bits_and_u64_nat m 4294967295 (by omega) (by decide)
 rw [show ((4294967295:Nat):Int) = 4294967295 from rfl] at this
 rw [this]
 have h2:=Nat.and_two_pow_sub_one_eq_mod m 32
 rw [show 2 ^ 32 - 1 = 4294967295 from rfl,show 2 ^ 32 = 4294967296 from rfl] at h2
 rw [h2,Nat.mod_eq_of_lt h]
theorem Aba (m:Nat) (h:m < 4294967296):(m:Int).fdiv (2 ^ (min (Int.toNat 32) IntKind.u64.bits)) = 0:=by
 show (m:Int).fdiv 4294967296 = 0
 rw [Int.fdiv_eq_ediv_of_nonneg _ (by decide)]
 omega
theorem mul64S (m:Nat) (h:m < 4294967296):Sy.Spec Tryz.prog 154 [A9 1,A9 m] [] (.tup [A9 0,A9 m]) []:=Ab Γ hm 100 F154 Tryz.ntmps154 rfl fun F hF=>by
 have e0:bits .and .u64 1 4294967295 = 1:=U4 1 (by decide)
 have e1:(1:Int).fdiv (2 ^ (min (Int.toNat 32) IntKind.u64.bits)) = 0:=Aba 1 (by decide)
 have e2:=U4 m h
 have e3:=Aba m h
 have w1:IntKind.u64.wrap (1 * (m:Int)) = m:=by rw [IntKind.wrap_u64]; omega
 have w0:IntKind.u64.wrap (0 * (m:Int)) = 0:=by rw [IntKind.wrap_u64]; omega
 have z0:IntKind.u64.wrap (0 + 0) = 0:=rfl
 have a0:bits .and .u64 0 4294967295 = 0:=U4 0 (by decide)
 have s0:(0:Int).fdiv (2 ^ (min (Int.toNat 32) IntKind.u64.bits)) = 0:=Aba 0 (by decide)
 conv=>whnf
 rw [e0]
 refine ⟨by decide,?_⟩
 rw [e1]
 conv=>whnf
 rw [e2]
 refine ⟨by decide,?_⟩
 rw [e3]
 conv=>whnf
 rw [w1,w0]
 refine ⟨by decide,?_⟩
 rw [e3]
 conv=>whnf
 rw [z0,a0]
 refine ⟨by decide,?_⟩
 rw [s0]
 conv=>whnf
 refine ⟨by decide,?_⟩
 conv=>whnf
 refine Ac E (.cons .tmp (.cons .tmp .nil)) ?_ E
 refine congrArg (fun z:Int=>SV.tup [A9 0,A9 z]) ?_
 exact w1.symm
theorem mulS (m:Nat) (h:m < 4294967296):Sy.Spec Tryz.prog 83 [A9 1,A9 m] [] (.tup [A9 0,A9 m]) []:=Ab Γ hm 100 F83 Tryz.ntmps83 rfl fun F hF=>by
 ((conv=>whnf);refine aF ?_;refine rg ?_;conv=>whnf)
 refine Ag (mul64S m h) F154 E E E E E ?_
 refine rg ?_;conv=>whnf
 exact Ac E (.cons .tmp (.cons .tmp .nil)) E E
def Hr (m k:Nat):List Bool:=List.replicate k true ++ List.replicate (m - k) false
theorem J8 (m k:Nat) (h:k ≤ m):(Hr m k).length = m:=by simp [Hr]; omega
theorem Agx (m:Nat):Hr m m = List.replicate m true:=by simp [Hr]
theorem Ael (m k c:Nat) (h:k ≤ m) (hc:c = min k (m - k)):(Hr m k).take k ++ (Hr m k).take c ++ (Hr m k).drop (k + c) = Hr m (k + c):=by
 have e1:(Hr m k).take k = List.replicate k true:=by
  rw [Hr,List.take_append_of_le_length (by simp)]; simp
 have e2:(Hr m k).take c = List.replicate c true:=by
  rw [Hr,List.take_append_of_le_length (by simp; omega)]; simp; omega
 have e3:(Hr m k).drop (k + c) = List.replicate (m - (k + c)) false:=by
  rw [Hr,List.drop_append,List.drop_eq_nil_of_le (by simp),List.nil_append]
  simp
  omega
 rw [e1,e2,e3,Hr,List.replicate_append_replicate]
theorem Adb (m:Nat) (h:m < 2147483648):Sy.Spec Tryz.prog 43 [.sl 1 Ad [true],Aa m] [] (.sl 1 Ad (List.replicate m true)) []:=Ab Γ hm 100 F43 Tryz.ntmps43 rfl fun F hF=>by
 have hw:IntKind.u64.wrap (m:Int) = m:=by rw [IntKind.wrap_u64]; omega
 have hw2:IntKind.i64.wrap (m:Int) = m:=by rw [IntKind.wrap_i64]; omega
 have q:=mulS m (by omega)
 rw [← hw] at q
 ((conv=>whnf);refine aF ?_;refine rg ?_;conv=>whnf)
 refine Ag q F83 E E E E E ?_
 rw [hw]
 (refine rg ?_;(conv=>whnf);refine aF ?_;refine rg ?_;conv=>whnf)
 refine ⟨fun h1=>absurd (of_decide_eq_true h1) (by omega),fun _=>?_⟩
 refine rg ?_;conv=>whnf
 rw [hw2]
 refine Ah (Bt Γ.toTy (d:=30) (n:=m) Ad false E E E E E E E E (by omega) (by omega) E E E) E E ?_
 refine rg ?_;conv=>whnf
 refine Ah (Qj Γ.toTy (l:=List.replicate m false) (m:=[true]) E E E E E .sl) E E ?_
 have e0:[true].take (List.replicate m false).length ++ (List.replicate m false).drop [true].length = Hr m (min 1 m):=by
  cases m with
  | zero=>rfl
  | succ m=>simp [Hr,Nat.min_eq_left,List.replicate_succ]
 have e1:min [true].length (List.replicate m false).length = min 1 m:=by simp
 rw [e0,e1]
 refine rg ?_;conv=>whnf
 refine Akf (fun k:Nat=>min 1 m ≤ k ∧ k ≤ m) (fun k=>[(7,.osl 30),(8,Aa k)]) (fun k=>[(30,.row 1 Ad (Hr m k))]) (fun k=>m - k) (min 1 m) [] (by omega) ⟨⟨E,E,E,E,Y⟩,⟨.inl E,E,Y⟩,E,E⟩ ?_
 intro k hk
 have hl:=J8 m k hk.2
 refine rg ?_;conv=>whnf
 refine ⟨fun h1=>?_,fun h1=>?_⟩
 ·have hlt:k < m:=by have:=of_decide_eq_true h1; rw [hl] at this; omega
  clear h1
  have hk1:1 ≤ k:=by omega
  have hne:Hr m k ≠ []:=fun e=>by rw [e] at hl; simp at hl; omega
  refine Ad0 30 [7] E hne (fun i hi=>by simp at hi; subst hi; rfl) ?_
  intro b cap hc
  rw [hl] at hc ⊢
  have hcl:¬ cap = k:=by omega
  have hcp:=Ael m k (min k (m - k)) hk.2 rfl
  refine rg ?_;conv=>whnf
  refine Bo (Cc (lo:=k) (hi:=m) Γ.toTy E E E E (.inr ⟨_,_,E,E⟩) (.inl ⟨E,E⟩) (by omega) (by omega)) (by kernel_rfl) E ?_
  refine rd (by kernel_rfl) ?_;conv=>whnf
  refine Bo (Cc (lo:=0) (hi:=k) Γ.toTy E E E E (.inl ⟨E,E⟩) (.inr ⟨_,_,E,E⟩) (by omega) (by omega)) (by kernel_rfl) E ?_
  refine rd (by kernel_rfl) ?_;conv=>whnf
  refine Bo (Vo Γ.toTy 30 (lo:=k) (k:=k) E E E E (by rw [if_neg hcl,Nat.mul_one]) E (by rw [if_neg (by omega),Nat.zero_mul]) E hl (by omega) (by omega)) (by kernel_rfl) E ?_
  refine rd (by kernel_rfl) ?_;conv=>whnf
  refine ⟨by unfold I64; omega,?_⟩
  conv=>whnf
  refine ⟨(by kernel_rfl),?_⟩
  conv=>whnf
  refine S5 30 31 [7] m E E (by rw [hcp,J8 m _ (by omega)]; exact Nat.le_refl _) (fun i hi=>by simp at hi; subst hi; rfl) ?_
  have hfin:((Hr m k).take k ++ (Hr m k).take (min k (m - k)) ++ (Hr m k).drop (k + min k (m - k))).take m = Hr m (k + min k (m - k)):=by
   rw [hcp,List.take_of_length_le (by rw [J8 m _ (by omega)]; exact Nat.le_refl _)]
  exact Aiy (k + min k (m - k)) [(30,31)] (by omega) (by omega) ⟨⟨E,E,E,E,Y⟩,⟨.inl (congrArg (Ob.row 1 Ad) hfin.symm),E,Y⟩,E,E⟩
 ·have hkm:k = m:=by have:=of_decide_eq_false h1; rw [hl] at this; omega
  subst hkm
  rw [Agx]
  refine rg ?_;conv=>whnf
  refine Ar 30 E ?_
  exact Ac E (.cons .tmp .nil) E E
def Ir (t:List EntryM):SV:=.sl 3 As t
def Q1 (l:List QueuedM):SV:=.sl 7 A5 l
def Qc (n:Net) (k:Nat) (now inj:Int) (d:Nat → Int):List SV :=
 [.sl 5 Bj n.devices,.sl 7 Ba n.ports,.sl 3 Cj n.links,.sl 6 Av n.domains,.sl 4 Bh n.statics,.sl 4 B0 n.floods,.sl 5 Cv n.vrfs,.sl 5 Dw n.irbs,.ptr k 0,.osl 2,.osl 3,.val (.int .i64 now),.val (.int .i64 inj),
 .val (.int .i64 (d 0)),.val (.int .i64 (d 1)),.val (.int .i64 (d 2)),.val (.int .i64 (d 3)),.val (.int .i64 (d 4)),.val (.int .i64 (d 5)),.val (.int .i64 (d 6)),.val (.int .i64 (d 7)),.val (.int .i64 (d 8)),.val (.int .i64 (d 9)),.val (.int .i64 (d 10)),.val (.int .i64 (d 11)),.val (.int .i64 (d 12)),.val (.int .i64 (d 13)),.val (.int .i64 (d 14)),.val (.int .i64 (d 15)),.val (.int .i64 (d 16)),.val (.int .i64 (d 17)),.val (.int .i64 (d 18)),.val (.int .i64 (d 19)),.val (.int .i64 (d 20)),.val (.int .i64 (d 21)),.val (.int .i64 (d 22)),.val (.int .i64 (d 23)),.val (.int .i64 (d 24)),.val (.int .i64 (d 25)),.val (.int .i64 (d 26)),.val (.int .i64 (d 27)),.val (.int .i64 (d 28)),.val (.int .i64 (d 29)),.val (.int .i64 (d 30)),.val (.int .i64 (d 31)),.val (.int .i64 (d 32)),.val (.int .i64 (d 33)),.val (.int .i64 (d 34)),.val (.int .i64 (d 35)),.val (.int .i64 (d 36)),.val (.int .i64 (d 37)),.val (.int .i64 (d 38)),.val (.int .i64 (d 39)),.val (.int .i64 (d 40)),.val (.int .i64 (d 41)),.val (.int .i64 (d 42)),.val (.int .i64 (d 43)),.val (.int .i64 (d 44)),.val (.int .i64 (d 45)),.val (.int .i64 (d 46)),.val (.int .i64 (d 47)),.val (.int .i64 (d 48)),.val (.int .i64 (d 49)),.val (.int .i64 (d 50)),.val (.int .i64 (d 51)),.val (.int .i64 (d 52)),.val (.int .i64 (d 53)),.val (.int .i64 (d 54)),.val (.int .i64 (d 55)),.val (.int .i64 (d 56)),.val (.int .i64 (d 57)),.val (.int .i64 (d 58)),.val (.int .i64 (d 59)),.val (.int .i64 (d 60)),.val (.int .i64 (d 61)),.val (.int .i64 (d 62)),.val (.int .i64 (d 63))]
def onceL (up:List Bool) (done:Int) (fw:List Bool):List SV:=[.sl 1 Ad up,.val (.int .u32 done),.val (.int .i32 0),.val (.int .u32 0),.sl 1 Ad fw]
def Ix (n:Net) (up:List Bool) (d:Bool):List SV:=onceL up (if d then 1 else 0) (if d then I4 n up else [])
def B1 (n:Net) (m:MacM) (d:Bool):Obs:=[(0,.box (Qc n 1 m.now m.injected m.drops)),(1,.box (Ix n m.up d)),(2,.row 1 Ir m.tables),(3,.row 1 Q1 m.queues)]
theorem getI_map (f:Nat → SV):∀ (k a n:Nat),k < n → Dh ((List.range' a n).map f) k = some (f (a + k))
 | 0,a,n + 1,_=>rfl
 | k + 1,a,n + 1,h=>by
  show Dh ((List.range' (a + 1) n).map f) k = _
  rw [getI_map f k (a + 1) n (by omega)]
  congr 2; omega
theorem Ac5 (f:Nat → SV) (x:SV):∀ (k a n:Nat),((List.range' a n).map f).set k x = (List.range' a n).map (fun i=>if i = a + k then x else f i)
 | _,_,0=>rfl
 | 0,a,n + 1=>by
  show x :: (List.range' (a + 1) n).map f = (if a = a + 0 then x else f a) :: (List.range' (a + 1) n).map _
  rw [if_pos (by omega)]
  congr 1
  apply List.map_congr_left
  intro i hi
  have:=(List.mem_range'_1.1 hi).1
  rw [if_neg (by omega)]
 | k + 1,a,n + 1=>by
  show f a :: ((List.range' (a + 1) n).map f).set k x = (if a = a + (k + 1) then x else f a) :: (List.range' (a + 1) n).map _
  rw [if_neg (by omega),Ac5 f x k (a + 1) n]
  congr 1
  apply List.map_congr_left
  intro i _
  rw [show a + 1 + k = a + (k + 1) by omega]
theorem L7 (n:Net) (k:Nat) (now inj:Int) (d:Nat → Int):Qc n k now inj d =
  .sl 5 Bj n.devices :: .sl 7 Ba n.ports :: .sl 3 Cj n.links :: .sl 6 Av n.domains :: .sl 4 Bh n.statics :: .sl 4 B0 n.floods :: .sl 5 Cv n.vrfs :: .sl 5 Dw n.irbs :: .ptr k 0 :: .osl 2 :: .osl 3 :: .val (.int .i64 now) :: .val (.int .i64 inj) ::
   (List.range' 0 64).map (fun i=>.val (.int .i64 (d i))):=rfl
theorem Ago (n:Net) (k:Nat) (now inj:Int) (d:Nat → Int) (e:Nat) (he:e < 64):Dh (Qc n k now inj d) (13 + e) = some (.val (.int .i64 (d e))):=by
 rw [L7,Nat.add_comm]
 show Dh ((List.range' 0 64).map (fun i=>SV.val (.int .i64 (d i)))) e = _
 rw [getI_map _ e 0 64 he,Nat.zero_add]
theorem Agn (n:Net) (k:Nat) (now inj:Int) (d:Nat → Int) (e:Nat) (v:Int):(Qc n k now inj d).set (13 + e) (.val (.int .i64 v)) = Qc n k now inj (fun i=>if i = e then v else d i):=by
 rw [L7,L7,Nat.add_comm]
 have h:=Ac5 (fun i=>SV.val (.int .i64 (d i))) (.val (.int .i64 v)) e 0 64
 have h2:(fun i=>if i = 0 + e then SV.val (.int .i64 v) else SV.val (.int .i64 (d i))) = (fun i=>SV.val (.int .i64 (if i = e then v else d i))):=by
  funext i
  rw [Nat.zero_add]
  split <;> rfl
 rw [h2] at h
 rw [← h]
 rfl
theorem add64 (a:Addr) (x y:Int) (w:World) (hc:w.cell? a = some (.int .i64 x)) (hz:w.frozen? a = false):(callFunc 257 #[.pointer (some a),.int .i64 y]).run Tryz.prog w = .ok (.value (.int .i64 (IntKind.i64.wrap (x + y)))) (w.setCell a (.int .i64 (IntKind.i64.wrap (x + y)))) :=
 run_call_add Tryz.func257 (by kernel_rfl) (by kernel_rfl) (by kernel_rfl) .i64 (by kernel_rfl) hc hz rfl
theorem Aef (n:Net) (k:Nat) (m:MacM) (e:Int):Qc n k m.now m.injected (Bv m e).drops = (Qc n k m.now m.injected m.drops).set (13 + e.toNat) (.val (.int .i64 (m.drops e.toNat + 1))):=by
 rw [Agn]
 congr 1
 funext i
 show (if i = e.toNat then m.drops i + 1 else m.drops i) = _
 split
 ·rename_i h; rw [h]
 ·rfl
theorem Ack {x:Int} (h:0 ≤ x ∧ x ≤ 1000000000000):IntKind.i64.wrap (x + 1) = x + 1:=by
 rw [IntKind.wrap_i64]; omega
theorem Acu (n:Net) (m:MacM) (d:Bool) (e:Int) (h0:0 ≤ e) (h1:e < 64) (hb:IntKind.i64.wrap (m.drops e.toNat + 1) = m.drops e.toNat + 1) :
  Sy.Spec Tryz.prog 181 [.ptr 0 (13 + e.toNat),Aa 1] (B1 n m d) (Aa (m.drops e.toNat + 1)) (B1 n (Bv m e) d):=Ab Γ hm 100 F181 Tryz.ntmps181 rfl fun F hF=>by
 have hg:=Ago n 1 m.now m.injected m.drops e.toNat (by omega)
 have hs:=Aef n 1 m e
 have hlt:=S1 hg
 conv=>whnf
 refine Ah (Xp add64 E E E E hg hb) E E ?_
 refine rg ?_;conv=>whnf
 exact done E (.cons .tmp .nil) [] (B1 n (Bv m e) d) (fun _ h=>h) E E ⟨Y,⟨.inl (congrArg Ob.box hs),E,.inl E,E,.inl E,E,.inl E,E,Y⟩,E,E⟩
theorem Aag (n:Net) (m:MacM) (d:Bool) (e:Int) (h0:0 ≤ e) (h1:e < 64) (hb:0 ≤ m.drops e.toNat ∧ m.drops e.toNat ≤ 1000000000000) :
  Sy.Spec Tryz.prog 104 [.ptr 0 0,Aa e] (B1 n m d) (.tup []) (B1 n (Bv m e) d):=Ab Γ hm 100 F104 Tryz.ntmps104 rfl fun F hF=>by
 conv=>whnf
 refine ⟨h0,by omega,?_⟩
 refine rg ?_;conv=>whnf
 refine Ah (Ai [] E F181 (Acu n m d e h0 h1 (Ack hb)) (congrArg (fun z=>[SV.ptr 0 z,Aa 1]) (show 13 + e.toNat = 0 + 13 + e.toNat * 1 by omega)) ⟨E,E,E,E,Y⟩ E ⟨.inl E,.inl E,.inl E,.inl E,Y⟩) E E ?_
 refine rg ?_;conv=>whnf
 exact Bc E .nil [] (B1 n (Bv m e) d) (fun _ h=>h) E E ⟨Y,⟨.inl E,E,.inl E,E,.inl E,E,.inl E,E,Y⟩,E,E⟩
theorem Wz (n:Net) (m:MacM) (d:Bool) (dom:Int) :
  Sy.Spec Tryz.prog 46 [.ptr 0 0,Aa dom] (B1 n m d) (Ad (Aj dom m.queues.length)) (B1 n m d):=Ab Γ hm 100 F46 Tryz.ntmps46 rfl fun F hF=>by
 have hres:Aj dom m.queues.length = (decide (0 ≤ dom) && decide (dom < m.queues.length)):=rfl
 generalize Aj dom m.queues.length = res at *
 ((conv=>whnf);refine aT ?_;refine rg ?_;conv=>whnf)
 refine ⟨fun h=>?_,fun h=>?_⟩
 ·refine rg ?_;conv=>whnf
  (skip)
  refine done E (.cons .tmp .nil) [] (B1 n m d) (fun _ h=>h) ?_ E ⟨Y,⟨.inl E,E,.inl E,E,.inl E,E,.inl E,E,Y⟩,E,E⟩
  rw [hres,h]
  rfl
 ·refine rg ?_;conv=>whnf
  (skip)
  refine done E (.cons .tmp .nil) [] (B1 n m d) (fun _ h=>h) ?_ E ⟨Y,⟨.inl E,E,.inl E,E,.inl E,E,.inl E,E,Y⟩,E,E⟩
  rw [hres,h]
  rfl
theorem Sz (a b:Nat) (ha:a < 4294967296) (hb:b < 4294967296):bits .or .u32 (a:Int) (b:Int) = ((a ||| b:Nat):Int):=by
 have hx:a ||| b < 2 ^ 32:=Nat.or_lt_two_pow (by omega) (by omega)
 have h1:(BitVec.ofInt 32 (a:Int)).toNat = a:=by
  rw [BitVec.ofInt_natCast,BitVec.toNat_ofNat]; exact Nat.mod_eq_of_lt (by omega)
 have h2:(BitVec.ofInt 32 (b:Int)).toNat = b:=by
  rw [BitVec.ofInt_natCast,BitVec.toNat_ofNat]; exact Nat.mod_eq_of_lt (by omega)
 show IntKind.u32.wrap ((BitVec.ofInt 32 (a:Int) ||| BitVec.ofInt 32 (b:Int)).toNat:Int) = _
 rw [BitVec.toNat_or,h1,h2,IntKind.wrap_u32]
 omega
theorem Adt (x:UInt8) (k:UInt8):((x.toNat:Int) != (k.toNat:Int)) = decide (x ≠ k):=by
 rw [Bool.eq_iff_iff]
 simp only [bne_iff_ne,decide_eq_true_eq,ne_eq,← UInt8.toNat_inj]
 omega
theorem Oa (b:List UInt8) (k:Nat) (h:k + 2 ≤ b.length) (hb:b.length < 100000):Sy.Spec Tryz.prog 294 [.sl 1 Ak b,Aa k] [] (Aa (numAt b k 2)) []:=Ab Γ hm 100 F294 Tryz.ntmps294 rfl fun F hF=>by
 have i0:((k:Nat):Int).toNat < b.length:=by simpa using (by omega:k < b.length)
 have i1:((k:Int) + 1).toNat < b.length:=by omega
 have e0:b[((k:Nat):Int).toNat]'i0 = b[k]'(by omega):=rfl
 have e1:b[((k:Int) + 1).toNat]'i1 = b[k + 1]'(by omega):=rfl
 have hp:=Du (b[k]'(by omega)) (b[k + 1]'(by omega))
 have hn:=Ma h
 rw [← hn] at hp
 conv=>whnf
 refine ⟨E,by omega,i0,?_⟩
 rw [e0]
 conv=>whnf
 refine ⟨by decide,?_⟩
 conv=>whnf
 refine ⟨by unfold I64; omega,?_⟩
 conv=>whnf
 refine ⟨E,by omega,i1,?_⟩
 rw [e1]
 conv=>whnf
 refine ⟨(by kernel_rfl),?_⟩
 rw [hp]
 conv=>whnf
 exact Ac E (.cons .tmp .nil) E E
theorem Af7 (x y:Nat) (hx:x < 65536) (hy:y < 65536):bits .or .u32 (IntKind.u32.wrap ((IntKind.u32.wrap (x:Int)) * 2 ^ min (Int.toNat 16) IntKind.u32.bits)) (IntKind.u32.wrap (y:Int)) = ((x * 65536 + y:Nat):Int):=by
 have e1:IntKind.u32.wrap (x:Int) = (x:Int):=by rw [IntKind.wrap_u32]; omega
 have e2:IntKind.u32.wrap (y:Int) = (y:Int):=by rw [IntKind.wrap_u32]; omega
 rw [e1,e2]
 have e3:IntKind.u32.wrap ((x:Int) * 2 ^ min (Int.toNat 16) IntKind.u32.bits) = ((x * 65536:Nat):Int):=by
  show IntKind.u32.wrap ((x:Int) * 65536) = _
  rw [IntKind.wrap_u32]
  omega
 rw [e3,Sz _ _ (by omega) (by omega)]
 congr 1
 have h:=Nat.two_pow_add_eq_or_of_lt (i:=16) (b:=y) (by omega) x
 rw [Nat.mul_comm x 65536]
 exact h.symm
theorem Adl (b:List UInt8) (k:Nat) (h:k + 4 ≤ b.length) (hb:b.length < 100000):Sy.Spec Tryz.prog 296 [.sl 1 Ak b,Aa k] [] (Cb (numAt b k 4)) []:=Ab Γ hm 100 F296 Tryz.ntmps296 rfl fun F hF=>by
 have q1:=Oa b k (by omega) hb
 have q2:=Oa b (k + 2) (by omega) hb
 rw [show ((k + 2:Nat):Int) = (k:Int) + 2 by omega] at q2
 have hf:=Af7 (numAt b k 2) (numAt b (k + 2) 2) (by have:=Iy b k 2; omega) (by have:=Iy b (k + 2) 2; omega)
 rw [← numAt4 h] at hf
 conv=>whnf
 refine Ag q1 F294 E E E E E ?_
 refine rg ?_;conv=>whnf
 refine ⟨by decide,?_⟩
 conv=>whnf
 refine ⟨by unfold I64; omega,?_⟩
 conv=>whnf
 refine Ag q2 F294 E E E E E ?_
 refine rg ?_;conv=>whnf
 rw [hf]
 exact Ac E (.cons .tmp .nil) E E
theorem Ad7 (l:List UInt8) (hl:l.length < 100000) (h2:l.length % 2 = 0):Sy.Spec Tryz.prog 295 [.sl 1 Ak l] [] (Ad (decide (Eo (Mm l (l.length / 2)) = 65535))) []:=Ab Γ hm 100 F295 Tryz.ntmps295 rfl fun F hF=>by
 have ha:=Ac2 l hl h2
 conv=>whnf
 refine Ag ha F329 E E E E E ?_
 refine rg ?_;conv=>whnf
 refine Ac E (.cons .tmp .nil) (congrArg Ad ?_) E
 rw [Bool.eq_iff_iff]
 simp only [beq_iff_eq,decide_eq_true_eq]
 omega
abbrev zP:List SV:=[Aa 0,Aa 0,Aa 0,Aa 0,Cb 0,Cb 0,.sl 1 Ak []]
theorem Adj (b:List UInt8) (hb:b.length < 100000):Sy.Spec Tryz.prog 245 [.sl 1 Ak b] [] (.tup [M2 (ipTakeT b).1,Aa (ipTakeT b).2]) []:=Ab Γ hm 100 F245 Tryz.ntmps245 rfl fun F hF=>by
 have hres:=ipTakeT.eq_1 b
 generalize ipTakeT b = res at *
 conv=>whnf
 refine ⟨fun h=>?_,fun h=>?_⟩
 ·rw [if_pos (by have:=of_decide_eq_true h; omega)] at hres
  subst hres
  refine rg ?_;conv=>whnf
  refine A1 2 zP E (.cons (.refl _) (.cons (.refl _) (.cons (.refl _) (.cons (.refl _) (.cons (.refl _) (.cons (.refl _) (.cons .nil .nil))))))) ?_
  exact Ac E (.cons (.cell E E E E) (.cons .tmp .nil)) E E
 have h20:20 ≤ b.length:=by have:=of_decide_eq_false h; omega
 rw [if_neg (by omega)] at hres
 clear h
 have i0:(0:Int).toNat < b.length:=by show 0 < _; omega
 have i1:(1:Int).toNat < b.length:=by show 1 < _; omega
 have i8:(8:Int).toNat < b.length:=by show 8 < _; omega
 have i9:(9:Int).toNat < b.length:=by show 9 < _; omega
 have e0:b[(0:Int).toNat]'i0 = bAt b 0:=(Ya (by omega)).symm
 have q2:=Oa b 2 (by omega) hb
 have q4:=Oa b 4 (by omega) hb
 have q6:=Oa b 6 (by omega) hb
 have q12:=Adl b 12 (by omega) hb
 have q16:=Adl b 16 (by omega) hb
 have hl20:(b.take 20).length = 20:=by rw [List.length_take]; omega
 have hdiv:(b.take 20).length / 2 = 10:=by rw [hl20]
 have qs:=Ad7 (b.take 20) (by omega) (by rw [hl20])
 rw [hdiv] at qs
 refine rg ?_;conv=>whnf
 refine ⟨E,by decide,i0,?_⟩
 rw [e0]
 conv=>whnf
 refine ⟨fun h=>?_,fun h=>?_⟩
 ·rw [if_pos (.inl (by rw [show ((69:Int)) = ((69:UInt8).toNat:Int) from rfl,Adt] at h; exact of_decide_eq_true h))] at hres
  subst hres
  (refine rg ?_;(conv=>whnf);refine aT ?_;refine rg ?_;conv=>whnf)
  refine A1 2 zP E (.cons (.refl _) (.cons (.refl _) (.cons (.refl _) (.cons (.refl _) (.cons (.refl _) (.cons (.refl _) (.cons .nil .nil))))))) ?_
  exact Ac E (.cons (.cell E E E E) (.cons .tmp .nil)) E E
 have h69:¬ bAt b 0 ≠ 69:=by rw [show ((69:Int)) = ((69:UInt8).toNat:Int) from rfl,Adt] at h; exact of_decide_eq_false h
 clear h
 refine rg ?_;conv=>whnf
 refine Ag q2 F294 E E E E E ?_
 refine rg ?_;conv=>whnf
 refine ⟨fun h=>?_,fun h=>?_⟩
 ·rw [if_pos (.inr (by have:=of_decide_eq_true h; omega))] at hres
  subst hres
  refine rg ?_;conv=>whnf
  refine A1 2 zP E (.cons (.refl _) (.cons (.refl _) (.cons (.refl _) (.cons (.refl _) (.cons (.refl _) (.cons (.refl _) (.cons .nil .nil))))))) ?_
  exact Ac E (.cons (.cell E E E E) (.cons .tmp .nil)) E E
 have hs20:20 ≤ numAt b 2 2:=by have:=of_decide_eq_false h; omega
 rw [if_neg (fun h=>h.elim h69 (by omega))] at hres
 clear h
 refine rg ?_;conv=>whnf
 refine Ag q2 F294 E E E E E ?_
 refine rg ?_;conv=>whnf
 refine ⟨fun h=>?_,fun h=>?_⟩
 ·rw [if_pos (by have:=of_decide_eq_true h; omega)] at hres
  subst hres
  refine rg ?_;conv=>whnf
  refine A1 2 zP E (.cons (.refl _) (.cons (.refl _) (.cons (.refl _) (.cons (.refl _) (.cons (.refl _) (.cons (.refl _) (.cons .nil .nil))))))) ?_
  exact Ac E (.cons (.cell E E E E) (.cons .tmp .nil)) E E
 have hsl:numAt b 2 2 ≤ b.length:=by have:=of_decide_eq_false h; omega
 rw [if_neg (by omega)] at hres
 clear h
 refine rg ?_;conv=>whnf
 refine Ag q6 F294 E E E E E ?_
 refine rg ?_;conv=>whnf
 refine ⟨fun h=>?_,fun h=>?_⟩
 ·rw [if_pos (by have:(numAt b 6 2:Int) ≠ 0:=(by simpa using h); omega)] at hres
  subst hres
  refine rg ?_;conv=>whnf
  refine A1 2 zP E (.cons (.refl _) (.cons (.refl _) (.cons (.refl _) (.cons (.refl _) (.cons (.refl _) (.cons (.refl _) (.cons .nil .nil))))))) ?_
  exact Ac E (.cons (.cell E E E E) (.cons .tmp .nil)) E E
 rw [if_neg (by have:(numAt b 6 2:Int) = 0:=(by simpa using h); omega)] at hres
 clear h
 refine rg ?_;conv=>whnf
 refine Ah (Cd (lo:=0) (hi:=20) Γ.toTy E E E E (.inl ⟨E,E⟩) (.inr ⟨_,_,E,E⟩) (by omega) h20) E E ?_
 refine rg ?_;conv=>whnf
 refine Ag qs F295 E E E E E ?_
 by_cases hsum:Eo (Mm (b.take 20) 10) = 65535
 rotate_left
 ·rw [if_pos hsum] at hres
  subst hres
  rw [decide_eq_false hsum]
  (refine rg ?_;(conv=>whnf);refine aT ?_;refine rg ?_;conv=>whnf)
  refine A1 2 zP E (.cons (.refl _) (.cons (.refl _) (.cons (.refl _) (.cons (.refl _) (.cons (.refl _) (.cons (.refl _) (.cons .nil .nil))))))) ?_
  exact Ac E (.cons (.cell E E E E) (.cons .tmp .nil)) E E
 rw [if_neg (fun h=>h hsum)] at hres
 subst hres
 rw [decide_eq_true hsum]
 have qc:=Eu ((b.take (numAt b 2 2)).drop 20) (by rw [List.length_drop,List.length_take]; omega)
 have w1:IntKind.i64.wrap ((b[(1:Int).toNat]'i1).toNat:Int) = ((bAt b 1).toNat:Int):=by
  rw [Ya (show 1 < b.length by omega)]
  have:=(b[1]'(by omega)).toNat_lt
  show IntKind.i64.wrap ((b[1]'(by omega)).toNat:Int) = _
  rw [IntKind.wrap_i64]; omega
 have w8:IntKind.i64.wrap ((b[(8:Int).toNat]'i8).toNat:Int) = ((bAt b 8).toNat:Int):=by
  rw [Ya (show 8 < b.length by omega)]
  have:=(b[8]'(by omega)).toNat_lt
  show IntKind.i64.wrap ((b[8]'(by omega)).toNat:Int) = _
  rw [IntKind.wrap_i64]; omega
 have w9:IntKind.i64.wrap ((b[(9:Int).toNat]'i9).toNat:Int) = ((bAt b 9).toNat:Int):=by
  rw [Ya (show 9 < b.length by omega)]
  have:=(b[9]'(by omega)).toNat_lt
  show IntKind.i64.wrap ((b[9]'(by omega)).toNat:Int) = _
  rw [IntKind.wrap_i64]; omega
 (refine rg ?_;(conv=>whnf);refine aF ?_;refine rg ?_;conv=>whnf)
 refine ⟨E,by decide,i1,?_⟩
 conv=>whnf
 refine Ay q4 F294 E E E (by kernel_rfl) E ?_
 refine rd (by kernel_rfl) ?_;conv=>whnf
 refine ⟨E,by decide,i8,?_⟩
 conv=>whnf
 refine ⟨E,by decide,i9,?_⟩
 conv=>whnf
 refine Ay q12 F296 E E E (by kernel_rfl) E ?_
 refine rd (by kernel_rfl) ?_;conv=>whnf
 refine Ay q16 F296 E E E (by kernel_rfl) E ?_
 refine rd (by kernel_rfl) ?_;conv=>whnf
 refine Ay q2 F294 E E E (by kernel_rfl) E ?_
 refine rd (by kernel_rfl) ?_;conv=>whnf
 refine Bo (Cd (lo:=20) (hi:=numAt b 2 2) Γ.toTy E E E E (.inr ⟨_,_,E,E⟩) (.inr ⟨_,_,E,E⟩) hs20 hsl) (by kernel_rfl) E ?_
 refine rd (by kernel_rfl) ?_;conv=>whnf
 refine Ay qc F63 E E E (by kernel_rfl) E ?_
 refine rd (by kernel_rfl) ?_;conv=>whnf
 refine ⟨(by kernel_rfl),?_⟩
 conv=>whnf
 refine Ac E (.cons (.cell E E E E) (.cons .tmp .nil)) ?_ E
 show SV.tup [.agg [Aa (bAt b 1).toNat,_,Aa (bAt b 8).toNat,Aa (bAt b 9).toNat,_,_,_],_] = SV.tup [.agg [Aa (IntKind.i64.wrap ((b[(1:Int).toNat]'i1).toNat:Int)),_,Aa (IntKind.i64.wrap ((b[(8:Int).toNat]'i8).toNat:Int)),Aa (IntKind.i64.wrap ((b[(9:Int).toNat]'i9).toNat:Int)),_,_,_],_]
 rw [w1,w8,w9]
 rfl
theorem Ag8 (t:Nat) (h:t ≤ 255):bits .or .i64 17664 (t:Int) = ((17664 + t:Nat):Int):=by
 have h1:=Cn 17664 t (by decide) (by omega)
 rw [show ((17664:Nat):Int) = 17664 from rfl] at h1
 rw [h1]
 congr 1
 have h2:=Nat.two_pow_add_eq_or_of_lt (i:=8) (b:=t) (by omega) 69
 rw [show 2 ^ 8 * 69 = 17664 from rfl] at h2
 rw [← h2]
theorem Ajl (x y:Nat) (hx:x ≤ 255) (hy:y ≤ 255):bits .or .i64 (IntKind.i64.wrap ((x:Int) * 2 ^ min (Int.toNat 8) IntKind.i64.bits)) (y:Int) = ((x * 256 + y:Nat):Int):=by
 have h3:IntKind.i64.wrap ((x:Int) * 2 ^ min (Int.toNat 8) IntKind.i64.bits) = ((x * 256:Nat):Int):=by
  show IntKind.i64.wrap ((x:Int) * 256) = _
  rw [IntKind.wrap_i64]
  omega
 rw [h3,Cn _ _ (by omega) (by omega)]
 congr 1
 have h:=Nat.two_pow_add_eq_or_of_lt (i:=8) (b:=y) (by omega) x
 rw [Nat.mul_comm x 256]
 exact h.symm
theorem Z2 (x:Nat) (h:x < 4294967296):IntKind.i64.wrap ((x:Int).fdiv (2 ^ (min (Int.toNat 16) IntKind.u32.bits))) = ((x / 65536:Nat):Int):=by
 show IntKind.i64.wrap ((x:Int).fdiv 65536) = _
 rw [Int.fdiv_eq_ediv_of_nonneg _ (by decide),IntKind.wrap_i64]
 omega
theorem Adh (x:Nat) (h:x < 4294967296):IntKind.i64.wrap (x:Int) = (x:Int):=by rw [IntKind.wrap_i64]; omega
theorem Adk (p:PacketM) (hp:PacketOK p) (hb:p.body.length < 100000):Sy.Spec Tryz.prog 248 [M2 p] [] (.tup [.sl 1 Ak (ipPutT p).1,Aa (ipPutT p).2]) []:=Ab Γ hm 100 F248 Tryz.ntmps248 rfl fun F hF=>by
 have hres:=ipPutT.eq_1 p
 generalize ipPutT p = res at *
 have h1:=hp.tos
 have h2:=hp.id
 have h3:=hp.ttl
 have h4:=hp.proto
 have h5:=hp.src
 have h6:=hp.dst
 conv=>whnf
 refine Do ⟨⟨_,_,F303⟩,Wy p.tos 255 (by omega)⟩ E E E E E E ?_
 (refine rg ?_;(conv=>whnf);refine aF ?_;refine rg ?_;conv=>whnf)
 refine Do ⟨⟨_,_,F303⟩,Wy p.ttl 255 (by omega)⟩ E E E E E E ?_
 (refine rg ?_;(conv=>whnf);refine aF ?_;refine rg ?_;conv=>whnf)
 refine Do ⟨⟨_,_,F303⟩,Wy p.proto 255 (by omega)⟩ E E E E E E ?_
 (refine rg ?_;(conv=>whnf);refine aF ?_;refine rg ?_;conv=>whnf)
 refine Do ⟨⟨_,_,F303⟩,Wy p.id 65535 (by omega)⟩ E E E E E E ?_
 (refine rg ?_;(conv=>whnf);refine aF ?_;refine rg ?_;conv=>whnf)
 refine ⟨fun h=>?_,fun h=>?_⟩
 ·rw [if_pos (by have:=of_decide_eq_true h; omega)] at hres
  subst hres
  refine rg ?_;conv=>whnf
  refine Ao 2 1 Ak E ?_
  exact Ac E (.cons .tmp (.cons .tmp .nil)) E E
 have hl:p.body.length ≤ 1480:=by have:=of_decide_eq_false h; omega
 rw [if_neg (by omega)] at hres
 subst hres
 clear h
 have hsz:Sq p = ((E9 p 0).set 10 (UInt8.ofNat (V9 p / 256))).set 11 (UInt8.ofNat (V9 p)) ++ p.body:=by rw [Ab4,Sq]
 rw [hsz]
 have hil:=Lu p 0
 have hs:=sumOfS (E9 p 0) (by rw [hil]; decide) (by rw [hil])
 have hput:=Ahr [17664 + p.tos,20 + p.body.length,p.id,0,p.ttl * 256 + p.proto,0,p.src / 65536,p.src,p.dst / 65536,p.dst] (by simp)
 rw [show Hw [17664 + p.tos,20 + p.body.length,p.id,0,p.ttl * 256 + p.proto,0,p.src / 65536,p.src,p.dst / 65536,p.dst] = E9 p 0 from rfl] at hput
 have hss:Ac1 (E9 p 0) = V9 p:=rfl
 rw [hss] at hs
 have hsl:V9 p ≤ 65535:=Nat.sub_le _ _
 generalize V9 p = s at *
 have htb:=Dp s
 have o1:=Ag8 p.tos h1
 have o2:=Ajl p.ttl p.proto h3 h4
 have g1:=Z2 p.src h5
 have g2:=Adh p.src h5
 have g3:=Z2 p.dst h6
 have g4:=Adh p.dst h6
 generalize E9 p 0 = b at *
 refine rg ?_;conv=>whnf
 refine ⟨by unfold I64; omega,?_⟩
 conv=>whnf
 refine ⟨by decide,?_⟩
 conv=>whnf
 refine ⟨by decide,?_⟩
 conv=>whnf
 refine ⟨by decide,?_⟩
 conv=>whnf
 refine Aay 68 (e:=Ahf) (l:=[17664 + p.tos,20 + p.body.length,p.id,0,p.ttl * 256 + p.proto,0,p.src / 65536,p.src,p.dst / 65536,p.dst]) E ?_ ?_
 ·show _ = [SV.val (.int .i64 (bits .or .i64 17664 (p.tos:Int))),SV.val _,SV.val _,SV.val _,SV.val (.int .i64 (bits .or .i64 (IntKind.i64.wrap ((p.ttl:Int) * 2 ^ min (Int.toNat 8) IntKind.i64.bits)) (p.proto:Int))),SV.val _,
   SV.val (.int .i64 (IntKind.i64.wrap ((p.src:Int).fdiv (2 ^ (min (Int.toNat 16) IntKind.u32.bits))))),SV.val (.int .i64 (IntKind.i64.wrap (p.src:Int))),SV.val (.int .i64 (IntKind.i64.wrap ((p.dst:Int).fdiv (2 ^ (min (Int.toNat 16) IntKind.u32.bits))))),SV.val (.int .i64 (IntKind.i64.wrap (p.dst:Int)))]
  rw [o1,o2,g1,g2,g3,g4]
  rfl
 refine Ar 68 E ?_
 refine Ah (Ai [(0,69)] E F304 hput E Y E ⟨.inr E,Y⟩) E E ?_
 refine rg ?_;conv=>whnf
 refine Ads [69] hs F305 E (.cons (.row E E) .nil) E E E ?_
 refine rg ?_;conv=>whnf
 have hb1:=(List.cons.inj htb).1
 have hb2:=(List.cons.inj (List.cons.inj htb).2).1
 refine ⟨by omega,?_⟩
 conv=>whnf
 refine ⟨by decide,by rw [hil]; decide,?_⟩
 conv=>whnf
 refine ⟨E,by rw [hil]; decide,UInt8.ofNat (s / 256),congrArg (fun z=>[z]) hb1,E,?_⟩
 conv=>whnf
 refine ⟨by decide,by simp [hil],?_⟩
 conv=>whnf
 refine ⟨E,by simp [hil],UInt8.ofNat s,congrArg (fun z=>[z]) hb2,E,?_⟩
 conv=>whnf
 refine Ah (Al Γ.toTy 84 E E E E E (.row E) .sl (by decide) (by simp [hil]; omega) (by simp [hil]; omega)) E E ?_
 refine Ar 84 E ?_
 refine rg ?_;conv=>whnf
 exact Ac E (.cons .tmp (.cons .tmp .nil)) E E
def hop1 (p:PacketM):PacketM × Int:=if p.ttl ≤ 1 then (noP,13) else (Ab7 p,0)
theorem ipHopS (p:PacketM) (hb:p.body.length < 100000) (ht:p.ttl ≤ 255):Sy.Spec Tryz.prog 246 [M2 p] [] (.tup [M2 (hop1 p).1,Aa (hop1 p).2]) []:=Ab Γ hm 100 F246 Tryz.ntmps246 rfl fun F hF=>by
 have hres:=hop1.eq_1 p
 generalize hop1 p = res at *
 have qc:=Eu p.body (by omega)
 conv=>whnf
 refine ⟨fun h=>?_,fun h=>?_⟩
 ·rw [if_pos (by have:=of_decide_eq_true h; omega)] at hres
  subst hres
  refine rg ?_;conv=>whnf
  refine A1 2 zP E (.cons (.refl _) (.cons (.refl _) (.cons (.refl _) (.cons (.refl _) (.cons (.refl _) (.cons (.refl _) (.cons .nil .nil))))))) ?_
  exact Ac E (.cons (.cell E E E E) (.cons .tmp .nil)) E E
 have h2:¬ p.ttl ≤ 1:=by have:=of_decide_eq_false h; omega
 rw [if_neg h2] at hres
 subst hres
 have e:((p.ttl - 1:Nat):Int) = (p.ttl:Int) - 1:=by omega
 refine rg ?_;conv=>whnf
 refine ⟨by unfold I64; omega,?_⟩
 conv=>whnf
 refine Ag qc F63 E E E E E ?_
 refine rg ?_;conv=>whnf
 refine Ac E (.cons (.cell E E E E) (.cons .tmp .nil)) ?_ E
 show SV.tup [.agg [_,_,Aa ((p.ttl - 1:Nat):Int),_,_,_,_],_] = SV.tup [.agg [_,_,Aa ((p.ttl:Int) - 1),_,_,_,_],_]
 rw [e]
 rfl
def udpU (b:List UInt8):Nat → List SV
 | 0=>[Aa 0,Aa 0,Aa 0,Aa 0]
 | 1=>[Aa (numAt b 0 2),Aa 0,Aa 0,Aa 0]
 | 2=>[Aa (numAt b 0 2),Aa (numAt b 2 2),Aa 0,Aa 0]
 | 3=>[Aa (numAt b 0 2),Aa (numAt b 2 2),Aa (numAt b 4 2),Aa 0]
 | _=>[Aa (numAt b 0 2),Aa (numAt b 2 2),Aa (numAt b 4 2),Aa (numAt b 6 2)]
theorem Af4 (b:List UInt8) (hb:b.length < 100000):Sy.Spec Tryz.prog 339 [.sl 1 Ak b] [] (.tup [Aa (udpTakeT b).1,Aa (udpTakeT b).2.1,.sl 1 Ak (udpTakeT b).2.2.1,Aa (udpTakeT b).2.2.2]) []:=Ab Γ hm 100 F339 Tryz.ntmps339 rfl fun F hF=>by
 have hres:=udpTakeT.eq_1 b
 generalize udpTakeT b = res at *
 conv=>whnf
 refine ⟨fun h=>?_,fun h=>?_⟩
 ·rw [if_pos (by have:=of_decide_eq_true h; omega)] at hres
  subst hres
  refine rg ?_;conv=>whnf
  refine Ao 4 1 Ak E ?_
  exact Ac E (.cons .tmp (.cons .tmp (.cons .tmp (.cons .tmp .nil)))) E E
 have h8:8 ≤ b.length:=by have:=of_decide_eq_false h; omega
 rw [if_neg (by omega)] at hres
 clear h
 have hp0:=Du (b[0]'(by omega)) (b[1]'(by omega))
 rw [← Ma (show 0 + 2 ≤ b.length by omega)] at hp0
 have hp1:=Du (b[2]'(by omega)) (b[3]'(by omega))
 rw [← Ma (show 2 + 2 ≤ b.length by omega)] at hp1
 have hp2:=Du (b[4]'(by omega)) (b[5]'(by omega))
 rw [← Ma (show 4 + 2 ≤ b.length by omega)] at hp2
 have hp3:=Du (b[6]'(by omega)) (b[7]'(by omega))
 rw [← Ma (show 6 + 2 ≤ b.length by omega)] at hp3
 refine rg ?_;conv=>whnf
 refine A0 4 (fun j=>[(0,.sl 1 Ak b),(6,.ptr 6 0),(11,Aa j)]) (fun j=>[(6,.box (udpU b j))]) [] ⟨⟨E,E,E,E,E,E,Y⟩,⟨.inl E,E,Y⟩,E,E⟩ ?_
 intro j hj
 have hcase:j = 0 ∨ j = 1 ∨ j = 2 ∨ j = 3 ∨ j = 4:=by omega
 rcases hcase with rfl | rfl | rfl | rfl | rfl
 ·(refine rg ?_;(conv=>whnf);refine aT ?_;refine rg ?_;conv=>whnf)
  refine ⟨by unfold I64; omega,?_⟩
  conv=>whnf
  refine ⟨E,by omega,by omega,?_⟩
  conv=>whnf
  refine ⟨by decide,?_⟩
  conv=>whnf
  refine ⟨by unfold I64; omega,?_⟩
  conv=>whnf
  refine ⟨by unfold I64; omega,?_⟩
  conv=>whnf
  refine ⟨E,by omega,by omega,?_⟩
  conv=>whnf
  refine ⟨by decide,by decide,?_⟩
  conv=>whnf
  refine ⟨(by kernel_rfl),?_⟩
  conv=>whnf
  refine ⟨by unfold I64; omega,?_⟩
  conv=>whnf
  exact Aq [] (by decide) ⟨⟨E,E,E,E,E,E,Y⟩,⟨.inl (congrArg (fun z:Int=>Ob.box [Aa z,Aa 0,Aa 0,Aa 0]) hp0.symm),E,Y⟩,E,E⟩
 ·(refine rg ?_;(conv=>whnf);refine aT ?_;refine rg ?_;conv=>whnf)
  refine ⟨by unfold I64; omega,?_⟩
  conv=>whnf
  refine ⟨E,by omega,by omega,?_⟩
  conv=>whnf
  refine ⟨by decide,?_⟩
  conv=>whnf
  refine ⟨by unfold I64; omega,?_⟩
  conv=>whnf
  refine ⟨by unfold I64; omega,?_⟩
  conv=>whnf
  refine ⟨E,by omega,by omega,?_⟩
  conv=>whnf
  refine ⟨by decide,by decide,?_⟩
  conv=>whnf
  refine ⟨(by kernel_rfl),?_⟩
  conv=>whnf
  refine ⟨by unfold I64; omega,?_⟩
  conv=>whnf
  exact Aq [] (by decide) ⟨⟨E,E,E,E,E,E,Y⟩,⟨.inl (congrArg (fun z:Int=>Ob.box [Aa (numAt b 0 2),Aa z,Aa 0,Aa 0]) hp1.symm),E,Y⟩,E,E⟩
 ·(refine rg ?_;(conv=>whnf);refine aT ?_;refine rg ?_;conv=>whnf)
  refine ⟨by unfold I64; omega,?_⟩
  conv=>whnf
  refine ⟨E,by omega,by omega,?_⟩
  conv=>whnf
  refine ⟨by decide,?_⟩
  conv=>whnf
  refine ⟨by unfold I64; omega,?_⟩
  conv=>whnf
  refine ⟨by unfold I64; omega,?_⟩
  conv=>whnf
  refine ⟨E,by omega,by omega,?_⟩
  conv=>whnf
  refine ⟨by decide,by decide,?_⟩
  conv=>whnf
  refine ⟨(by kernel_rfl),?_⟩
  conv=>whnf
  refine ⟨by unfold I64; omega,?_⟩
  conv=>whnf
  exact Aq [] (by decide) ⟨⟨E,E,E,E,E,E,Y⟩,⟨.inl (congrArg (fun z:Int=>Ob.box [Aa (numAt b 0 2),Aa (numAt b 2 2),Aa z,Aa 0]) hp2.symm),E,Y⟩,E,E⟩
 ·(refine rg ?_;(conv=>whnf);refine aT ?_;refine rg ?_;conv=>whnf)
  refine ⟨by unfold I64; omega,?_⟩
  conv=>whnf
  refine ⟨E,by omega,by omega,?_⟩
  conv=>whnf
  refine ⟨by decide,?_⟩
  conv=>whnf
  refine ⟨by unfold I64; omega,?_⟩
  conv=>whnf
  refine ⟨by unfold I64; omega,?_⟩
  conv=>whnf
  refine ⟨E,by omega,by omega,?_⟩
  conv=>whnf
  refine ⟨by decide,by decide,?_⟩
  conv=>whnf
  refine ⟨(by kernel_rfl),?_⟩
  conv=>whnf
  refine ⟨by unfold I64; omega,?_⟩
  conv=>whnf
  exact Aq [] (by decide) ⟨⟨E,E,E,E,E,E,Y⟩,⟨.inl (congrArg (fun z:Int=>Ob.box [Aa (numAt b 0 2),Aa (numAt b 2 2),Aa (numAt b 4 2),Aa z]) hp3.symm),E,Y⟩,E,E⟩
 clear hp0 hp1 hp2 hp3
 (refine rg ?_;(conv=>whnf);refine aF ?_;refine rg ?_;conv=>whnf)
 refine ⟨by decide,by decide,?_⟩
 conv=>whnf
 refine ⟨fun h=>?_,fun h=>?_⟩
 ·rw [if_pos (by have:=of_decide_eq_true h; omega)] at hres
  subst hres
  refine rg ?_;conv=>whnf
  refine Ao 4 1 Ak E ?_
  exact Ac E (.cons .tmp (.cons .tmp (.cons .tmp (.cons .tmp .nil)))) E E
 have hs8:8 ≤ numAt b 4 2:=by have:=of_decide_eq_false h; omega
 rw [if_neg (by omega)] at hres
 clear h
 refine rg ?_;conv=>whnf
 refine ⟨by decide,by decide,?_⟩
 conv=>whnf
 refine ⟨fun h=>?_,fun h=>?_⟩
 ·rw [if_pos (by have:=of_decide_eq_true h; omega)] at hres
  subst hres
  refine rg ?_;conv=>whnf
  refine Ao 4 1 Ak E ?_
  exact Ac E (.cons .tmp (.cons .tmp (.cons .tmp (.cons .tmp .nil)))) E E
 have hsl:numAt b 4 2 ≤ b.length:=by have:=of_decide_eq_false h; omega
 rw [if_neg (by omega)] at hres
 clear h
 refine rg ?_;conv=>whnf
 refine ⟨by decide,by decide,?_⟩
 conv=>whnf
 refine ⟨fun h=>?_,fun h=>?_⟩
 ·rw [if_pos (by have:(numAt b 6 2:Int) ≠ 0:=(by simpa using h); omega)] at hres
  subst hres
  refine rg ?_;conv=>whnf
  refine Ao 4 1 Ak E ?_
  exact Ac E (.cons .tmp (.cons .tmp (.cons .tmp (.cons .tmp .nil)))) E E
 rw [if_neg (by have:(numAt b 6 2:Int) = 0:=(by simpa using h); omega)] at hres
 subst hres
 clear h
 have qc:=Eu ((b.take (numAt b 4 2)).drop 8) (by rw [List.length_drop,List.length_take]; omega)
 refine rg ?_;conv=>whnf
 refine ⟨by decide,by decide,?_⟩
 conv=>whnf
 refine ⟨by decide,by decide,?_⟩
 conv=>whnf
 refine ⟨by decide,by decide,?_⟩
 conv=>whnf
 refine Bo (Cd (lo:=8) (hi:=numAt b 4 2) Γ.toTy E E E E (.inr ⟨_,_,E,E⟩) (.inr ⟨_,_,E,E⟩) hs8 hsl) (by kernel_rfl) E ?_
 refine rd (by kernel_rfl) ?_;conv=>whnf
 refine Ay qc F63 E E E (by kernel_rfl) E ?_
 refine rd (by kernel_rfl) ?_;conv=>whnf
 refine ⟨(by kernel_rfl),?_⟩
 conv=>whnf
 exact Ac E (.cons .tmp (.cons .tmp (.cons .tmp (.cons .tmp .nil)))) E E
theorem Ai9 (src dst:Nat) (body:List UInt8) (h1:src ≤ 65535) (h2:dst ≤ 65535) (h3:body.length ≤ 1472):Sy.Spec Tryz.prog 310 [Aa src,Aa dst,.sl 1 Ak body] [] (.tup [.sl 1 Ak (Af5 src dst body),Aa 0]) []:=Ab Γ hm 100 F310 Tryz.ntmps310 rfl fun F hF=>by
 ((conv=>whnf);refine aF ?_;refine rg ?_;conv=>whnf)
 (refine ⟨fun h=>False.elim (by simp at h; omega),fun _=>?_⟩;refine rg ?_;(conv=>whnf);refine aF ?_;refine rg ?_;(conv=>whnf);refine ⟨fun h=>False.elim (by simp at h; omega),fun _=>?_⟩;refine rg ?_;(conv=>whnf);refine ⟨fun h=>False.elim (by simp at h; omega),fun _=>?_⟩;refine rg ?_;conv=>whnf)
 refine ⟨by unfold I64; omega,?_⟩
 conv=>whnf
 refine B7 8 1000 1 Ak E E ?_
 refine Ah (Z3 Γ.toTy E E E E E E) E E ?_
 refine rg ?_;conv=>whnf
 have key:∀ (x:Nat) (pre:List Nat),pre.length ≤ 4 → Ci (pre ++ [x]) = Ci pre ++ [UInt8.ofNat (x / 256),UInt8.ofNat x]:=fun x pre _=>E1 pre x
 have hwl:∀ l:List Nat,(Ci l).length = 2 * l.length:=Ih
 obtain ⟨ws,hws⟩:∃ ws:List Nat,ws = [src,dst,8 + body.length,0]:=⟨_,rfl⟩
 refine A0 4 (fun j=>[(2,.sl 1 Ak body),(8,.osl 1000),(35,.agg [Aa src,Aa dst,Aa (8 + body.length:Nat),Aa 0]),(36,Aa j)]) (fun j=>[(1000,.row 1 Ak (Ci (ws.take j)))]) [] ⟨⟨E,E,E,E,E,E,E,E,Y⟩,⟨.inl (congrArg (Ob.row 1 Ak) (by simp [Ci])),E,Y⟩,E,E⟩ ?_
 intro j hj
 have hcase:j = 0 ∨ j = 1 ∨ j = 2 ∨ j = 3 ∨ j = 4:=by omega
 rcases hcase with rfl | rfl | rfl | rfl | rfl
 ·have hs:Ci (ws.take 1) = Ci (ws.take 0) ++ [UInt8.ofNat (src / 256),UInt8.ofNat src]:=by subst hws; exact E1 [] src
  have hl:=hwl (ws.take 0)
  have hl2:(ws.take 0).length ≤ 4:=by rw [List.length_take]; omega
  have htb:=Dp src
  (refine rg ?_;(conv=>whnf);refine aT ?_;refine rg ?_;conv=>whnf)
  refine Ah (D5 (k:=.int .i64) Γ.toTy E E E Tryz.underlying3 E E (by decide) (by decide) E) E E ?_
  refine rg ?_;conv=>whnf
  refine ⟨by decide,?_⟩
  conv=>whnf
  refine Ah (Al Γ.toTy 46 E E E E E (.row E) (.lit (e:=Ak) (l:=[UInt8.ofNat (src / 256),UInt8.ofNat src]) E htb) (by simp) (by rw [hl]; simp only [List.length_cons,List.length_nil]; omega) (by rw [hl]; simp only [List.length_cons,List.length_nil]; omega)) E E ?_
  refine rg ?_;conv=>whnf
  refine ⟨by unfold I64; omega,?_⟩
  conv=>whnf
  exact Aq [(1000,46)] (by decide) ⟨⟨E,E,E,E,E,E,E,E,Y⟩,⟨.inl (congrArg (Ob.row 1 Ak) hs),E,Y⟩,E,E⟩
 ·have hs:Ci (ws.take 2) = Ci (ws.take 1) ++ [UInt8.ofNat (dst / 256),UInt8.ofNat dst]:=by subst hws; exact E1 [src] dst
  have hl:=hwl (ws.take 1)
  have hl2:(ws.take 1).length ≤ 4:=by rw [List.length_take]; omega
  have htb:=Dp dst
  (refine rg ?_;(conv=>whnf);refine aT ?_;refine rg ?_;conv=>whnf)
  refine Ah (D5 (k:=.int .i64) Γ.toTy E E E Tryz.underlying3 E E (by decide) (by decide) E) E E ?_
  refine rg ?_;conv=>whnf
  refine ⟨by decide,?_⟩
  conv=>whnf
  refine Ah (Al Γ.toTy 46 E E E E E (.row E) (.lit (e:=Ak) (l:=[UInt8.ofNat (dst / 256),UInt8.ofNat dst]) E htb) (by simp) (by rw [hl]; simp only [List.length_cons,List.length_nil]; omega) (by rw [hl]; simp only [List.length_cons,List.length_nil]; omega)) E E ?_
  refine rg ?_;conv=>whnf
  refine ⟨by unfold I64; omega,?_⟩
  conv=>whnf
  exact Aq [(1000,46)] (by decide) ⟨⟨E,E,E,E,E,E,E,E,Y⟩,⟨.inl (congrArg (Ob.row 1 Ak) hs),E,Y⟩,E,E⟩
 ·have hs:Ci (ws.take 3) = Ci (ws.take 2) ++ [UInt8.ofNat ((8 + body.length) / 256),UInt8.ofNat (8 + body.length)]:=by subst hws; exact E1 [src,dst] (8 + body.length)
  have hl:=hwl (ws.take 2)
  have hl2:(ws.take 2).length ≤ 4:=by rw [List.length_take]; omega
  have htb:=Dp (8 + body.length)
  (refine rg ?_;(conv=>whnf);refine aT ?_;refine rg ?_;conv=>whnf)
  refine Ah (D5 (k:=.int .i64) Γ.toTy E E E Tryz.underlying3 E E (by decide) (by decide) E) E E ?_
  refine rg ?_;conv=>whnf
  refine ⟨by decide,?_⟩
  conv=>whnf
  refine Ah (Al Γ.toTy 46 E E E E E (.row E) (.lit (e:=Ak) (l:=[UInt8.ofNat ((8 + body.length) / 256),UInt8.ofNat (8 + body.length)]) E htb) (by simp) (by rw [hl]; simp only [List.length_cons,List.length_nil]; omega) (by rw [hl]; simp only [List.length_cons,List.length_nil]; omega)) E E ?_
  refine rg ?_;conv=>whnf
  refine ⟨by unfold I64; omega,?_⟩
  conv=>whnf
  exact Aq [(1000,46)] (by decide) ⟨⟨E,E,E,E,E,E,E,E,Y⟩,⟨.inl (congrArg (Ob.row 1 Ak) hs),E,Y⟩,E,E⟩
 ·have hs:Ci (ws.take 4) = Ci (ws.take 3) ++ [UInt8.ofNat (0 / 256),UInt8.ofNat 0]:=by subst hws; exact E1 [src,dst,8 + body.length] 0
  have hl:=hwl (ws.take 3)
  have hl2:(ws.take 3).length ≤ 4:=by rw [List.length_take]; omega
  have htb:=Dp 0
  (refine rg ?_;(conv=>whnf);refine aT ?_;refine rg ?_;conv=>whnf)
  refine Ah (D5 (k:=.int .i64) Γ.toTy E E E Tryz.underlying3 E E (by decide) (by decide) E) E E ?_
  refine rg ?_;conv=>whnf
  refine ⟨by decide,?_⟩
  conv=>whnf
  refine Ah (Al Γ.toTy 46 E E E E E (.row E) (.lit (e:=Ak) (l:=[UInt8.ofNat (0 / 256),UInt8.ofNat 0]) E htb) (by simp) (by rw [hl]; simp only [List.length_cons,List.length_nil]; omega) (by rw [hl]; simp only [List.length_cons,List.length_nil]; omega)) E E ?_
  refine rg ?_;conv=>whnf
  refine ⟨by unfold I64; omega,?_⟩
  conv=>whnf
  exact Aq [(1000,46)] (by decide) ⟨⟨E,E,E,E,E,E,E,E,Y⟩,⟨.inl (congrArg (Ob.row 1 Ak) hs),E,Y⟩,E,E⟩
 have hl:=hwl (ws.take 4)
 have e:ws.take 4 = [src,dst,8 + body.length,0]:=by rw [hws]; rfl
 rw [e] at hl ⊢
 have hl3:(Ci [src,dst,8 + body.length,0]).length = 8:=hl
 (refine rg ?_;(conv=>whnf);refine aF ?_;refine rg ?_;conv=>whnf)
 refine Ah (Al Γ.toTy 50 E E E E E (.row E) .sl (by simp) (by rw [hl3]; simp; omega) (by rw [hl3]; omega)) E E ?_
 refine Ar 50 E ?_
 refine rg ?_;conv=>whnf
 exact Ac E (.cons .tmp (.cons .tmp .nil)) E E
theorem Af6 (a b:Nat) (ha:a < 18446744073709551616) (hb:b < 18446744073709551616):Sy.Spec Tryz.prog 311 [A9 a,A9 b] [] (Aa (udpPort a b:Nat)) []:=Ab Γ hm 100 F311 Tryz.ntmps311 rfl fun F hF=>by
 have hx:=bits_xor_u64_nat a b ha hb
 have hmd:((a ^^^ b:Nat):Int).tmod 16384 = (((a ^^^ b) % 16384:Nat):Int):=by rw [Int.tmod_eq_emod_of_nonneg (by omega)]; omega
 have hl:=Nat.mod_lt (a ^^^ b) (show 0 < 16384 by decide)
 have hw:IntKind.i64.wrap (((a ^^^ b) % 16384:Nat):Int) = (((a ^^^ b) % 16384:Nat):Int):=by rw [IntKind.wrap_i64]; omega
 conv=>whnf
 refine ⟨by decide,?_⟩
 rw [hx,hmd]
 conv=>whnf
 rw [hw]
 refine ⟨by unfold I64; omega,?_⟩
 conv=>whnf
 refine Ac E (.cons .tmp .nil) ?_ E
 refine congrArg (fun z:Int=>SV.val (.int .i64 z)) ?_
 rw [udpPort]
 omega
theorem Adm (v:Int) (h:O0 v = true):Sy.Spec Tryz.prog 309 [Aa v] [] (.tup [.sl 1 Ak [],Aa 17]) []:=Ab Γ hm 100 F309 Tryz.ntmps309 rfl fun F hF=>by
 simp only [O0,Bool.or_eq_true,decide_eq_true_eq] at h
 conv=>whnf
 refine ⟨fun h1=>?_,fun h1=>?_⟩
 ·(refine rg ?_;(conv=>whnf);refine aT ?_;refine rg ?_;conv=>whnf)
  refine Ao 2 1 Ak E ?_
  exact Ac E (.cons .tmp (.cons .tmp .nil)) E E
 refine rg ?_;conv=>whnf
 refine ⟨fun h2=>?_,fun h2=>absurd (of_decide_eq_false h2) (by have:=of_decide_eq_false h1; omega)⟩
 refine rg ?_;conv=>whnf
 refine Ao 2 1 Ak E ?_
 exact Ac E (.cons .tmp (.cons .tmp .nil)) E E
theorem Af0 {v:Int} (h:O0 v = false):1 ≤ v ∧ v ≤ 16777215:=by
 simp only [O0,Bool.or_eq_false_iff,decide_eq_false_iff_not] at h
 omega
theorem Afc (k:Nat):(Jw k).map Ak = [SV.val (.int .u8 8),SV.val (.int .u8 0),SV.val (.int .u8 0),SV.val (.int .u8 0),SV.val (.int .u8 (IntKind.u8.wrap ((k:Int).fdiv (2 ^ (min (Int.toNat 16) IntKind.i64.bits))))),
  SV.val (.int .u8 (IntKind.u8.wrap ((k:Int).fdiv (2 ^ (min (Int.toNat 8) IntKind.i64.bits))))),SV.val (.int .u8 (IntKind.u8.wrap (k:Int))),SV.val (.int .u8 0)]:=by
 have h1:IntKind.u8.wrap ((k:Int).fdiv (2 ^ (min (Int.toNat 16) IntKind.i64.bits))) = ((UInt8.ofNat (k / 65536)).toNat:Int):=by
  show IntKind.u8.wrap ((k:Int).fdiv 65536) = _
  rw [Int.fdiv_eq_ediv_of_nonneg _ (by decide),IntKind.wrap_u8]
  simp
 have h2:IntKind.u8.wrap ((k:Int).fdiv (2 ^ (min (Int.toNat 8) IntKind.i64.bits))) = ((UInt8.ofNat (k / 256)).toNat:Int):=by
  show IntKind.u8.wrap ((k:Int).fdiv 256) = _
  rw [Int.fdiv_eq_ediv_of_nonneg _ (by decide),IntKind.wrap_u8]
  simp
 have h3:=u8_of k
 rw [h1,h2,h3]
 rfl
theorem Ahy (k:Nat) (h:1 ≤ k ∧ k ≤ 16777215):Sy.Spec Tryz.prog 309 [Aa k] [] (.tup [.osl 0,Aa 0]) [(0,.row 1 Ak (Jw k))]:=Ab Γ hm 100 F309 Tryz.ntmps309 rfl fun F hF=>by
 have hl:=Afc k
 conv=>whnf
 refine ⟨fun h1=>absurd (of_decide_eq_true h1) (by omega),fun _=>?_⟩
 refine rg ?_;conv=>whnf
 refine ⟨fun h1=>absurd (of_decide_eq_true h1) (by omega),fun _=>?_⟩
 refine rg ?_;conv=>whnf
 refine ⟨by decide,?_⟩
 conv=>whnf
 refine ⟨by decide,?_⟩
 conv=>whnf
 refine Ea 18 Ak (Jw k) E hl ?_
 exact done E (.cons .tmp (.cons .tmp .nil)) [(0,18)] [(0,.row 1 Ak (Jw k))] (fun _ h=>h) E E ⟨Y,⟨.inl E,E,Y⟩,E,E⟩
theorem Afq (a b:List UInt8):((⟨a.toArray⟩:ByteArray) == (⟨b.toArray⟩:ByteArray)) = decide (a = b):=by
 have key:=Go.MapKept.bytes_beq (⟨a.toArray⟩:ByteArray) ⟨b.toArray⟩
 by_cases h:a = b
 ·subst h
  rw [decide_eq_true rfl]
  exact key.2 E
 ·rw [decide_eq_false h]
  cases hb:((⟨a.toArray⟩:ByteArray) == (⟨b.toArray⟩:ByteArray)) with
  | false=>rfl
  | true =>
   have:=congrArg (fun z:ByteArray=>z.data.toList) (key.1 hb)
   exact absurd (by simpa using this) h
theorem Af8 (x y z:UInt8):bits .or .i64 (bits .or .i64 (IntKind.i64.wrap ((IntKind.i64.wrap (x.toNat:Int)) * 2 ^ min (Int.toNat 16) IntKind.i64.bits)) (IntKind.i64.wrap ((IntKind.i64.wrap (y.toNat:Int)) * 2 ^ min (Int.toNat 8) IntKind.i64.bits))) (IntKind.i64.wrap (z.toNat:Int))
  = (((x.toNat * 256 + y.toNat) * 256 + z.toNat:Nat):Int):=by
 have h1:=x.toNat_lt
 have h2:=y.toNat_lt
 have h3:=z.toNat_lt
 have e1:IntKind.i64.wrap (x.toNat:Int) = (x.toNat:Int):=by rw [IntKind.wrap_i64]; omega
 have e2:IntKind.i64.wrap (y.toNat:Int) = (y.toNat:Int):=by rw [IntKind.wrap_i64]; omega
 have e3:IntKind.i64.wrap (z.toNat:Int) = (z.toNat:Int):=by rw [IntKind.wrap_i64]; omega
 rw [e1,e2,e3]
 have f1:IntKind.i64.wrap ((x.toNat:Int) * 2 ^ min (Int.toNat 16) IntKind.i64.bits) = ((x.toNat * 65536:Nat):Int):=by
  show IntKind.i64.wrap ((x.toNat:Int) * 65536) = _
  rw [IntKind.wrap_i64]
  omega
 have f2:IntKind.i64.wrap ((y.toNat:Int) * 2 ^ min (Int.toNat 8) IntKind.i64.bits) = ((y.toNat * 256:Nat):Int):=by
  show IntKind.i64.wrap ((y.toNat:Int) * 256) = _
  rw [IntKind.wrap_i64]
  omega
 rw [f1,f2,Cn _ _ (by omega) (by omega)]
 have g1:x.toNat * 65536 ||| y.toNat * 256 = x.toNat * 65536 + y.toNat * 256:=by
  have h:=Nat.two_pow_add_eq_or_of_lt (i:=16) (b:=y.toNat * 256) (by omega) x.toNat
  rw [Nat.mul_comm x.toNat 65536]
  exact h.symm
 rw [g1,Cn _ _ (by omega) (by omega)]
 refine congrArg (fun n:Nat=>(n:Int)) ?_
 have h:256 * (x.toNat * 256 + y.toNat) + z.toNat = 256 * (x.toNat * 256 + y.toNat) ||| z.toNat:=Nat.two_pow_add_eq_or_of_lt (i:=8) (b:=z.toNat) (by omega) (x.toNat * 256 + y.toNat)
 have e:x.toNat * 65536 + y.toNat * 256 = 256 * (x.toNat * 256 + y.toNat):=by omega
 rw [e,← h]
 omega
theorem vniS (b:List UInt8) (hb:b.length < 100000):Sy.Spec Tryz.prog 340 [.sl 1 Ak b] [] (.tup [Aa (vniT b).1,.sl 1 Ak (vniT b).2.1,Aa (vniT b).2.2]) []:=Ab Γ hm 100 F340 Tryz.ntmps340 rfl fun F hF=>by
 have hres:=vniT.eq_1 b
 generalize vniT b = res at *
 conv=>whnf
 refine ⟨fun h=>?_,fun h=>?_⟩
 ·rw [if_pos (by have:=of_decide_eq_true h; omega)] at hres
  subst hres
  refine rg ?_;conv=>whnf
  refine Ao 3 1 Ak E ?_
  exact Ac E (.cons .tmp (.cons .tmp (.cons .tmp .nil))) E E
 have h8:8 ≤ b.length:=by have:=of_decide_eq_false h; omega
 rw [if_neg (by omega)] at hres
 clear h
 have i4:(4:Int).toNat < b.length:=by show 4 < _; omega
 have i5:(5:Int).toNat < b.length:=by show 5 < _; omega
 have i6:(6:Int).toNat < b.length:=by show 6 < _; omega
 have hv:bits .or .i64 (bits .or .i64 (IntKind.i64.wrap ((IntKind.i64.wrap ((b[(4:Int).toNat]'i4).toNat:Int)) * 2 ^ min (Int.toNat 16) IntKind.i64.bits)) (IntKind.i64.wrap ((IntKind.i64.wrap ((b[(5:Int).toNat]'i5).toNat:Int)) * 2 ^ min (Int.toNat 8) IntKind.i64.bits))) (IntKind.i64.wrap ((b[(6:Int).toNat]'i6).toNat:Int))
   = (numAt b 4 3:Int):=by
  rw [Af8,numAt3 (show 4 + 3 ≤ b.length by omega)]
  rfl
 have hvl:=Iy b 4 3
 refine rg ?_;conv=>whnf
 refine ⟨E,by decide,i4,?_⟩
 conv=>whnf
 refine ⟨by decide,?_⟩
 conv=>whnf
 refine ⟨E,by decide,i5,?_⟩
 conv=>whnf
 refine ⟨by decide,?_⟩
 conv=>whnf
 refine ⟨E,by decide,i6,?_⟩
 conv=>whnf
 refine ⟨(by kernel_rfl),?_⟩
 rw [hv]
 generalize hvv:numAt b 4 3 = v at *
 conv=>whnf
 by_cases h0:v = 0
 ·rw [if_pos (.inl h0)] at hres
  subst hres
  have q:=Adm v (by rw [h0]; decide)
  refine Ag q F309 E E E E E ?_
  (refine rg ?_;(conv=>whnf);refine aT ?_;refine rd (by kernel_rfl) ?_;conv=>whnf)
  refine ⟨(by kernel_rfl),?_⟩
  ((conv=>whnf);refine aT ?_;refine rg ?_;conv=>whnf)
  refine Ao 3 1 Ak E ?_
  exact Ac E (.cons .tmp (.cons .tmp (.cons .tmp .nil))) E E
 have q:=Ahy v (by omega)
 refine Ah (Ai [(0,55)] E F309 q E Y E ⟨.inr E,Y⟩) E E ?_
 refine Ar 55 E ?_
 (refine rg ?_;(conv=>whnf);refine aF ?_;refine rd (by kernel_rfl) ?_;conv=>whnf)
 refine Bo (Hn Γ.toTy (bs:=Jw v) E E E E E E E .sl) (by kernel_rfl) E ?_
 refine rd (by kernel_rfl) ?_;conv=>whnf
 refine Bo (Cd (lo:=0) (hi:=8) Γ.toTy E E E E (.inl ⟨E,E⟩) (.inr ⟨_,_,E,E⟩) (by omega) h8) (by kernel_rfl) E ?_
 refine rd (by kernel_rfl) ?_;conv=>whnf
 refine Bo (Hn Γ.toTy (bs:=b.take 8) E E E E E E E .sl) (by kernel_rfl) E ?_
 refine rd (by kernel_rfl) ?_;conv=>whnf
 refine ⟨(by kernel_rfl),?_⟩
 conv=>whnf
 have hbe:=Afq (Jw v) (b.take 8)
 rw [hbe]
 by_cases he:b.take 8 = Jw v
 rotate_left
 ·rw [if_pos (.inr he)] at hres
  subst hres
  rw [decide_eq_false (fun e=>he e.symm)]
  refine ⟨fun _=>?_,fun h=>absurd h (by decide)⟩
  refine rg ?_;conv=>whnf
  refine Ao 3 1 Ak E ?_
  exact Ac E (.cons .tmp (.cons .tmp (.cons .tmp .nil))) E E
 rw [if_neg (fun h=>h.elim h0 (fun h2=>h2 he))] at hres
 subst hres
 rw [decide_eq_true he.symm]
 have etk:(b.take b.length).drop 8 = b.drop 8:=by rw [List.take_length]
 refine ⟨fun h=>absurd h (by decide),fun _=>?_⟩
 refine rg ?_;conv=>whnf
 refine Ah (Cd (lo:=8) (hi:=b.length) Γ.toTy E E E E (.inr ⟨_,_,E,E⟩) (.inl ⟨E,E⟩) h8 (Nat.le_refl _)) E E ?_
 refine rg ?_;conv=>whnf
 refine Ah (Al Γ.toTy 45 E E E E E .nil .sl (by simp) (by simp; omega) (by simp; omega)) E E ?_
 refine Ar 45 E ?_
 refine rg ?_;conv=>whnf
 refine Ac E (.cons .tmp (.cons .tmp (.cons .tmp .nil))) ?_ E
 show SV.tup [_,.sl 1 Ak (b.drop 8),_] = SV.tup [_,.sl 1 Ak ([] ++ (b.take b.length).drop 8),_]
 rw [etk]
 rfl
theorem Zy (a c v:Nat) (f:FrameM) (h:f.body.length ≤ 1450):ipPutT (Lj a c v f) = (Sq (Lj a c v f),0):=by
 rw [ipPutT,if_neg (by rw [Hd]; omega)]
theorem Aa3 (a b:Nat):udpPort a b ≤ 65535:=by
 have:=Nat.mod_lt (a ^^^ b) (show 0 < 16384 by decide)
 unfold udpPort
 omega
theorem Ag7 (a c v:Nat) (f:FrameM) (ha:a < 4294967296) (hc:c < 4294967296) (h:f.body.length ≤ 1450):FrameOK ⟨Hc c,Hc a,2048,Sq (Lj a c v f)⟩ :=
 ⟨Ue c hc,Ue a ha,by show (2048:Nat) ≤ 65535; decide,by show (Sq (Lj a c v f)).length ≤ 1504; rw [Ke,Hd]; omega⟩
theorem Ai4 (a c:Nat) (v:Int) (f:FrameM) (ha:a < 4294967296) (hc:c < 4294967296) (hf:FrameOK f) :
  Sy.Spec Tryz.prog 253 [Cb a,Cb c,Aa v,Bu f] [] (.tup [.sl 1 Ak (wrapT a c v f).1,Aa (wrapT a c v f).2]) []:=Ab Γ hm 100 F253 Tryz.ntmps253 rfl fun F hF=>by
 have hres:=wrapT.eq_1 a c v f
 generalize wrapT a c v f = res at *
 have q0:=Kx f
 have hd:=hf.dst
 have hs:=hf.src
 have hb:=hf.body
 have hpl:=Ia f
 conv=>whnf
 refine By 7 4 (Bu f) E E E ?_
 by_cases ht:f.typ = 33024
 ·rw [if_pos ht] at hres
  subst hres
  rw [decide_eq_true ht] at q0
  refine rg ?_;conv=>whnf
  refine Ag q0 F166 E E E E E ?_
  (refine rg ?_;(conv=>whnf);refine aT ?_;refine rg ?_;conv=>whnf)
  refine Ao 8 1 Ak E ?_
  exact Ac E (.cons .tmp (.cons .tmp .nil)) E E
 rw [if_neg ht] at hres
 rw [decide_eq_false ht] at q0
 refine rg ?_;conv=>whnf
 refine Ag q0 F166 E E E E E ?_
 (refine rg ?_;(conv=>whnf);refine aF ?_;refine rg ?_;conv=>whnf)
 refine Ah (Ai [(0,55)] E F33 (K9 f hf) E Y E ⟨.inr E,Y⟩) E E ?_
 refine Ar 55 E ?_
 (refine rg ?_;(conv=>whnf);refine aF ?_;refine rg ?_;conv=>whnf)
 cases hv:O0 v
 rotate_left
 ·rw [if_pos hv] at hres
  subst hres
  refine Ag (Adm v hv) F309 E E E E E ?_
  (refine rg ?_;(conv=>whnf);refine aT ?_;refine rg ?_;conv=>whnf)
  refine Ao 8 1 Ak E ?_
  exact Ac E (.cons .tmp (.cons .tmp .nil)) E E
 rw [if_neg (by rw [hv]; decide)] at hres
 have hvg:=Af0 hv
 obtain ⟨k,rfl⟩:=Int.eq_ofNat_of_zero_le (show 0 ≤ v by omega)
 rw [Int.toNat_natCast] at hres
 refine Ah (Ai [(0,56)] E F309 (Ahy k (by omega)) E Y E ⟨.inr E,Y⟩) E E ?_
 (refine rg ?_;(conv=>whnf);refine aF ?_;refine rg ?_;conv=>whnf)
 refine ⟨fun h=>?_,fun h=>?_⟩
 ·rw [if_pos (by have:=of_decide_eq_true h; omega)] at hres
  subst hres
  refine rg ?_;conv=>whnf
  refine Ao 8 1 Ak E ?_
  exact Ac E (.cons .tmp (.cons .tmp .nil)) E E
 have hl:f.body.length ≤ 1450:=by have:=of_decide_eq_false h; omega
 rw [if_neg (by omega)] at hres
 subst hres
 clear h
 have qp:=Af6 f.dst f.src (by omega) (by omega)
 have hpo:=Aa3 f.dst f.src
 have qu:=Ai9 (udpPort f.dst f.src) 4789 (Jw k ++ Va f) hpo (by decide) (by rw [List.length_append,Hm,hpl]; omega)
 have hwb:(Lj a c k f).body = Af5 (udpPort f.dst f.src) 4789 (Jw k ++ Va f):=rfl
 have qi:=Adk (Lj a c k f) (Afz a c k f ha hc) (by rw [Hd]; omega)
 rw [Zy a c k f hl] at qi
 have qe:=K9 _ (Ag7 a c k f ha hc hl)
 refine rg ?_;conv=>whnf
 refine Ag qp F311 E E E E E ?_
 refine rg ?_;conv=>whnf
 refine Ah (Al Γ.toTy 46 E E E E E (.row E) .sl (by decide) (by rw [Hm,hpl]; simp; omega) (by rw [Hm,hpl]; omega)) E E ?_
 refine Ar 46 E ?_
 refine rg ?_;conv=>whnf
 refine Ag qu F310 E E E E E ?_
 refine rg ?_;conv=>whnf
 refine Ag qi F248 E E E E E ?_
 refine rg ?_;conv=>whnf
 refine Ag (Z0 c hc) F244 E E E E E ?_
 refine rg ?_;conv=>whnf
 refine Ag (Z0 a ha) F244 E E E E E ?_
 refine rg ?_;conv=>whnf
 refine Ah (Ai [(0,57)] E F33 qe E Y E ⟨.inr E,Y⟩) E E ?_
 refine Ar 57 E ?_
 refine rg ?_;conv=>whnf
 exact Ac E (.cons .tmp (.cons .tmp .nil)) E E
def Cg (p:PacketM) (v e:Int):List SV:=[Aa p.tos,Aa p.id,Aa p.ttl,Aa p.proto,Cb p.src,Cb p.dst,.sl 1 Ak p.body,Aa v,Aa e]
def B5 (is:Bool) (re e:Int):Int:=if is = true ∧ re = 0 then e else re
theorem On (p:PacketM) (v re:Int) (is:Bool) (e:Int):Sy.Spec Tryz.prog 338 [.ptr 0 0,Ad is,Aa e] [(0,.box (Cg p v re))] (.tup []) [(0,.box (Cg p v (B5 is re e)))]:=Ab Γ hm 100 F338 Tryz.ntmps338 rfl fun F hF=>by
 cases is
 ·have h:B5 false re e = re:=by simp [B5]
  rw [h]
  ((conv=>whnf);refine aF ?_;refine rg ?_;(conv=>whnf);refine aF ?_;refine rg ?_;conv=>whnf)
  exact Bc E .nil [] [(0,.box (Cg p v re))] (fun _ h=>h) E E ⟨Y,⟨.inl E,E,Y⟩,E,E⟩
 ·((conv=>whnf);refine aT ?_;refine rg ?_;conv=>whnf)
  refine ⟨fun h=>?_,fun h=>?_⟩
  ·have h2:B5 true re e = e:=by show (if true = true ∧ re = 0 then e else re) = e; rw [if_pos ⟨rfl,by simpa using h⟩]
   rw [h2]
   refine rg ?_;conv=>whnf
   exact Bc E .nil [] [(0,.box (Cg p v e))] (fun _ h=>h) E E ⟨Y,⟨.inl E,E,Y⟩,E,E⟩
  ·have h2:B5 true re e = re:=by
    show (if true = true ∧ re = 0 then e else re) = re
    rw [if_neg (fun h3=>by
     have h4:¬ re = 0:=by simpa using h
     exact h4 h3.2)]
   rw [h2]
   refine rg ?_;conv=>whnf
   exact Bc E .nil [] [(0,.box (Cg p v re))] (fun _ h=>h) E E ⟨Y,⟨.inl E,E,Y⟩,E,E⟩
theorem Ajj (b:List UInt8) (hb:b.length < 100000):Sy.Spec Tryz.prog 316 [.ptr 0 0,.sl 1 Ak b] [(0,.box (Cg noP 0 0))] (.tup []) [(0,.box (Cg (outerT b).1 0 (outerT b).2))]:=Ab Γ hm 100 F316 Tryz.ntmps316 rfl fun F hF=>by
 have hres:=outerT.eq_1 b
 generalize outerT b = res at *
 have q1:=Mh b hb
 have hbad:=@takeF_bad b
 have hok:=@Yo b
 generalize takeF b = tk at *
 obtain ⟨f,e⟩:=tk
 dsimp only at hres q1 hbad hok
 conv=>whnf
 refine Ag q1 F165 E E E E E ?_
 refine rg ?_;conv=>whnf
 refine Ah (Ai [(0,0)] E F338 (On noP 0 0 true e) E ⟨E,Y⟩ E ⟨.inl E,Y⟩) E E ?_
 rw [show B5 true 0 e = e by simp [B5]]
 refine rg ?_;conv=>whnf
 refine Ah (Ai [(0,0)] E F338 (On noP 0 e ((f.typ:Int) != 2048) 11) E ⟨E,Y⟩ E ⟨.inl E,Y⟩) E E ?_
 by_cases he:e = 0
 rotate_left
 ·rw [if_pos he] at hres
  subst hres
  rw [show B5 ((f.typ:Int) != 2048) e 11 = e by simp [B5,he]]
  refine rg ?_;conv=>whnf
  refine ⟨fun h=>absurd (show e = 0 by simpa using h) he,fun _=>?_⟩
  refine rg ?_;conv=>whnf
  exact Bc E .nil [] [(0,.box (Cg noP 0 e))] (fun _ h=>h) E E ⟨Y,⟨.inl E,E,Y⟩,E,E⟩
 subst he
 rw [if_neg (by simp)] at hres
 by_cases ht:f.typ = 2048
 rotate_left
 ·rw [if_pos ht] at hres
  subst hres
  have hb2:((f.typ:Int) != 2048) = true:=by simp; omega
  rw [hb2,show B5 true 0 11 = 11 by simp [B5]]
  (refine rg ?_;(conv=>whnf);refine aF ?_;refine rg ?_;conv=>whnf)
  exact Bc E .nil [] [(0,.box (Cg noP 0 11))] (fun _ h=>h) E E ⟨Y,⟨.inl E,E,Y⟩,E,E⟩
 rw [if_neg (fun h=>h ht)] at hres
 have hb2:((f.typ:Int) != 2048) = false:=by simp; omega
 rw [hb2,show B5 false 0 11 = 0 by simp [B5]]
 have hfb:=(hok rfl).body
 have q2:=Adj f.body (by omega)
 have hib:=@Akn f.body
 generalize ipTakeT f.body = ip at *
 obtain ⟨p,e2⟩:=ip
 dsimp only at hres q2 hib
 (refine rg ?_;(conv=>whnf);refine aT ?_;refine rg ?_;conv=>whnf)
 refine Ag q2 F245 E E E E E ?_
 refine rg ?_;conv=>whnf
 refine Ah (Ai [(0,0)] E F338 (On p 0 0 true e2) E ⟨E,Y⟩ E ⟨.inl E,Y⟩) E E ?_
 rw [show B5 true 0 e2 = e2 by simp [B5]]
 refine rg ?_;conv=>whnf
 refine Ah (Ai [(0,0)] E F338 (On p 0 e2 ((p.proto:Int) != 17) 11) E ⟨E,Y⟩ E ⟨.inl E,Y⟩) E E ?_
 have hfin:res = (p,B5 ((p.proto:Int) != 17) e2 11):=by
  by_cases h2:e2 = 0
  ·subst h2
   rw [if_neg (by simp)] at hres
   rw [hres]
   simp only [B5]
   by_cases h3:p.proto = 17
   ·rw [if_neg (by simp [h3]),if_neg (by simp [h3])]
   ·rw [if_pos h3,if_pos (by simp; omega)]
  ·rw [if_pos h2] at hres
   rw [hres,hib h2,show B5 ((noP.proto:Int) != 17) e2 11 = e2 by simp [B5,h2]]
 rw [hfin]
 refine rg ?_;conv=>whnf
 exact Bc E .nil [] [(0,.box (Cg p 0 (B5 ((p.proto:Int) != 17) e2 11)))] (fun _ h=>h) E E ⟨Y,⟨.inl E,E,Y⟩,E,E⟩
def frameT (p:PacketM) (e:Int):FrameM × Int × Int :=
 if e ≠ 0 then (noF,0,e) else if (udpTakeT p.body).2.2.2 ≠ 0 then (noF,0,(udpTakeT p.body).2.2.2) else if (udpTakeT p.body).2.1 ≠ 4789 then (noF,0,11)
 else if (vniT (udpTakeT p.body).2.2.1).2.2 ≠ 0 then (noF,(vniT (udpTakeT p.body).2.2.1).1,(vniT (udpTakeT p.body).2.2.1).2.2)
 else ((takeF (vniT (udpTakeT p.body).2.2.1).2.1).1,(vniT (udpTakeT p.body).2.2.1).1,
  if (takeF (vniT (udpTakeT p.body).2.2.1).2.1).2 ≠ 0 then (takeF (vniT (udpTakeT p.body).2.2.1).2.1).2 else if (takeF (vniT (udpTakeT p.body).2.2.1).2.1).1.typ = 33024 then 15 else 0)
theorem frameS (p:PacketM) (e:Int) (hb:p.body.length < 100000):Sy.Spec Tryz.prog 317 [.ptr 0 0] [(0,.box (Cg p 0 e))] (Bu (frameT p e).1) [(0,.box (Cg p (frameT p e).2.1 (frameT p e).2.2))]:=Ab Γ hm 100 F317 Tryz.ntmps317 rfl fun F hF=>by
 have hres:=frameT.eq_1 p e
 generalize frameT p e = res at *
 have q1:=Af4 p.body hb
 have hul:=@Ai2 p.body
 generalize udpTakeT p.body = u at *
 obtain ⟨u1,u2,u3,u4⟩:=u
 dsimp only at hres q1 hul
 have q2:=vniS u3 (by omega)
 have hvl:=@vniT_body u3
 generalize vniT u3 = w at *
 obtain ⟨w1,w2,w3⟩:=w
 dsimp only at hres q2 hvl
 have q3:=Mh w2 (by omega)
 have hbad:=@takeF_bad w2
 generalize takeF w2 = t at *
 obtain ⟨f,t2⟩:=t
 dsimp only at hres q3 hbad
 conv=>whnf
 refine ⟨fun h=>?_,fun h=>?_⟩
 ·rw [if_pos (by simpa using h)] at hres
  subst hres
  refine rg ?_;conv=>whnf
  refine A1 2 zF E (.cons (.refl _) (.cons (.refl _) (.cons (.refl _) (.cons .nil .nil)))) ?_
  exact done E (.cons (.cell E E E E) .nil) [] [(0,.box (Cg p 0 e))] (fun _ h=>h) E E ⟨Y,⟨.inl E,E,Y⟩,E,E⟩
 have he:e = 0:=by simpa using h
 clear h
 subst he
 rw [if_neg (by simp)] at hres
 refine rg ?_;conv=>whnf
 refine Ag q1 F339 E E E E E ?_
 refine rg ?_;conv=>whnf
 refine Ah (Ai [(0,0)] E F338 (On p 0 0 true u4) E ⟨E,Y⟩ E ⟨.inl E,Y⟩) E E ?_
 rw [show B5 true 0 u4 = u4 by simp [B5]]
 refine rg ?_;conv=>whnf
 refine Ah (Ai [(0,0)] E F338 (On p 0 u4 (u2 != 4789) 11) E ⟨E,Y⟩ E ⟨.inl E,Y⟩) E E ?_
 by_cases h4:u4 = 0
 rotate_left
 ·rw [if_pos h4] at hres
  subst hres
  rw [show B5 (u2 != 4789) u4 11 = u4 by simp [B5,h4]]
  refine rg ?_;conv=>whnf
  refine ⟨fun h=>absurd (show u4 = 0 by simpa using h) h4,fun _=>?_⟩
  refine rg ?_;conv=>whnf
  refine ⟨fun _=>?_,fun h=>absurd (show u4 = 0 by simpa using h) h4⟩
  refine rg ?_;conv=>whnf
  refine A1 2 zF E (.cons (.refl _) (.cons (.refl _) (.cons (.refl _) (.cons .nil .nil)))) ?_
  exact done E (.cons (.cell E E E E) .nil) [] [(0,.box (Cg p 0 u4))] (fun _ h=>h) E E ⟨Y,⟨.inl E,E,Y⟩,E,E⟩
 subst h4
 rw [if_neg (by simp)] at hres
 by_cases h2:u2 = 4789
 rotate_left
 ·rw [if_pos h2] at hres
  subst hres
  rw [show B5 (u2 != 4789) 0 11 = 11 by simp [B5,h2]]
  (refine rg ?_;(conv=>whnf);refine aF ?_;refine rg ?_;(conv=>whnf);refine aT ?_;refine rg ?_;conv=>whnf)
  refine A1 2 zF E (.cons (.refl _) (.cons (.refl _) (.cons (.refl _) (.cons .nil .nil)))) ?_
  exact done E (.cons (.cell E E E E) .nil) [] [(0,.box (Cg p 0 11))] (fun _ h=>h) E E ⟨Y,⟨.inl E,E,Y⟩,E,E⟩
 rw [if_neg (fun h=>h h2)] at hres
 rw [show B5 (u2 != 4789) 0 11 = 0 by simp [B5,h2]]
 (refine rg ?_;(conv=>whnf);refine aT ?_;refine rg ?_;conv=>whnf)
 refine Ag q2 F340 E E E E E ?_
 refine rg ?_;conv=>whnf
 refine Ah (Ai [(0,0)] E F338 (On p w1 0 true w3) E ⟨E,Y⟩ E ⟨.inl E,Y⟩) E E ?_
 rw [show B5 true 0 w3 = w3 by simp [B5]]
 refine rg ?_;conv=>whnf
 refine ⟨fun h=>?_,fun h=>?_⟩
 ·rw [if_pos (by simpa using h)] at hres
  subst hres
  refine rg ?_;conv=>whnf
  refine A1 2 zF E (.cons (.refl _) (.cons (.refl _) (.cons (.refl _) (.cons .nil .nil)))) ?_
  exact done E (.cons (.cell E E E E) .nil) [] [(0,.box (Cg p w1 w3))] (fun _ h=>h) E E ⟨Y,⟨.inl E,E,Y⟩,E,E⟩
 have h3:w3 = 0:=by simpa using h
 clear h
 subst h3
 rw [if_neg (by simp)] at hres
 refine rg ?_;conv=>whnf
 refine Ag q3 F165 E E E E E ?_
 refine rg ?_;conv=>whnf
 refine Ah (Ai [(0,0)] E F338 (On p w1 0 true t2) E ⟨E,Y⟩ E ⟨.inl E,Y⟩) E E ?_
 rw [show B5 true 0 t2 = t2 by simp [B5]]
 refine rg ?_;conv=>whnf
 refine Ag (Kx f) F166 E E E E E ?_
 refine rg ?_;conv=>whnf
 refine Ah (Ai [(0,0)] E F338 (On p w1 t2 (decide (f.typ = 33024)) 15) E ⟨E,Y⟩ E ⟨.inl E,Y⟩) E E ?_
 have hfin:B5 (decide (f.typ = 33024)) t2 15 = if t2 ≠ 0 then t2 else if f.typ = 33024 then 15 else 0:=by
  by_cases k1:t2 = 0
  ·subst k1
   rw [if_neg (by simp)]
   by_cases k2:f.typ = 33024 <;> simp [B5,k2]
  ·rw [if_pos k1]
   simp [B5,k1]
 rw [← hfin] at hres
 subst hres
 refine rg ?_;conv=>whnf
 exact done E (.cons (.cell E E E E) .nil) [] [(0,.box (Cg p w1 (B5 (decide (f.typ = 33024)) t2 15)))] (fun _ h=>h) E E ⟨Y,⟨.inl E,E,Y⟩,E,E⟩
theorem Wt (b:List UInt8):Bm b = if (frameT (outerT b).1 (outerT b).2).2.2 ≠ 0 then (0,0,0,noF,(frameT (outerT b).1 (outerT b).2).2.2)
  else ((outerT b).1.src,(outerT b).1.dst,(frameT (outerT b).1 (outerT b).2).2.1,(frameT (outerT b).1 (outerT b).2).1,0):=by
 unfold Bm
 generalize outerT b = o
 obtain ⟨p,e⟩:=o
 dsimp only
 by_cases he:e = 0
 rotate_left
 ·rw [if_pos he]
  have h1:frameT p e = (noF,0,e):=by rw [frameT,if_pos he]
  rw [h1,if_pos he]
 subst he
 rw [if_neg (by simp)]
 unfold Ip frameT
 rw [if_neg (show ¬ (0:Int) ≠ 0 by simp)]
 generalize udpTakeT p.body = u
 obtain ⟨u1,u2,u3,u4⟩:=u
 dsimp only
 by_cases h4:u4 = 0
 rotate_left
 ·rw [if_pos h4,if_pos h4,if_pos h4]
  dsimp only
  rw [if_pos h4]
 subst h4
 simp only [ne_eq,not_true_eq_false,if_false]
 by_cases h2:u2 = 4789
 rotate_left
 ·simp [h2]
 simp only [h2,not_true_eq_false,if_false]
 generalize vniT u3 = w
 obtain ⟨w1,w2,w3⟩:=w
 dsimp only
 by_cases h3:w3 = 0
 rotate_left
 ·simp [h3]
 simp only [h3,not_true_eq_false,if_false]
 generalize takeF w2 = t
 obtain ⟨f,t2⟩:=t
 dsimp only
 by_cases k1:t2 = 0
 ·by_cases k2:f.typ = 33024 <;> simp [k1,k2]
 ·simp [k1]
theorem Ad2 (b:List UInt8) (hb:b.length < 100000) :
  Sy.Spec Tryz.prog 259 [.sl 1 Ak b] [] (.tup [Cb (Bm b).1,Cb (Bm b).2.1,Aa (Bm b).2.2.1,Bu (Bm b).2.2.2.1,Aa (Bm b).2.2.2.2]) []:=Ab Γ hm 100 F259 Tryz.ntmps259 rfl fun F hF=>by
 have hres:=Wt b
 generalize Bm b = res at *
 have q1:=Ajj b hb
 have hol:=(Qf b).2
 generalize outerT b = o at *
 obtain ⟨p,e⟩:=o
 dsimp only at hres q1 hol
 have q2:=frameS p e (by omega)
 generalize frameT p e = fr at *
 obtain ⟨f,v,e2⟩:=fr
 dsimp only at hres q2
 conv=>whnf
 refine A1 9 (Cg noP 0 0) E (.cons (.refl _) (.cons (.refl _) (.cons (.refl _) (.cons (.refl _) (.cons (.refl _) (.cons (.refl _) (.cons .nil (.cons (.refl _) (.cons (.refl _) .nil))))))))) ?_
 refine rg ?_;conv=>whnf
 refine Ah (Ai [(0,9)] E F316 q1 E ⟨E,Y⟩ E ⟨.inl E,Y⟩) E E ?_
 refine rg ?_;conv=>whnf
 refine Ah (Ai [(0,9)] E F317 q2 E ⟨E,Y⟩ E ⟨.inl E,Y⟩) E E ?_
 refine rg ?_;conv=>whnf
 refine ⟨fun h=>?_,fun h=>?_⟩
 ·rw [if_pos (by simpa using h)] at hres
  subst hres
  refine rg ?_;conv=>whnf
  refine ⟨(by kernel_rfl),?_⟩
  conv=>whnf
  refine A1 5 zF E (.cons (.refl _) (.cons (.refl _) (.cons (.refl _) (.cons .nil .nil)))) ?_
  exact Ac E (.cons .tmp (.cons .tmp (.cons .tmp (.cons (.cell E E E E) (.cons .tmp .nil))))) E E
 rw [if_neg (by simpa using h)] at hres
 subst hres
 refine rg ?_;conv=>whnf
 refine ⟨(by kernel_rfl),?_⟩
 conv=>whnf
 exact Ac E (.cons .tmp (.cons .tmp (.cons .tmp (.cons (.cell E E E E) (.cons .tmp .nil))))) E E
theorem Oe (l:List Device) (p:Device → Bool) (f:FuncId) (first cap:List SV) (hc:(SV.clo (.func f) first cap).inn [] = true) (hf:∀ x ∈ l,Ha Tryz.prog f (first ++ [Bj x] ++ cap) (Ad (p x))) (hl:Am l) :
  Sy.Spec Tryz.prog 318 [.sl 5 Bj l,.clo (.func f) first cap] [] (Aa (Dg p l)) []:=Ab Γ hm 100 F318 Tryz.ntmps318 rfl fun F hF=>by
 unfold Am at hl
 have hin:∀ x:Device,Bw [] (first ++ [Bj x] ++ cap) = true:=fun x=>Ch hc rfl
 conv=>whnf
 refine Bq l.length (fun j=>H6 (fun _ x=>!(p x)) l j) (fun j=>[(0,.sl 5 Bj l),(1,.clo (.func f) first cap),(7,Aa l.length),(8,Aa j)]) (fun _=>[]) [] (Bs _ _) ⟨⟨E,E,A2 _,hc,E,E,E,E,Y⟩,Y,E,E⟩ ?_
 intro j hj hI
 refine rg ?_;conv=>whnf
 refine ⟨fun h=>?_,fun h=>?_⟩
 ·have h:=of_decide_eq_true h
  have hj2:j < l.length:=by omega
  refine rg ?_;conv=>whnf
  refine ⟨E,by omega,by omega,?_⟩
  conv=>whnf
  refine Do (hf l[j] (List.getElem_mem hj2)) E E E (by simp only [hin]; rfl) E E ?_
  refine rg ?_;conv=>whnf
  refine ⟨fun h2=>?_,fun h2=>?_⟩
  ·refine rg ?_;conv=>whnf
   refine Ac E (.cons .tmp .nil) (congrArg Aa ?_) E
   exact D7 hj2 (fun i hi hij=>by simpa using hI i hi hij) h2
  ·refine rg ?_;conv=>whnf
   refine ⟨by unfold I64; omega,?_⟩
   conv=>whnf
   exact Bk [] hI hj2 (Br hI hj2 (by simp [h2])) ⟨⟨E,E,A2 _,hc,E,E,E,E,Y⟩,Y,E,E⟩
 ·have h:=of_decide_eq_false h
  refine rg ?_;conv=>whnf
  refine Ac E (.cons .tmp .nil) (congrArg Aa ?_) E
  exact Es (fun i hi=>by simpa using hI i hi (by omega))
theorem Xy {n:Net} (hb:Af n = true) {d:Int} (hd:DomIn n d):0 ≤ (n.domains[d.toNat]'hd.2).dev ∧ (n.domains[d.toNat]'hd.2).dev.toNat < n.devices.length:=by
 simp only [Af,Bool.and_eq_true] at hb
 have:=Aas hb.1.1.1.1.1.1.1.2 hd.2
 have:=Bl this
 omega
theorem Yc {n:Net} (hb:Af n = true) {d:Int} (hd:DomIn n d):Hb n d = (n.devices[(n.domains[d.toNat]'hd.2).dev.toNat]'(Xy hb hd).2).vtep:=by
 rw [Hb,An hd.2,An (Xy hb hd).2]
theorem Yb {n:Net} (hm:n.Num) (hb:Af n = true) {d:Int} (hd:DomIn n d):0 ≤ Hb n d ∧ Hb n d < 4294967296:=by
 rw [Yc hb hd]
 exact hm.vtep _ (List.getElem_mem _)
theorem Mb (n:Net) (hb:Af n = true) (d:Int) (hd:DomIn n d):Sy.Spec Tryz.prog 254 [At n,Aa d] [] (Cb (Hb n d)) []:=Ab Γ hm 100 F254 Tryz.ntmps254 rfl fun F hF=>by
 have hv:=Yc hb hd
 have h2:=Xy hb hd
 obtain ⟨x,hx⟩:∃ x,n.domains[d.toNat]'hd.2 = x:=⟨_,rfl⟩
 rw [hx] at h2
 simp only [hx] at hv
 obtain ⟨y,hy⟩:∃ y,n.devices[x.dev.toNat]'h2.2 = y:=⟨_,rfl⟩
 rw [hy] at hv
 rw [hv]
 conv=>whnf
 refine ⟨E,hd.1,hd.2,?_⟩
 rw [hx]
 conv=>whnf
 refine ⟨E,h2.1,h2.2,?_⟩
 rw [hy]
 conv=>whnf
 refine ⟨(by kernel_rfl),?_⟩
 conv=>whnf
 exact Ac E (.cons .tmp .nil) E E
theorem Abw (n:Net) (hn:n.Fin) (hm0:n.Num) (dom peer:Int) (f:FrameM) (h:FrameOK f) :
  Sy.Spec Tryz.prog 178 [At n,Aa dom,Aa peer,Bu f] [] (.tup [.sl 1 Ak (meshT n dom peer f).1,Aa (meshT n dom peer f).2]) []:=Ab Γ hm 100 F178 Tryz.ntmps178 rfl fun F hF=>by
 have hres:=meshT.eq_1 n dom peer f
 generalize meshT n dom peer f = res at *
 have hr:=Bf n hn
 have hpS:=Ic peer n.domains.length
 have hdS:=Ic dom n.domains.length
 conv=>whnf
 refine By 4 8 (At n) E E E ?_
 refine By 7 4 (Bu f) E E E ?_
 refine rg ?_;conv=>whnf
 refine Ag hpS F250 E E E E E ?_
 cases hpl:Aj peer n.domains.length
 ·rw [if_pos (.inl hpl)] at hres
  subst hres
  (refine rg ?_;(conv=>whnf);refine aT ?_;refine rg ?_;(conv=>whnf);refine aT ?_;refine rg ?_;(conv=>whnf);refine aT ?_;refine rg ?_;conv=>whnf)
  refine Ao 8 1 Ak E ?_
  exact Ac E (.cons .tmp (.cons .tmp .nil)) E E
 (refine rg ?_;(conv=>whnf);refine aF ?_;refine rg ?_;conv=>whnf)
 refine Ag hdS F250 E E E E E ?_
 cases hdl:Aj dom n.domains.length
 ·rw [if_pos (.inr (.inl hdl))] at hres
  subst hres
  (refine rg ?_;(conv=>whnf);refine aT ?_;refine rg ?_;(conv=>whnf);refine aT ?_;refine rg ?_;conv=>whnf)
  refine Ao 8 1 Ak E ?_
  exact Ac E (.cons .tmp (.cons .tmp .nil)) E E
 (refine rg ?_;(conv=>whnf);refine aF ?_;refine rg ?_;conv=>whnf)
 refine Ag hr F67 E E E E E ?_
 cases hbn:Af n
 ·rw [if_pos (.inr (.inr hbn))] at hres
  subst hres
  (refine rg ?_;(conv=>whnf);refine aT ?_;refine rg ?_;conv=>whnf)
  refine Ao 8 1 Ak E ?_
  exact Ac E (.cons .tmp (.cons .tmp .nil)) E E
 rw [if_neg (by simp [hbn,hpl,hdl])] at hres
 have hd:=Hv hdl
 have hp:=Hv hpl
 have hd0:=hd.1
 have hkd:=hd.2
 have e2:nth n.domains dom = n.domains[dom.toNat]:=An hkd
 have hpe:=hn.peers _ (List.getElem_mem hkd)
 have va:=Yb hm0 hbn hd
 have vb:=Yb hm0 hbn hp
 have qa:=Mb n hbn dom hd
 have qb:=Mb n hbn peer hp
 generalize Hb n dom = a at *
 generalize Hb n peer = c at *
 obtain ⟨a,rfl⟩:=Int.eq_ofNat_of_zero_le va.1
 obtain ⟨c,rfl⟩:=Int.eq_ofNat_of_zero_le vb.1
 rw [Int.toNat_natCast,Int.toNat_natCast] at hres
 obtain ⟨d,hdd⟩:∃ d,n.domains[dom.toNat]'hkd = d:=⟨_,rfl⟩
 rw [hdd] at e2 hpe
 rw [e2] at hres
 have qc:=C0 d.peers peer hpe
 have qw:=Ai4 a c d.vni f (by omega) (by omega) h
 (refine rg ?_;(conv=>whnf);refine aF ?_;refine rg ?_;conv=>whnf)
 refine ⟨E,hd0,hkd,?_⟩
 rw [hdd]
 conv=>whnf
 refine Ag qc F86 E E E E E ?_
 cases hi:inB d.peers peer
 ·rw [if_pos hi] at hres
  subst hres
  (refine rg ?_;(conv=>whnf);refine aT ?_;refine rg ?_;conv=>whnf)
  refine Ao 8 1 Ak E ?_
  exact Ac E (.cons .tmp (.cons .tmp .nil)) E E
 rw [if_neg (by rw [hi]; decide)] at hres
 subst hres
 (refine rg ?_;(conv=>whnf);refine aF ?_;refine rg ?_;conv=>whnf)
 refine Ay qa F254 E E E (by kernel_rfl) E ?_
 refine rd (by kernel_rfl) ?_;conv=>whnf
 refine Ay qb F254 E E E (by kernel_rfl) E ?_
 refine rd (by kernel_rfl) ?_;conv=>whnf
 refine ⟨E,hd0,hkd,?_⟩
 rw [hdd]
 conv=>whnf
 refine Ay qw F253 E E E (by kernel_rfl) E ?_
 refine rd (by kernel_rfl) ?_;conv=>whnf
 refine ⟨(by kernel_rfl),?_⟩
 conv=>whnf
 exact Ac E (.cons .tmp (.cons .tmp .nil)) E E
end Go.Sy.YtmelpejjondedaaGreat
