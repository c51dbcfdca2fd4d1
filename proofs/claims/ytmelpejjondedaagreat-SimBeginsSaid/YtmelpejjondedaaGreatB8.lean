/-
  Contracts: tree.Roles, tree.Forward, tree.Costs. The machine's model, 3: the machine itself, step by step. Plain facts of the machine: errors' numbers, domains that are there. What the machine keeps: its lists' lengths, its numbers' bounds. The symbolic layer, 34: a row whose block and room are known (parts of it are moved within it, or cleared). The symbolic layer, 35: a data slice whose room is known, and what is appended to a piece of it that has no room. The symbolic layer, 36: literals seen otherwise. The symbolic layer, 37: atomic numbers in a box; copies within a row whose room is known. The symbolic layer, 38: a copy within a row of one cell each whose block and room are known. Contracts: slices.Repeat of one truth. The machine in memory; frames that are dropped. (Printed by mkZ4.py out of Z4.tail.) Contracts: packets taken (ipv4, palingref07). Contracts: packets taken: ipv4.Take, palingref07.Take. Contracts: packets put: ipv4.Put, palingref07.Put; one hop on. Contracts: datagrams (udp, palingref08). Printed by mkK30.py. Contracts: a sender's port (udp, palingref08), heads of frames within packets (vxlan, palingref09).
-/
import Derived.Test.YtmelpejjondedaaGreatB7
import Derived.Test.YtmelpejjondedaaGreatB6
import Derived.Test.YtmelpejjondedaaGreatB5
import Derived.Laws.LoneSync

namespace Go.Sy.YtmelpejjondedaaGreat
open Go.Proofs
attribute [local irreducible] Go.Sy.G Go.Sy.DR
set_option maxRecDepth 100000
set_option maxHeartbeats 4000000
theorem tree_solved {n : Net} {up : List Bool} (h : okB n up = true) : Solved n up (ranksL n) (rootsT n up) (costsT n up) := by
  obtain ⟨hu, hr, hcost⟩ := ok_iff.1 h
  exact reachT_solved n up (ranksL n) hr hcost (ranksL_length n) (fun r h => (ranks_range n r h).1)
def rolesT (n : Net) (up : List Bool) : List Int := rolesL n up (ranksL n) (rootsT n up) (costsT n up)
def fwdT (n : Net) (up : List Bool) : List Bool := fwdL n (rolesT n up)
theorem rolesT_length (n : Net) (up : List Bool) : (rolesT n up).length = n.ports.length := rolesB_length ..
theorem openRolesS (n : Net) (up : List Bool) (h : okB n up = true) : Sy.Spec Tryz.prog 85 [openSV n up] [] (.sl 1 intSV (rolesT n up)) [] := by
  obtain ⟨hu, hr, hcost⟩ := ok_iff.1 h
  have S := tree_solved h
  exact rolesS n up (ranksL n) (rootsT n up) (costsT n up) hr hu hcost (ranksL_length n) S.rootsL S.costsL (fun c hc => by have := S.bound c hc; omega)
theorem forwardBad (n : Net) (up : List Bool) (hn : n.Fin) (h : okB n up = false) : Sy.Spec Tryz.prog 44 [netSV n, .sl 1 boolSV up] [] (.tup [.sl 1 boolSV [], intSV 2]) [] := contract Γ hm 100 F44 Tryz.ntmps44 rfl fun F hF => by
  (conv=>whnf)
  refine call0 (openBad n up hn h) F84 rfl rfl rfl rfl rfl ?_
  (refine rg ?_;(conv=>whnf);refine aT ?_;refine rg ?_;(conv=>whnf))
  refine G_nilsl 4 1 boolSV rfl ?_
  exact done0 rfl (.cons .tmp (.cons .tmp .nil)) rfl rfl
def fwdU (n : Net) (roles : List Int) (j : Nat) : List Bool := (n.links.take j).map (fwdB roles) ++ List.replicate (n.links.length - j) false
theorem fwdU_zero (n : Net) (roles : List Int) : fwdU n roles 0 = List.replicate n.links.length false := by simp [fwdU]
theorem fwdU_all (n : Net) (roles : List Int) : fwdU n roles n.links.length = fwdL n roles := by simp [fwdU, fwdL]
theorem fwdU_length (n : Net) (roles : List Int) (j : Nat) (h : j ≤ n.links.length) : (fwdU n roles j).length = n.links.length := by simp [fwdU]; omega
theorem fwdU_succ (n : Net) (roles : List Int) (j : Nat) (h : j < n.links.length) : fwdU n roles (j + 1) = (fwdU n roles j).set j (fwdB roles n.links[j]) := by
  have e : n.links.length - j = (n.links.length - (j + 1)) + 1 := by omega
  have el : ((n.links.take j).map (fwdB roles)).length = j := by simp; omega
  rw [fwdU, fwdU, List.set_append_right _ _ (by omega), el, Nat.sub_self, List.take_succ_eq_append_getElem h, List.map_append, e, List.replicate_succ, List.set_cons_zero]
  simp
theorem forwardOK (n : Net) (up : List Bool) (hn : n.Fin) (h : okB n up = true) : Sy.Spec Tryz.prog 44 [netSV n, .sl 1 boolSV up] [] (.tup [.sl 1 boolSV (fwdT n up), intSV 0]) [] := contract Γ hm 100 F44 Tryz.ntmps44 rfl fun F hF => by
  obtain ⟨hu, hr, hcost⟩ := ok_iff.1 h
  have hf := right_few hr
  have ho := openOK n up hn hu hr hcost
  have hro := openRolesS n up h
  have hrl := rolesT_length n up
  rw [fwdT]
  generalize rolesT n up = roles at *
  unfold openSV at ho hro
  generalize ranksL n = ranks at *
  generalize rootsT n up = roots at *
  generalize costsT n up = costs at *
  (conv=>whnf)
  refine call0 ho F84 rfl rfl rfl rfl rfl ?_
  (refine rg ?_;(conv=>whnf);refine aF ?_;refine rg ?_;(conv=>whnf))
  refine call0 hro F85 rfl rfl rfl rfl rfl ?_
  (refine rg ?_;(conv=>whnf))
  refine stepOp (good_makeSlice Γ.toTy (d := 27) (n := n.links.length) boolSV false rfl rfl rfl rfl rfl rfl rfl rfl (by omega) (by omega) rfl rfl rfl) rfl rfl ?_
  rw [← fwdU_zero n roles]
  (refine rg ?_;(conv=>whnf))
  refine G_count n.links.length (fun j => [(8, .sl 1 intSV roles), (9, .osl 27), (29, .sl 3 linkSV n.links), (30, intSV n.links.length), (31, intSV j)]) (fun j => [(27, .row 1 boolSV (fwdU n roles j))]) []
    ⟨⟨rfl, rfl, rfl, rfl, rfl, rfl, rfl, rfl, rfl, rfl, trivial⟩, ⟨.inl rfl, rfl, trivial⟩, rfl, rfl⟩ ?_
  intro j hj
  have hall := fwdU_all n roles
  (refine rg ?_;(conv=>whnf))
  refine ⟨fun h => ?_, fun h => ?_⟩
  · have hlt : j < n.links.length := by simpa using h
    have he := link_ends hr hlt
    have e1 : n.links[(j : Int).toNat]'(by omega) = n.links[j] := rfl
    have hlen := fwdU_length n roles j hj
    have hsucc := fwdU_succ n roles j hlt
    generalize fwdU n roles j = u at *
    generalize n.links[j] = l at *
    rw [fwdB, nth_eq (l := roles) (i := l.a) (by omega), nth_eq (l := roles) (i := l.b) (by omega)] at hsucc
    (refine rg ?_;(conv=>whnf))
    refine ⟨rfl, by omega, by omega, ?_⟩
    rw [e1]
    (conv=>whnf)
    refine ⟨rfl, by omega, by omega, ?_⟩
    (conv=>whnf)
    refine ⟨rfl, by omega, by omega, ?_⟩
    (conv=>whnf)
    refine ⟨(by kernel_rfl), ?_⟩
    (conv=>whnf)
    have hA : 0 ≤ l.a ∧ l.a < roles.length := by omega
    have hB : 0 ≤ l.b ∧ l.b < roles.length := by omega
    obtain ⟨x, hx⟩ : ∃ x, roles[l.a.toNat]'(by omega) = x := ⟨_, rfl⟩
    obtain ⟨y, hy⟩ : ∃ y, roles[l.b.toNat]'(by omega) = y := ⟨_, rfl⟩
    rw [hx, hy] at hsucc
    refine G_retype 46 (e := intSV) (l := [x, y]) rfl (by rw [← hx, ← hy]; rfl) ?_
    refine G_data 46 rfl ?_
    refine call0 (containsS [x, y] 1 (by unfold Short; simp)) F86 rfl rfl rfl rfl rfl ?_
    (refine rg ?_;(conv=>whnf))
    refine ⟨fun h1 => ?_, fun h1 => ?_⟩
    · rw [h1, Bool.true_and] at hsucc
      (refine rg ?_;(conv=>whnf))
      refine call0 (containsS [x, y] 2 (by unfold Short; simp)) F86 rfl rfl rfl rfl rfl ?_
      (refine rg ?_;(conv=>whnf))
      refine ⟨by omega, by omega, ?_⟩
      (conv=>whnf)
      refine ⟨rfl, by omega, inB [x, y] 2, rfl, rfl, ?_⟩
      (conv=>whnf)
      refine ⟨by unfold I64; omega, ?_⟩
      (conv=>whnf)
      exact G_next [] hlt ⟨⟨rfl, rfl, rfl, rfl, rfl, rfl, rfl, rfl, rfl, rfl, trivial⟩, ⟨.inl (congrArg (Ob.row 1 boolSV) hsucc), rfl, trivial⟩, rfl, rfl⟩
    · rw [h1, Bool.false_and] at hsucc
      (refine rg ?_;(conv=>whnf))
      refine ⟨by omega, by omega, ?_⟩
      (conv=>whnf)
      refine ⟨rfl, by omega, false, rfl, rfl, ?_⟩
      (conv=>whnf)
      refine ⟨by unfold I64; omega, ?_⟩
      (conv=>whnf)
      exact G_next [] hlt ⟨⟨rfl, rfl, rfl, rfl, rfl, rfl, rfl, rfl, rfl, rfl, trivial⟩, ⟨.inl (congrArg (Ob.row 1 boolSV) hsucc), rfl, trivial⟩, rfl, rfl⟩
  have hjl : j = n.links.length := by
    have : ¬ j < n.links.length := by simpa using h
    omega
  subst hjl
  rw [← hall]
  (refine rg ?_;(conv=>whnf))
  refine G_data 27 rfl ?_
  exact done0 rfl (.cons .tmp (.cons .tmp .nil)) rfl rfl
end Go.Sy.YtmelpejjondedaaGreat

namespace Go.Sy.YtmelpejjondedaaGreat
open Go.Proofs
structure MacM where
  up : List Bool
  tables : List (List EntryM)
  queues : List (List QueuedM)
  now : Int
  injected : Int
  drops : Nat → Int
def dropT (m : MacM) (e : Int) : MacM := ⟨m.up, m.tables, m.queues, m.now, m.injected, fun i => if i = e.toNat then m.drops i + 1 else m.drops i⟩
def queueL (m : MacM) (dom : Int) : List QueuedM := (m.queues[dom.toNat]?).getD []
def tableL (m : MacM) (dom : Int) : List EntryM := (m.tables[dom.toNat]?).getD []
def setQ (m : MacM) (dom : Int) (l : List QueuedM) : MacM := ⟨m.up, m.tables, m.queues.set dom.toNat l, m.now, m.injected, m.drops⟩
def setT (m : MacM) (dom : Int) (t : List EntryM) : MacM := ⟨m.up, m.tables.set dom.toNat t, m.queues, m.now, m.injected, m.drops⟩
def comeM (m : MacM) (dom : Int) (q : QueuedM) (e : Int) : MacM :=
  if e ≠ 0 then dropT m e else if (pushT (queueL m dom) q).2 = true then setQ m dom (pushT (queueL m dom) q).1 else dropT m 3
def takeM (m : MacM) (dom at_ : Int) : MacM × QueuedM × Bool :=
  if placeB dom m.queues.length = false then (m, noQ, false)
  else (setQ m dom (takeT (queueL m dom) at_).2.1, (takeT (queueL m dom) at_).1, (takeT (queueL m dom) at_).2.2)
def injectT (n : Net) (m : MacM) (port : Int) (b : List UInt8) : MacM :=
  if placeB port n.ports.length = false ∨ 0 ≤ (nth n.ports port).link then m
  else comeM ⟨m.up, m.tables, m.queues, m.now, m.injected + 1, m.drops⟩ (enterT n port b).1 ⟨port, 0, m.injected + 1, (enterT n port b).2.1⟩ (enterT n port b).2.2
def goesM (n : Net) (m : MacM) (o : OutM) (origin : Int) : MacM × List SeenM :=
  if o.kind = 1 then (m, [⟨o.port, origin, o.bytes⟩])
  else if o.kind = 2 then (comeM m (linkT n o.port o.bytes).2.1 ⟨(linkT n o.port o.bytes).1, 0, origin, (linkT n o.port o.bytes).2.2.1⟩ (linkT n o.port o.bytes).2.2.2, [])
  else if o.kind = 3 then (comeM m (comeT n o.bytes).2.1 ⟨-1, (comeT n o.bytes).1, origin, (comeT n o.bytes).2.2.1⟩ (comeT n o.bytes).2.2.2, [])
  else if o.kind = 4 then (comeM m o.domain ⟨-2, 0, origin, o.frame⟩ 0, [])
  else (dropT m o.error, [])
def goesL (n : Net) (m : MacM) (origin : Int) : List OutM → MacM × List SeenM
  | [] => (m, [])
  | o :: l => ((goesL n (goesM n m o origin).1 origin l).1, (goesM n m o origin).2 ++ (goesL n (goesM n m o origin).1 origin l).2)
def fwOf (n : Net) (up : List Bool) : List Bool := if okB n up = true then fwdT n up else []
def pickB (n : Net) (m : MacM) (dom : Int) (q : QueuedM) : List EntryM × List OutM × Int := bridgeT n (fwOf n m.up) (tableL m dom) dom q m.now
def pickD (m : MacM) (dom : Int) (r : List EntryM × List OutM × Int) : MacM :=
  if r.2.2 = 2 then dropT m 2 else if r.2.2 ≠ 0 then dropT (setT m dom r.1) r.2.2 else setT m dom r.1
def pickT (n : Net) (m : MacM) (dom at_ : Int) : MacM × List SeenM :=
  if (takeM m dom at_).2.2 = false then ((takeM m dom at_).1, [])
  else goesL n (pickD (takeM m dom at_).1 dom (pickB n (takeM m dom at_).1 dom (takeM m dom at_).2.1)) (takeM m dom at_).2.1.origin (pickB n (takeM m dom at_).1 dom (takeM m dom at_).2.1).2.1
def tickT (m : MacM) : MacM :=
  let now := min (m.now + 1) 1099511627776
  ⟨m.up, m.tables.map (fun t => ageT t now), m.queues, now, m.injected, m.drops⟩
def doT (n : Net) (m : MacM) (x : StepM) : MacM × List SeenM :=
  if x.kind = 1 then (injectT n m x.port x.bytes, [])
  else if x.kind = 2 then pickT n m x.domain x.at_
  else if x.kind = 3 then ((takeM m x.domain x.at_).1, [])
  else if x.kind = 4 then (tickT m, [])
  else if x.kind = 5 then ((if x.up.length = n.links.length then ⟨x.up, m.tables, m.queues, m.now, m.injected, m.drops⟩ else m), [])
  else (m, [])
def newT (n : Net) : MacM := ⟨List.replicate n.links.length true, List.replicate n.domains.length [], List.replicate n.domains.length [], 0, 0, fun _ => 0⟩
def runL (n : Net) : MacM → List StepM → MacM × List SeenM
  | m, [] => (m, [])
  | m, x :: l => ((runL n (doT n m x).1 l).1, (doT n m x).2 ++ (runL n (doT n m x).1 l).2)
end Go.Sy.YtmelpejjondedaaGreat

namespace Go.Sy.YtmelpejjondedaaGreat
open Go.Proofs
def ErrOK (e : Int) : Prop := 0 ≤ e ∧ e < 64
def DomIn (n : Net) (d : Int) : Prop := 0 ≤ d ∧ d.toNat < n.domains.length
theorem placeB_dom {n : Net} {d : Int} (h : placeB d n.domains.length = true) : DomIn n d := by
  have := placeB_in2 h
  unfold DomIn
  omega
theorem takeF_err (b : List UInt8) : ErrOK (takeF b).2 := by
  unfold takeF ErrOK
  repeat' split
  all_goals (dsimp only; omega)
theorem stripT_err (f : FrameM) : ErrOK (stripT f).2.2.2 := by
  unfold stripT ErrOK
  repeat' split
  all_goals (dsimp only; omega)
theorem enterT_err (n : Net) (port : Int) (b : List UInt8) : ErrOK (enterT n port b).2.2 := by
  have h1 := takeF_err b
  have h2 := stripT_err (takeF b).1
  have h3 : ∀ f tg v, ErrOK (enterF n port f tg v).2.2 := fun f tg v => by
    unfold enterF ErrOK
    repeat' split
    all_goals (dsimp only; omega)
  unfold enterT
  split
  · unfold ErrOK; dsimp only; omega
  split
  · exact h1
  split
  · split
    · exact h2
    · exact h3 _ _ _
  · exact h3 _ _ _
theorem linkT_err (n : Net) (port : Int) (b : List UInt8) : ErrOK (linkT n port b).2.2.2 := by
  unfold linkT
  split
  · unfold ErrOK; dsimp only; omega
  · exact enterT_err _ _ _
theorem leaveT_err (n : Net) (port dom : Int) (f : FrameM) : ErrOK (leaveT n port dom f).2 := by
  unfold leaveT
  split
  · unfold ErrOK; dsimp only; omega
  split
  · unfold ErrOK; dsimp only; omega
  split
  · unfold ErrOK; dsimp only; omega
  split
  · unfold ErrOK; dsimp only; omega
  split
  · show ErrOK (tagT f (nth n.domains dom).vlan).2
    unfold tagT ErrOK
    repeat' split
    all_goals (dsimp only; omega)
  · unfold ErrOK; dsimp only; omega
theorem wrapT_err (a b : Nat) (v : Int) (f : FrameM) : ErrOK (wrapT a b v f).2 := by
  unfold wrapT ErrOK
  repeat' split
  all_goals (dsimp only; omega)
theorem meshT_err (n : Net) (dom peer : Int) (f : FrameM) : ErrOK (meshT n dom peer f).2 := by
  unfold meshT
  split
  · unfold ErrOK; dsimp only; omega
  split
  · unfold ErrOK; dsimp only; omega
  · exact wrapT_err _ _ _ _
theorem ipTakeT_err (b : List UInt8) : ErrOK (ipTakeT b).2 := by
  unfold ipTakeT ErrOK
  repeat' split
  all_goals (dsimp only; omega)
theorem udpTakeT_err (b : List UInt8) : ErrOK (udpTakeT b).2.2.2 := by
  unfold udpTakeT ErrOK
  repeat' split
  all_goals (dsimp only; omega)
theorem vniT_err (b : List UInt8) : ErrOK (vniT b).2.2 := by
  unfold vniT ErrOK
  repeat' split
  all_goals (dsimp only; omega)
theorem outerT_err (b : List UInt8) : ErrOK (outerT b).2 := by
  unfold outerT
  split
  · exact takeF_err _
  split
  · unfold ErrOK; dsimp only; omega
  split
  · exact ipTakeT_err _
  · unfold ErrOK; dsimp only; split <;> omega
theorem innerT_err (b : List UInt8) : ErrOK (innerT b).2.2 := by
  unfold innerT
  split
  · exact udpTakeT_err _
  split
  · unfold ErrOK; dsimp only; omega
  split
  · exact vniT_err _
  split
  · exact takeF_err _
  split
  · unfold ErrOK; dsimp only; omega
  · unfold ErrOK; dsimp only; omega
theorem unwrapT_err (b : List UInt8) : ErrOK (unwrapT b).2.2.2.2 := by
  unfold unwrapT
  split
  · exact outerT_err _
  split
  · exact innerT_err _
  · unfold ErrOK; dsimp only; omega
theorem comeT_err (n : Net) (b : List UInt8) : ErrOK (comeT n b).2.2.2 := by
  unfold comeT
  split
  · unfold ErrOK; dsimp only; omega
  split
  · exact unwrapT_err _
  split
  · unfold ErrOK; dsimp only; omega
  split
  · unfold ErrOK; dsimp only; omega
  · unfold ErrOK; dsimp only; omega
theorem hopT_err (n : Net) (irb : Int) (f : FrameM) : ErrOK (hopT n irb f).2.2 := by
  unfold hopT
  split
  · unfold ErrOK; dsimp only; omega
  split
  · unfold ErrOK; dsimp only; omega
  split
  · exact ipTakeT_err _
  split
  · unfold ErrOK; dsimp only; omega
  split
  · unfold ErrOK; dsimp only; omega
  split
  · unfold ErrOK; dsimp only; omega
  · unfold ErrOK; dsimp only; omega
theorem bridgeT_err (n : Net) (fw : List Bool) (t : List EntryM) (dom : Int) (q : QueuedM) (now : Int) : ErrOK (bridgeT n fw t dom q now).2.2 := by
  unfold bridgeT
  split
  · unfold ErrOK; dsimp only; omega
  split
  · split
    · exact hopT_err _ _ _
    · unfold ErrOK; dsimp only; omega
  · unfold ErrOK; dsimp only; omega
theorem domI_in {n : Net} {dev v : Int} (h : netDomain n dev v = true) : DomIn n (domI n dev v) := by
  have h1 : 0 ≤ domI n dev v := by simpa [netDomain] using h
  have h2 : domI n dev v < n.domains.length := idxI_lt _ _
  exact ⟨h1, by omega⟩
theorem vlanT_in {n : Net} (hb : netRightB n = true) {port : Int} (hp : placeB port n.ports.length = true) {tg : Bool} {vid : Int} (h : (vlanT (nth n.ports port) tg vid).2 = true) : DomIn n (domI n (nth n.ports port).dev (vlanT (nth n.ports port) tg vid).1) := by
  have hk := placeB_in2 hp
  have hk2 : port.toNat < n.ports.length := by omega
  simp only [netRightB, Bool.and_eq_true] at hb
  have hpb := allB_iff.1 hb.1.1.1.1.1.2 _ hk2
  rw [nth_eq hk2] at h ⊢
  generalize n.ports[port.toNat] = p at *
  simp only [portB, Bool.and_eq_true] at hpb
  obtain ⟨⟨⟨⟨⟨⟨⟨⟨g1, g2⟩, g3⟩, g4⟩, g5⟩, g6⟩, g7⟩, g8⟩, g9⟩ := hpb
  unfold vlanT at h ⊢
  split
  · rw [if_pos (by assumption)] at h
    have h1 : p.native ≠ 0 := by simpa using h
    have h2 : 0 ≤ p.native := by simpa using g2
    refine domI_in ?_
    have h3 : decide (0 < p.native) = true := by simp; omega
    rw [h3, Bool.true_and] at g8
    simpa using g8
  · rw [if_neg (by assumption)] at h
    split
    · rename_i h4
      have h5 : vid ∈ p.tagged := inB_mem.1 h4
      obtain ⟨i, hi, rfl⟩ := List.mem_iff_getElem.1 h5
      exact domI_in (allB_iff.1 g7 i hi)
    · rw [if_neg (by assumption)] at h
      cases h
theorem enterT_dom {n : Net} {port : Int} {b : List UInt8} (h : (enterT n port b).2.2 = 0) : DomIn n (enterT n port b).1 := by
  unfold enterT at h ⊢
  split
  · rw [if_pos (by assumption)] at h; cases h
  rename_i hc
  rw [if_neg hc] at h
  have hp : placeB port n.ports.length = true := by cases hx : placeB port n.ports.length; exact absurd (.inl hx) hc; rfl
  have hb : netRightB n = true := by cases hx : netRightB n; exact absurd (.inr hx) hc; rfl
  have key : ∀ f tg v, (enterF n port f tg v).2.2 = 0 → DomIn n (enterF n port f tg v).1 := fun f tg v h => by
    unfold enterF at h ⊢
    split
    · rw [if_pos (by assumption)] at h; cases h
    rw [if_neg (by assumption)] at h
    split
    · rw [if_pos (by assumption)] at h; cases h
    rename_i h5
    show DomIn n (domainT n _ _)
    rw [domainT, if_pos hb]
    exact vlanT_in hb hp (by simpa using h5)
  split
  · rename_i h2
    rw [if_pos h2] at h
    exact absurd h h2
  rename_i h2
  rw [if_neg h2] at h
  split
  · rename_i h3
    rw [if_pos h3] at h
    split
    · rename_i h4
      rw [if_pos h4] at h
      exact absurd h h4
    · rename_i h4
      rw [if_neg h4] at h
      exact key _ _ _ h
  · rename_i h3
    rw [if_neg h3] at h
    exact key _ _ _ h
theorem linkT_dom {n : Net} {port : Int} {b : List UInt8} (h : (linkT n port b).2.2.2 = 0) : DomIn n (linkT n port b).2.1 := by
  unfold linkT at h ⊢
  split
  · rw [if_pos (by assumption)] at h; cases h
  · rename_i h2
    rw [if_neg h2] at h
    exact enterT_dom h
theorem peers_in {n : Net} (hb : netRightB n = true) {dom : Nat} (hd : dom < n.domains.length) {k : Int} (hk : k ∈ n.domains[dom].peers) : DomIn n k := by
  simp only [netRightB, Bool.and_eq_true] at hb
  have := allB_iff.1 hb.1.1.1.1.1.1.2 _ hd
  obtain ⟨i, hi, rfl⟩ := List.mem_iff_getElem.1 hk
  have h2 := allB_iff.1 this i hi
  simp only [peerB, Bool.and_eq_true] at h2
  exact placeB_dom h2.1.1.1.1.1.1.1.1.1
theorem endsT_in {n : Net} (hb : netRightB n = true) {src dst : Nat} {vni : Int} (h : ¬ (endsT n src dst vni).1 < 0) : DomIn n (endsT n src dst vni).1 ∧ DomIn n (endsT n src dst vni).2 := by
  unfold endsT at h ⊢
  dsimp only at h ⊢
  split
  · rw [if_pos (by assumption)] at h; exact absurd (by decide) h
  rename_i h1
  rw [if_neg h1] at h
  split
  · rw [if_pos (by assumption)] at h; exact absurd (by decide) h
  rename_i h2
  have hd := idxI_lt (fun d : Domain => decide (d.dev = idxI (fun d : Device => decide (d.vtep = (dst : Int))) n.devices) && decide (d.vni = vni)) n.domains
  generalize idxI (fun d : Domain => decide (d.dev = idxI (fun d : Device => decide (d.vtep = (dst : Int))) n.devices) && decide (d.vni = vni)) n.domains = dom at *
  have hd2 : dom.toNat < n.domains.length := by omega
  have hi := idxI_lt (fun k : Int => decide (vtepI n k = (src : Int))) (nth n.domains dom).peers
  generalize idxI (fun k : Int => decide (vtepI n k = (src : Int))) (nth n.domains dom).peers = i at *
  rw [nth_eq hd2] at hi ⊢
  have hi2 : i.toNat < (n.domains[dom.toNat]).peers.length := by omega
  refine ⟨?_, ⟨by dsimp only; omega, hd2⟩⟩
  show DomIn n (nth (n.domains[dom.toNat]).peers i)
  rw [nth_eq hi2]
  exact peers_in hb hd2 (List.getElem_mem hi2)
theorem comeT_dom {n : Net} {b : List UInt8} (h : (comeT n b).2.2.2 = 0) : DomIn n (comeT n b).1 ∧ DomIn n (comeT n b).2.1 := by
  unfold comeT at h ⊢
  split
  · rw [if_pos (by assumption)] at h; cases h
  rename_i hb
  rw [if_neg hb] at h
  split
  · rename_i h2
    rw [if_pos h2] at h; exact absurd h h2
  rename_i h2
  rw [if_neg h2] at h
  split
  · rw [if_pos (by assumption)] at h; cases h
  rename_i h3
  rw [if_neg h3] at h
  split
  · rw [if_pos (by assumption)] at h; cases h
  exact endsT_in (by simpa using hb) h3
theorem hopT_dom {n : Net} {irb : Int} {f : FrameM} (hin : ∀ (d : Int), (lookT n irb d).2 = true → 0 ≤ (lookT n irb d).1 ∧ (lookT n irb d).1.toNat < n.irbs.length) (h : (hopT n irb f).2.2 = 0) : DomIn n (hopT n irb f).1 := by
  unfold hopT at h ⊢
  split
  · rw [if_pos (by assumption)] at h; cases h
  rename_i h1
  rw [if_neg h1] at h
  split
  · rw [if_pos (by assumption)] at h; cases h
  rename_i h2
  rw [if_neg h2] at h
  split
  · rename_i h3
    rw [if_pos h3] at h; exact absurd h h3
  rename_i h3
  rw [if_neg h3] at h
  split
  · rw [if_pos (by assumption)] at h; cases h
  rename_i h4
  rw [if_neg h4] at h
  split
  · rw [if_pos (by assumption)] at h; cases h
  rename_i h5
  rw [if_neg h5] at h
  split
  · rw [if_pos (by assumption)] at h; cases h
  have hl := hin ((ipTakeT f.body).1.dst : Int) (by simpa using h5)
  have hb : netRightB n = true := by cases hx : netRightB n; exact absurd (.inr hx) h1; rfl
  have := (e_irb_facts hb hl.2).1
  show DomIn n (nth n.irbs _).domain
  rw [nth_eq hl.2]
  exact this
end Go.Sy.YtmelpejjondedaaGreat

namespace Go.Sy.YtmelpejjondedaaGreat
open Go.Proofs
structure TabOK (t : List EntryM) : Prop where
  short : Short t
  mac : ∀ e ∈ t, e.mac < 18446744073709551616
  wh : ∀ e ∈ t, I64 e.where_
structure QueuedOK (q : QueuedM) : Prop where
  frame : FrameOK q.frame
  from_ : -2 ≤ q.from_ ∧ q.from_ < 1099511627776
  peer : 0 ≤ q.peer ∧ q.peer < 1099511627776
def QueueOK (l : List QueuedM) : Prop := l.length ≤ 64 ∧ ∀ q ∈ l, QueuedOK q
structure MacOK (n : Net) (m : MacM) (J D : Int) : Prop where
  up : m.up.length = n.links.length
  tabs : m.tables.length = n.domains.length
  ques : m.queues.length = n.domains.length
  tab : ∀ t ∈ m.tables, TabOK t
  que : ∀ l ∈ m.queues, QueueOK l
  now : 0 ≤ m.now ∧ m.now ≤ 1099511627776
  inj : 0 ≤ m.injected ∧ m.injected ≤ J
  drp : ∀ i, 0 ≤ m.drops i ∧ m.drops i ≤ D
theorem queued_ok {f : FrameM} (hf : FrameOK f) {a b : Int} (c : Int) (h1 : -2 ≤ a ∧ a < 1099511627776) (h2 : 0 ≤ b ∧ b < 1099511627776) : QueuedOK ⟨a, b, c, f⟩ := ⟨hf, h1, h2⟩
theorem noQ_ok : QueuedOK noQ := ⟨noF_ok, by decide, by decide⟩
theorem nil_tabOK : TabOK [] := ⟨by unfold Short; decide, fun _ h => (by cases h), fun _ h => (by cases h)⟩
theorem nil_queueOK : QueueOK [] := ⟨by decide, fun _ h => (by cases h)⟩
theorem mem_set {α : Type} {l : List α} {i : Nat} {x y : α} (h : y ∈ l.set i x) : y = x ∨ y ∈ l := by
  rcases List.mem_or_eq_of_mem_set h with h | h
  · exact .inr h
  · exact .inl h
theorem getD_mem {α : Type} {l : List α} {i : Nat} {d : α} (h : i < l.length) : (l[i]?).getD d ∈ l := by
  rw [List.getElem?_eq_getElem h]
  exact List.getElem_mem h
theorem queueL_ok {n : Net} {m : MacM} {J D : Int} (h : MacOK n m J D) (dom : Int) : QueueOK (queueL m dom) := by
  unfold queueL
  by_cases hd : dom.toNat < m.queues.length
  · exact h.que _ (getD_mem hd)
  · rw [List.getElem?_eq_none (by omega)]; exact nil_queueOK
theorem tableL_ok {n : Net} {m : MacM} {J D : Int} (h : MacOK n m J D) (dom : Int) : TabOK (tableL m dom) := by
  unfold tableL
  by_cases hd : dom.toNat < m.tables.length
  · exact h.tab _ (getD_mem hd)
  · rw [List.getElem?_eq_none (by omega)]; exact nil_tabOK
theorem MacOK.mono {n : Net} {m : MacM} {J D J' D' : Int} (h : MacOK n m J D) (h1 : J ≤ J') (h2 : D ≤ D') : MacOK n m J' D' :=
  ⟨h.up, h.tabs, h.ques, h.tab, h.que, h.now, ⟨h.inj.1, by have := h.inj.2; omega⟩, fun i => ⟨(h.drp i).1, by have := (h.drp i).2; omega⟩⟩
theorem dropT_ok {n : Net} {m : MacM} {J D : Int} (h : MacOK n m J D) (hD : 0 ≤ D) (e : Int) : MacOK n (dropT m e) J (D + 1) := by
  refine ⟨h.up, h.tabs, h.ques, h.tab, h.que, h.now, h.inj, fun i => ?_⟩
  have := h.drp i
  show 0 ≤ (if i = e.toNat then m.drops i + 1 else m.drops i) ∧ (if i = e.toNat then m.drops i + 1 else m.drops i) ≤ D + 1
  split <;> omega
theorem setQ_ok {n : Net} {m : MacM} {J D : Int} (h : MacOK n m J D) (dom : Int) {l : List QueuedM} (hl : QueueOK l) : MacOK n (setQ m dom l) J D := by
  refine ⟨h.up, h.tabs, by rw [setQ]; simp [h.ques], h.tab, fun x hx => ?_, h.now, h.inj, h.drp⟩
  rcases mem_set hx with rfl | hx
  · exact hl
  · exact h.que x hx
theorem setT_ok {n : Net} {m : MacM} {J D : Int} (h : MacOK n m J D) (dom : Int) {l : List EntryM} (hl : TabOK l) : MacOK n (setT m dom l) J D := by
  refine ⟨h.up, by rw [setT]; simp [h.tabs], h.ques, fun x hx => ?_, h.que, h.now, h.inj, h.drp⟩
  rcases mem_set hx with rfl | hx
  · exact hl
  · exact h.tab x hx
theorem pushT_ok {l : List QueuedM} (hl : QueueOK l) {q : QueuedM} (hq : QueuedOK q) : QueueOK (pushT l q).1 := by
  unfold pushT
  split
  · exact hl
  · refine ⟨by simp; omega, fun x hx => ?_⟩
    rcases List.mem_append.1 hx with hx | hx
    · exact hl.2 x hx
    · rw [List.mem_singleton.1 hx]; exact hq
theorem takeT_ok {l : List QueuedM} (hl : QueueOK l) (at_ : Int) : QueuedOK (takeT l at_).1 ∧ QueueOK (takeT l at_).2.1 := by
  unfold takeT
  split
  · exact ⟨noQ_ok, hl⟩
  · rename_i h
    refine ⟨hl.2 _ (getD_mem (by omega)), ?_, fun x hx => hl.2 x (List.mem_of_mem_eraseIdx hx)⟩
    have := List.length_eraseIdx_le l at_.toNat
    have := hl.1
    show (l.eraseIdx at_.toNat).length ≤ 64
    omega
theorem comeM_ok {n : Net} {m : MacM} {J D : Int} (h : MacOK n m J D) (hD : 0 ≤ D) (dom : Int) {q : QueuedM} (hq : QueuedOK q) (e : Int) : MacOK n (comeM m dom q e) J (D + 1) := by
  unfold comeM
  split
  · exact dropT_ok h hD e
  split
  · exact (setQ_ok h dom (pushT_ok (queueL_ok h dom) hq)).mono (Int.le_refl _) (by omega)
  · exact dropT_ok h hD 3
theorem takeM_ok {n : Net} {m : MacM} {J D : Int} (h : MacOK n m J D) (dom at_ : Int) : MacOK n (takeM m dom at_).1 J D ∧ QueuedOK (takeM m dom at_).2.1 := by
  unfold takeM
  split
  · exact ⟨h, noQ_ok⟩
  · have := takeT_ok (queueL_ok h dom) at_
    exact ⟨setQ_ok h dom this.2, this.1⟩
theorem injectT_ok {n : Net} (hn : n.Fin) {m : MacM} {J D : Int} (h : MacOK n m J D) (hJ : 0 ≤ J) (hD : 0 ≤ D) (port : Int) (b : List UInt8) : MacOK n (injectT n m port b) (J + 1) (D + 1) := by
  unfold injectT
  split
  · exact h.mono (by omega) (by omega)
  · rename_i hc
    have hp : placeB port n.ports.length = true := by cases hx : placeB port n.ports.length; exact absurd (.inl hx) hc; rfl
    have hpi := placeB_in2 hp
    have hs := hn.ports
    unfold Short at hs
    have h1 := h.inj
    have hm : MacOK n ⟨m.up, m.tables, m.queues, m.now, m.injected + 1, m.drops⟩ (J + 1) D := ⟨h.up, h.tabs, h.ques, h.tab, h.que, h.now, (by show 0 ≤ m.injected + 1 ∧ m.injected + 1 ≤ J + 1; omega), h.drp⟩
    exact comeM_ok hm hD _ (queued_ok (enterT_ok _ _ _) _ (by omega) (by omega)) _
structure OutOK (n : Net) (o : OutM) : Prop where
  kind : 1 ≤ o.kind ∧ o.kind ≤ 5
  bytes : o.bytes.length ≤ 1518
  frame : o.kind = 4 → FrameOK o.frame ∧ DomIn n o.domain
  err : o.kind = 5 → ErrOK o.error
theorem otherT_lt {n : Net} (hn : n.Fin) (port : Int) : -1 ≤ otherT n port ∧ otherT n port < 2147483648 := by
  unfold otherT
  split
  · rename_i h
    obtain ⟨⟨h1, h2⟩, h3, hb⟩ := h
    have hk : port.toNat < n.ports.length := by omega
    rw [nth_eq hk] at h3 ⊢
    have hl := (e_port_link hb hk h3).1
    rw [nth_eq hl]
    simp only [netRightB, Bool.and_eq_true] at hb
    have hlb := allB_iff.1 hb.1.1.1.1.2 _ hl
    simp only [linkB, Bool.and_eq_true] at hlb
    have ha := placeB_in2 hlb.1.1.1.1
    have hb2 := placeB_in2 hlb.1.1.1.2
    have hs := hn.ports
    unfold Short at hs
    split <;> omega
  · omega
theorem linkT_to {n : Net} (hn : n.Fin) (port : Int) (b : List UInt8) : 0 ≤ (linkT n port b).1 ∧ (linkT n port b).1 < 1099511627776 := by
  have := otherT_lt hn port
  unfold linkT
  split <;> dsimp only <;> omega
theorem comeT_from {n : Net} (hn : n.Fin) (b : List UInt8) : 0 ≤ (comeT n b).1 ∧ (comeT n b).1 < 1099511627776 := by
  by_cases h : (comeT n b).2.2.2 = 0
  · have := (comeT_dom h).1
    have hs := hn.domains
    unfold Short at hs
    unfold DomIn at this
    omega
  · unfold comeT at h ⊢
    split
    · decide
    rename_i h1
    rw [if_neg h1] at h
    split
    · exact ⟨Int.le_refl _, by dsimp only; omega⟩
    rename_i h1
    rw [if_neg h1] at h
    split
    · decide
    rename_i h1
    rw [if_neg h1] at h
    split
    · decide
    rename_i h1
    rw [if_neg h1] at h
    exact absurd rfl h
theorem goesM_ok {n : Net} (hn : n.Fin) {m : MacM} {J D : Int} (h : MacOK n m J D) (hD : 0 ≤ D) {o : OutM} (ho : OutOK n o) (origin : Int) : MacOK n (goesM n m o origin).1 J (D + 1) := by
  unfold goesM
  split
  · exact h.mono (Int.le_refl _) (by omega)
  split
  · have := linkT_to hn o.port o.bytes
    exact comeM_ok h hD _ (queued_ok (linkT_ok _ _ _) _ (by omega) (by omega)) _
  split
  · exact comeM_ok h hD _ (queued_ok (comeT_ok _ _) _ (by omega) (comeT_from hn o.bytes)) _
  split
  · rename_i h4
    exact comeM_ok h hD o.domain (queued_ok (a := -2) (b := 0) (ho.frame h4).1 origin (by decide) (by decide)) 0
  · exact dropT_ok h hD _
theorem goesL_ok {n : Net} (hn : n.Fin) (origin : Int) : ∀ (l : List OutM) {m : MacM} {J D : Int}, MacOK n m J D → 0 ≤ D → (∀ o ∈ l, OutOK n o) → MacOK n (goesL n m origin l).1 J (D + l.length)
  | [], m, J, D, h, _, _ => by
    rw [goesL]
    exact h.mono (Int.le_refl _) (by simp)
  | o :: l, m, J, D, h, hD, ho => by
    rw [goesL]
    have := goesL_ok hn origin l (goesM_ok hn h hD (ho o (by simp)) origin) (by omega) (fun x hx => ho x (by simp [hx]))
    exact this.mono (Int.le_refl _) (by simp only [List.length_cons]; omega)
theorem lostT_ok {n : Net} {o : OutM} {r : List UInt8 × Int} (hk : 1 ≤ o.kind ∧ o.kind ≤ 3) (hr : r.1.length ≤ 1518) (he : ErrOK r.2) : OutOK n (lostT o r) := by
  unfold lostT
  split
  · exact ⟨⟨by dsimp only; omega, by dsimp only; omega⟩, by simp, fun h => absurd h (by dsimp only; omega), fun _ => he⟩
  · exact ⟨⟨hk.1, by have := hk.2; dsimp only; omega⟩, hr, fun h => by have := hk.2; dsimp only at h; omega, fun h => by have := hk.2; dsimp only at h; omega⟩
theorem learnT_ok {t : List EntryM} (h : TabOK t) {m : Nat} (hm : m < 18446744073709551616) {wh : Int} (hw : I64 wh) (now : Int) : TabOK (learnT t m wh now) := by
  have hs := h.short
  unfold Short at hs
  have key : ∀ e : EntryM, e ∈ learnT t m wh now → e ∈ t ∨ e = ⟨m, wh, now⟩ := fun e he => by
    unfold learnT at he
    split at he
    · exact .inl he
    split at he
    · rcases mem_set he with h | h
      · exact .inr h
      · exact .inl h
    · rcases List.mem_append.1 he with h | h
      · split at h
        · exact .inl (List.mem_of_mem_eraseIdx h)
        · exact .inl h
      · exact .inr (List.mem_singleton.1 h)
  refine ⟨?_, fun e he => ?_, fun e he => ?_⟩
  · unfold learnT
    split
    · exact h.short
    rename_i hb
    have h8 : t.length ≤ 8 := by
      have : tableB t = true := by cases hx : tableB t; exact absurd (.inl hx) hb; rfl
      simp only [tableB, Bool.and_eq_true, decide_eq_true_eq] at this
      exact this.1
    split
    · unfold Short; simp; omega
    · unfold Short
      split
      · have := List.length_eraseIdx_le t (oldestU t t.length)
        simp only [List.length_append, List.length_cons, List.length_nil]
        omega
      · simp only [List.length_append, List.length_cons, List.length_nil]
        omega
  · rcases key e he with h1 | rfl
    · exact h.mac e h1
    · exact hm
  · rcases key e he with h1 | rfl
    · exact h.wh e h1
    · exact hw
theorem learnQ_ok {t : List EntryM} (h : TabOK t) {q : QueuedM} (hq : QueuedOK q) (now : Int) : TabOK (learnQ t q now) := by
  unfold learnQ
  split
  · exact h
  · have hs := hq.frame.src
    refine learnT_ok h (by omega) ?_ now
    have h1 := hq.from_
    have h2 := hq.peer
    unfold I64
    split <;> omega
theorem ageT_ok {t : List EntryM} (h : TabOK t) (now : Int) : TabOK (ageT t now) := by
  unfold ageT
  split
  · exact h
  · have hs := h.short
    unfold Short at hs
    refine ⟨?_, fun e he => h.mac e (List.mem_filter.1 he).1, fun e he => h.wh e (List.mem_filter.1 he).1⟩
    unfold Short
    exact Nat.lt_of_le_of_lt (List.length_filter_le _ _) hs
theorem members_few (n : Net) (dom : Int) : (membersL n dom).length ≤ n.ports.length := by
  rw [membersL]
  have := filtI_length (inDom n (nth n.domains dom)) n.ports.length
  exact this
end Go.Sy.YtmelpejjondedaaGreat

namespace Go.Sy
theorem G_pin {C : Cx} {kk : List KI} {s : SS} (q : Nat) (r : List Nat) {sz : Nat} {α : Type} {e : α → SV} {l : List α} (h : s.h q = .row sz e l) (hl : l ≠ []) (hr : ∀ i ∈ r, s.σ i = .osl q)
    (hg : ∀ b cap, l.length ≤ cap → G C kk ⟨freezeσ s.σ (.val (.slice (some ⟨b, 0, none⟩) l.length cap)) r, upd s.h q (.pin b l.length cap sz e l)⟩) : G C kk s := fun κ a w hs => by
  have hob := hs.obj q
  rw [h] at hob
  rcases hob with ⟨_, h1⟩ | hrow
  · exact absurd h1 hl
  obtain ⟨b, cap, cs, T, fr, e1, e2, e3, e4, e5, e6⟩ := hrow
  refine hg b cap e5 κ a w ⟨hs.defers, hs.size, hs.inv, hs.ctx, fun i => ?_, fun j => ?_⟩
  · refine freezeσ_ok r _ i (hs.slot i) (fun hi => ?_)
    have := hs.slot i
    rw [hr i hi] at this
    simp only [Rd, e1] at this
    simp only [Rd]
    exact this
  · show ObOK κ w j (upd s.h q _ j)
    by_cases hj : j = q
    · subst hj; rw [upd_self]; exact ⟨e1, b, cap, cs, T, fr, e1, e2, e3, e4, e5, e6⟩
    · rw [upd_ne _ _ hj]; exact hs.obj j
theorem G_unpin {C : Cx} {kk : List KI} {s : SS} (q d : Nat) (r : List Nat) (m : Nat) {b n cap sz : Nat} {α : Type} {e : α → SV} {l : List α} (h : s.h q = .pin b n cap sz e l) (hd : s.h d = .fresh) (hm : m ≤ l.length)
    (hr : ∀ i ∈ r, s.σ i = .val (.slice (some ⟨b, 0, none⟩) m cap)) (hg : G C kk ⟨freezeσ s.σ (.osl d) r, upd (upd s.h q .non) d (.row sz e (l.take m))⟩) : G C kk s := fun κ a w hs => by
  have hob := hs.obj q
  rw [h] at hob
  have hnew : κ d = .new := by have := hs.obj d; rwa [hd] at this
  obtain ⟨e0, b', cap', cs, T, fr, e1, e2, e3, e4, e5, e6⟩ := hob
  rw [e0] at e1
  cases e1
  have hln : l.length ≤ n := by
    by_cases h0 : l.length = 0
    · omega
    · have := (e6 (l.length - 1) _ ⟨by omega, rfl⟩).1
      omega
  obtain ⟨st, inv⟩ := step_over (n' := m) (w' := w) hs.inv e0 hnew rfl rfl rfl rfl (fun _ _ => rfl)
  have hlt : (l.take m).length = m := by rw [List.length_take]; omega
  refine hg _ a w ⟨hs.defers, hs.size, inv, hs.ctx.step inv st, fun j => ?_, fun j => ?_⟩
  · refine freezeσ_ok r _ j (Rd.step st _ _ (hs.slot j)) (fun hj => ?_)
    have := hs.slot j
    rw [hr j hj] at this
    simp only [Rd] at this
    simp [Rd, setK_self, this]
  · show ObOK _ w j (upd (upd s.h q .non) d _ j)
    by_cases hj : j = d
    · subst hj; rw [upd_self]
      refine .inr ⟨b, cap, cs, T, fr, by rw [setK_self, hlt], e2, e3, e4, by omega, fun i x hx => ?_⟩
      obtain ⟨hi, rfl⟩ := hx
      obtain ⟨_, u, q2, q3⟩ := e6 i (e l[i]) ⟨by omega, rfl⟩
      refine ⟨hi, u, ?_, q3⟩
      rw [List.getElem_take]
      exact RdD.keep st.keeps _ _ q2
    · rw [upd_ne _ _ hj]
      by_cases hj2 : j = q
      · subst hj2; rw [upd_self]; trivial
      · rw [upd_ne _ _ hj2]; exact ObOK.step st (fun e => e.elim hj2 hj) _ (hs.obj j)
theorem good_slice_v {P : Program} (Γ : Ty P) {o : Oper} {s : SS} {t : TypeId} {ti : TI} {et : TypeId} {sz eb b n cap lo hi : Nat} {ez : List Value} {x : Operand} {lx hx : Option Operand}
    (h : o.op = .slice t x lx hx none) (ht : Γ.get t = some ti) (hk : ti.k = .slice et sz eb ez) (hxe : ev s x = .val (.slice (some ⟨b, 0, none⟩) n cap)) (hlo : BoundIs s lx 0 lo) (hhi : BoundIs s hx n hi) (h1 : lo ≤ hi) (h2 : hi ≤ cap) :
    Good P o s ⟨.val (.slice (some (if cap = lo then ⟨b, 0, none⟩ else ⟨b, lo * sz, none⟩)) (hi - lo) (cap - lo)), [], []⟩ :=
  Good.pure fun κ a w _ hr _ => by
    have r1 := hr x (by simp [h, Op.operands])
    rw [hxe] at r1
    obtain ⟨hu, i, zv, q1, q2, q3, q4, q5⟩ := slice_elem Γ ht hk
    have b1 := hlo.val (a := a) (fun y hy => hr y (by simp [h, Op.operands, hy]))
    have b2 := hhi.val (a := a) (fun y hy => hr y (by simp [h, Op.operands, hy]))
    have hb := run_sliceBounds (P := P) w (len := n) (cap := cap) b1 b2 h1 h2
    refine ⟨.slice (some (if cap = lo then ⟨b, 0, none⟩ else ⟨b, lo * sz, none⟩)) (hi - lo) (cap - lo), ?_, by simp only [Rd]⟩
    by_cases hc : cap = lo
    · subst hc
      simp [execOp, h, r1.val, Instr.sliceAt, Instr.slice, run_underlying hu, hb, sizeOf, typeInfo, q1]
    · simp [execOp, h, r1.val, Instr.sliceAt, Instr.slice, run_underlying hu, hb, sizeOf, typeInfo, q1, q2, hc, Addr.add_lit]
theorem good_slice3_v {P : Program} (Γ : Ty P) {o : Oper} {s : SS} {t : TypeId} {ti : TI} {et : TypeId} {sz eb b n cap lo hi mm : Nat} {ez : List Value} {x : Operand} {lx hx mx : Operand} {k1 k2 k3 : IntKind}
    (h : o.op = .slice t x (some lx) (some hx) (some mx)) (ht : Γ.get t = some ti) (hk : ti.k = .slice et sz eb ez) (hxe : ev s x = .val (.slice (some ⟨b, 0, none⟩) n cap)) (hlo : ev s lx = .val (.int k1 lo)) (hhi : ev s hx = .val (.int k2 hi)) (hmx : ev s mx = .val (.int k3 mm))
    (h1 : lo ≤ hi) (h2 : hi ≤ mm) (h3 : mm ≤ cap) : Good P o s ⟨.top, [], []⟩ :=
  Good.pure fun κ a w _ hr _ => by
    have r1 := hr x (by simp [h, Op.operands])
    have r2 := hr lx (by simp [h, Op.operands])
    have r3 := hr hx (by simp [h, Op.operands])
    have r4 := hr mx (by simp [h, Op.operands])
    rw [hxe] at r1
    rw [hlo] at r2
    rw [hhi] at r3
    rw [hmx] at r4
    obtain ⟨hu, i, zv, q1, q2, q3, q4, q5⟩ := slice_elem Γ ht hk
    have hb : (Instr.sliceBounds true n cap (some (a.eval lx)) (some (a.eval hx)) (some (a.eval mx))).run P w = .ok (lo, hi, mm) w := by
      rw [r2.val, r3.val, r4.val]
      simp [Instr.sliceBounds, Instr.sliceBound, asIntOf, h1, h2, h3]
    refine ⟨.slice (some (if mm = lo then ⟨b, 0, none⟩ else ⟨b, lo * sz, none⟩)) (hi - lo) (mm - lo), ?_, by simp only [Rd, RdD]⟩
    by_cases hc : mm = lo
    · subst hc
      simp [execOp, h, r1.val, Instr.sliceAt, Instr.slice, run_underlying hu, hb, sizeOf, typeInfo, q1]
    · simp [execOp, h, r1.val, Instr.sliceAt, Instr.slice, run_underlying hu, hb, sizeOf, typeInfo, q1, q2, hc, Addr.add_lit]
theorem step_writeR {κ : Ka} {w w' : World} {k b n cap : Nat} (hi : Inv κ w) (hk : κ k = .row b n cap) (hos : w'.os = w.os) (ht : w'.tape = w.tape) (ho : w'.output = w.output)
    (hs : w'.heap.size = w.heap.size) (hb : ∀ i, i ≠ b → w'.heap[i]? = w.heap[i]?) : Step (fun j => j = k) κ w κ w' ∧ Inv κ w' := by
  have hkb : (κ k).block? = some b := by rw [hk]; rfl
  refine ⟨⟨by omega, hos, ht, ho, rfl, fun c hm => hb c (fun e => hi.apart k b hkb (e ▸ hm)), fun c _ hn => hb c (fun e => hn (.inl ⟨k, e ▸ hkb⟩)), fun j c hj hjc => hb c (fun e => hj ?_), fun _ _ => rfl, fun _ _ => .inr (.inl rfl), fun _ h => .inl h⟩,
    ⟨hi.inj, fun j c h => by rw [hs]; exact hi.bnd j c h, hi.apart, fun c h => by rw [hs]; exact hi.mbnd c h⟩⟩
  subst e
  exact hi.inj j k _ hjc hkb
theorem row_ones {cs : List Value} {sz n : Nat} (h : ∀ i, i < n → ∃ u : Value, u.cells.size = sz ∧ Ones u.cells.toList ∧ ∀ j, j < sz → cs[i * sz + j]? = u.cells[j]?) {p : Nat} (hp : p < n * sz) {v : Value} (hv : cs[p]? = some v) : v.oneCell' = true := by
  have h0 : 0 < sz := by
    rcases Nat.eq_zero_or_pos sz with rfl | h
    · simp at hp
    · exact h
  obtain ⟨u, h1, h2, h3⟩ := h (p / sz) (Nat.div_lt_of_lt_mul (by rw [Nat.mul_comm]; exact hp))
  have h4 := h3 (p % sz) (Nat.mod_lt _ h0)
  rw [Nat.mul_comm, Nat.div_add_mod, hv] at h4
  obtain ⟨hl, he⟩ := Array.getElem?_eq_some_iff.1 h4.symm
  refine h2 v ?_
  rw [← he]
  exact Array.getElem_mem_toList hl
theorem good_append_pin {P : Program} (Γ : Ty P) {o : Oper} {s : SS} (q : Nat) {t : TypeId} {ti : TI} {et : TypeId} {sz eb b n cap i j : Nat} {ez : List Value} {x y : Operand} {α : Type} {e : α → SV} {l : List α} {B : Option Addr} {c : Nat}
    (h : o.op = .call ⟨.builtin .append, #[x, y], #[t, t]⟩) (ht : Γ.get t = some ti) (hk : ti.k = .slice et sz eb ez) (hx : ev s x = .val (.slice (some ⟨b, 0, none⟩) i cap))
    (hy : ev s y = .val (.slice B (n - j) c)) (hB : B = some (if cap = j then ⟨b, 0, none⟩ else ⟨b, j * sz, none⟩)) (hob : s.h q = .pin b n cap sz e l) (hl : l.length = n) (hij : i ≤ j) (hj : j ≤ n) :
    Good P o s ⟨.val (.slice (some ⟨b, 0, none⟩) (i + (n - j)) cap), [], [(q, .pin b n cap sz e (l.take i ++ l.drop j))]⟩ := by
  intro κ a w hinv hr ho N Q hN
  have r1 := hr x (by simp [h, Op.operands, Call.operands])
  have r2 := hr y (by simp [h, Op.operands, Call.operands])
  rw [hx] at r1
  rw [hy] at r2
  subst hB
  have hq := ho q (.inr (by simp [Up.ws]))
  rw [hob] at hq
  obtain ⟨e0, b', cap', cs, T, fr, e1, e2, e3, e4, e5, e6⟩ := hq
  rw [e0] at e1
  cases e1
  obtain ⟨hu, ii, zv, q1, q2, q3, q4, q5⟩ := slice_elem Γ ht hk
  have hall : ∀ i, i < n → ∃ u : Value, u.cells.size = sz ∧ Ones u.cells.toList ∧ ∀ j, j < sz → cs[i * sz + j]? = u.cells[j]? := fun i hi => by
    obtain ⟨_, u, _, u2⟩ := e6 i (e l[i]) ⟨by omega, rfl⟩
    exact ⟨u, u2⟩
  obtain ⟨news, hnews⟩ : ∃ news, news = (cs.drop (j * sz)).take ((n - j) * sz) := ⟨_, rfl⟩
  have hmul : (n - j) * sz + j * sz = n * sz := by rw [← Nat.add_mul]; congr 1; omega
  have hnc : n * sz ≤ cap * sz := Nat.mul_le_mul_right sz e5
  have hijs : i * sz ≤ j * sz := Nat.mul_le_mul_right sz hij
  have hnl : news.length = (n - j) * sz := by rw [hnews, List.length_take, List.length_drop]; omega
  have hget : ∀ p, p < (n - j) * sz → news[p]? = cs[j * sz + p]? := fun p hp => by
    rw [hnews, List.getElem?_take, if_pos hp, List.getElem?_drop]
  have hones : Ones news := fun v hv => by
    obtain ⟨p, hp, he⟩ := List.getElem_of_mem hv
    have h1 : news[p]? = some v := by rw [List.getElem?_eq_getElem hp, he]
    rw [hnl] at hp
    rw [hget p hp] at h1
    exact row_ones hall (by omega) h1
  obtain ⟨w', f1, f2, f3, f4, f5, f6, f7⟩ := run_storeCells_nf P b (i * sz) T fr news 0 cs w e2 e3 (by omega) hones
  obtain ⟨st, inv⟩ := step_writeR hinv e0 f3 f4 f5 f6 f7
  have hroom : i + (n - j) ≤ cap := by omega
  have hcell : ∀ p v, cs[p]? = some v → w.cell? ⟨b, p, none⟩ = some v := fun p v hp => by
    simp [World.cell?, e2, hp]
  have hc : (Builtin.firstCells sz (n - j) (.slice (some (if cap = j then ⟨b, 0, none⟩ else ⟨b, j * sz, none⟩)) (n - j) c)).run P w = .ok news.toArray w := by
    by_cases hcj : cap = j
    · have h0 : n - j = 0 := by omega
      rw [if_pos hcj, h0]
      have h1 : news = [] := by rw [h0] at hnl; simpa using hnl
      rw [h1]
      exact run_firstCells_some (P := P) w sz 0 ⟨b, 0, none⟩ 0 c [] (by simp) (fun j v hj => by simp at hj)
    · rw [if_neg hcj]
      refine run_firstCells_some (P := P) w sz (n - j) ⟨b, j * sz, none⟩ (n - j) c news hnl (fun p v hp => ?_)
      rw [Addr.add_lit]
      have hlt : p < (n - j) * sz := by
        rw [← hnl]; exact (List.getElem?_eq_some_iff.1 hp).1
      rw [hget p hlt] at hp
      exact hcell _ _ hp
  have hrun : (execOp a.eval o).run P w = .ok (.value (.slice (some ⟨b, 0, none⟩) (i + (n - j)) cap)) w' := by
    simp [execOp, h, resolve, invoke, builtin, Builtin.append_, r1.val, r2.val, run_underlying hu, sizeOf, typeInfo, q1, q2, Builtin.lenOf, hroom, hc, Addr.add_lit, f1]
  simp only [Oper.wp, hrun, Oper.upon]
  refine hN _ κ w' (st.weaken (fun k hk => by subst hk; simp [Up.ws])) inv (by simp only [Rd]) (fun p hp => ?_)
  simp only [List.mem_singleton] at hp
  subst hp
  refine ⟨e0, b, cap, _, T, fr, e0, f2, by rw [setV_length]; exact e3, by rw [setV_length]; exact e4, e5, ?_⟩
  rintro k z ⟨hk0, rfl⟩
  have hset := setV_get cs news (i * sz + 0)
  have hlen : (l.take i ++ l.drop j).length = i + (n - j) := by rw [List.length_append, List.length_take, List.length_drop]; omega
  rw [hlen] at hk0
  by_cases hki : k < i
  · obtain ⟨_, u, u1, u2, u3, u4⟩ := e6 k (e l[k]) ⟨by omega, rfl⟩
    have : (k + 1) * sz ≤ i * sz := Nat.mul_le_mul_right sz (by omega)
    rw [Nat.add_mul, Nat.one_mul] at this
    refine ⟨by omega, u, ?_, u2, u3, fun p hp => ?_⟩
    · rw [List.getElem_append_left (by rw [List.length_take]; omega), List.getElem_take]
      exact RdD.keep st.keeps _ _ u1
    · rw [hset _ (by omega), if_neg (by omega), u4 p hp]
  · obtain ⟨_, u, u1, u2, u3, u4⟩ := e6 (j + (k - i)) (e l[j + (k - i)]) ⟨by omega, rfl⟩
    have hks : k * sz = i * sz + (k - i) * sz := by rw [← Nat.add_mul]; congr 1; omega
    have hjs : (j + (k - i)) * sz = j * sz + (k - i) * sz := by rw [← Nat.add_mul]
    have : (k - i + 1) * sz ≤ (n - j) * sz := Nat.mul_le_mul_right sz (by omega)
    rw [Nat.add_mul, Nat.one_mul] at this
    refine ⟨by omega, u, ?_, u2, u3, fun p hp => ?_⟩
    · rw [List.getElem_append_right (by rw [List.length_take]; omega), List.getElem_drop]
      have hidx : j + (k - (l.take i).length) = j + (k - i) := by rw [List.length_take]; omega
      simp only [hidx]
      exact RdD.keep st.keeps _ _ u1
    · rw [hset _ (by omega), if_pos (by omega), ← u4 p hp, hjs]
      rw [show k * sz + p - (i * sz + 0) = (k - i) * sz + p by omega, hget _ (by omega)]
      congr 1
      omega
theorem good_clear_pin {P : Program} (Γ : Ty P) {o : Oper} {s : SS} (q : Nat) {t : TypeId} {ti : TI} {et : TypeId} {sz eb b n cap k m c : Nat} {ez : List Value} {x : Operand} {α : Type} {e : α → SV} {l : List α} {B : Option Addr}
    (h : o.op = .call ⟨.builtin .clear, #[x], #[t]⟩) (ht : Γ.get t = some ti) (hk : ti.k = .slice et sz eb ez) (hez : ez.length = sz) (hz1 : ∀ v ∈ ez, v.oneCell' = true) (hx : ev s x = .val (.slice B m c)) (hB : B = some (if cap = k then ⟨b, 0, none⟩ else ⟨b, k * sz, none⟩))
    (hob : s.h q = .pin b n cap sz e l) (hkl : k ≤ l.length) (hm : k + m ≤ cap) :
    Good P o s ⟨.tup [], [], [(q, .pin b n cap sz e (l.take k))]⟩ := by
  intro κ a w hinv hr ho N Q hN
  have r1 := hr x (by simp [h, Op.operands, Call.operands])
  rw [hx] at r1
  subst hB
  have hq := ho q (.inr (by simp [Up.ws]))
  rw [hob] at hq
  obtain ⟨e0, b', cap', cs, T, fr, e1, e2, e3, e4, e5, e6⟩ := hq
  rw [e0] at e1
  cases e1
  obtain ⟨hu, ii, zv, q1, q2, q3, q4, q5⟩ := slice_elem Γ ht hk
  have hzs : zv.cells.size = sz := by rw [← hez, ← q5]; simp
  have hlt : (l.take k).length = k := by rw [List.length_take]; omega
  by_cases hm0 : m = 0
  · subst hm0
    have hrun : (execOp a.eval o).run P w = .ok (.value (.tuple #[])) w := by
      simp [execOp, h, resolve, invoke, builtin, Builtin.clear_, r1.val, run_underlying hu]
    simp only [Oper.wp, hrun, Oper.upon]
    refine hN _ κ w (Step.refl _ κ w) hinv (by simp [Rd, RdL]) (fun p hp => ?_)
    simp only [List.mem_singleton] at hp
    subst hp
    refine ⟨e0, b, cap, cs, T, fr, e0, e2, e3, e4, e5, ?_⟩
    rintro p z ⟨hp0, rfl⟩
    rw [List.getElem_take]
    exact e6 p (e l[p]) ⟨by omega, rfl⟩
  obtain ⟨m, rfl⟩ : ∃ p, m = p + 1 := ⟨m - 1, by omega⟩
  rw [if_neg (by omega)] at r1
  obtain ⟨news, hnews⟩ : ∃ news, news = (Builtin.zeroCells zv.cells (m + 1)).toList := ⟨_, rfl⟩
  have hnl : news.length = (m + 1) * sz := by rw [hnews, Array.length_toList, len_zeroCells, hzs]
  have hones : Ones news := fun v hv => by
    rw [hnews, Array.mem_toList_iff] at hv
    refine hz1 v ?_
    rw [← q5]
    simp only [Builtin.zeroCells, Array.mem_map, Array.mem_range] at hv
    obtain ⟨p, hp, rfl⟩ := hv
    have h0 : 0 < zv.cells.size := by
      rcases Nat.eq_zero_or_pos zv.cells.size with h | h
      · rw [h] at hp; simp at hp
      · exact h
    have hlt2 : p % zv.cells.size < zv.cells.size := Nat.mod_lt _ h0
    rw [getElem!_pos zv.cells _ hlt2]
    exact Array.getElem_mem_toList hlt2
  have hmul : k * sz + (m + 1) * sz ≤ cap * sz := by rw [← Nat.add_mul]; exact Nat.mul_le_mul_right sz hm
  obtain ⟨w', f1, f2, f3, f4, f5, f6, f7⟩ := run_storeCells_nf P b (k * sz) T fr news 0 cs w e2 e3 (by omega) hones
  obtain ⟨st, inv⟩ := step_writeR hinv e0 f3 f4 f5 f6 f7
  have hrun : (execOp a.eval o).run P w = .ok (.value (.tuple #[])) w' := by
    simp [execOp, h, resolve, invoke, builtin, Builtin.clear_, r1.val, run_underlying hu, zeroValue, typeInfo, q1, q4, ← hnews, f1]
  simp only [Oper.wp, hrun, Oper.upon]
  refine hN _ κ w' (st.weaken (fun k hk => by subst hk; simp [Up.ws])) inv (by simp [Rd, RdL]) (fun p hp => ?_)
  simp only [List.mem_singleton] at hp
  subst hp
  refine ⟨e0, b, cap, _, T, fr, e0, f2, by rw [setV_length]; exact e3, by rw [setV_length]; exact e4, e5, ?_⟩
  rintro p z ⟨hp0, rfl⟩
  have hset := setV_get cs news (k * sz + 0)
  obtain ⟨h0, u, u1, u2, u3, u4⟩ := e6 p (e l[p]) ⟨by omega, rfl⟩
  have : (p + 1) * sz ≤ k * sz := Nat.mul_le_mul_right sz (by omega)
  rw [Nat.add_mul, Nat.one_mul] at this
  refine ⟨h0, u, ?_, u2, u3, fun j hj => ?_⟩
  · rw [List.getElem_take]
    exact RdD.keep st.keeps _ _ u1
  · have hcl : k * sz ≤ cs.length := by omega
    rw [hset _ (by omega), if_neg (by omega), u4 j hj]
end Go.Sy

namespace Go.Sy
theorem G_dat {C : Cx} {kk : List KI} {s : SS} (i q : Nat) {sz : Nat} {α : Type} {e : α → SV} {l : List α} (h : s.σ i = .sl sz e l) (hl : l ≠ [])
    (hg : ∀ b off cap, l.length ≤ cap → G C kk ⟨upd s.σ i (.val (.slice (some ⟨b, off, none⟩) l.length cap)), upd s.h q (.dat (.slice (some ⟨b, off, none⟩) l.length cap) sz e l)⟩) : G C kk s := fun κ a w hs => by
  have h1 := hs.slot i
  rw [h] at h1
  have h1' := h1
  simp only [Rd, RdD] at h1
  rcases h1 with ⟨h2, _⟩ | ⟨b, off, cap, h2, h3, _⟩
  · exact absurd h2 hl
  · refine hg b off cap h3 κ a w ⟨hs.defers, hs.size, hs.inv, hs.ctx, fun j => ?_, fun j => ?_⟩
    · show Rd κ w (upd s.σ i (.val (.slice (some ⟨b, off, none⟩) l.length cap)) j) _
      by_cases hj : j = i
      · subst hj; rw [upd_self]; simp only [Rd]; exact h2
      · rw [upd_ne _ _ hj]; exact hs.slot j
    · show ObOK κ w j (upd s.h q (.dat (.slice (some ⟨b, off, none⟩) l.length cap) sz e l) j)
      by_cases hj : j = q
      · subst hj; rw [upd_self]; rw [h2] at h1'; exact h1'
      · rw [upd_ne _ _ hj]; exact hs.obj j
theorem good_slice3_d {P : Program} (Γ : Ty P) {o : Oper} {s : SS} {t : TypeId} {ti : TI} {et : TypeId} {sz eb b off n cap hi : Nat} {ez : List Value} {x hx mx : Operand} {k2 k3 : IntKind}
    (h : o.op = .slice t x none (some hx) (some mx)) (ht : Γ.get t = some ti) (hk : ti.k = .slice et sz eb ez) (hxe : ev s x = .val (.slice (some ⟨b, off, none⟩) n cap)) (hhi : ev s hx = .val (.int k2 hi)) (hmx : ev s mx = .val (.int k3 hi))
    (h3 : hi ≤ cap) : Good P o s ⟨.val (.slice (some ⟨b, off, none⟩) hi hi), [], []⟩ :=
  Good.pure fun κ a w _ hr _ => by
    have r1 := hr x (by simp [h, Op.operands])
    have r3 := hr hx (by simp [h, Op.operands])
    have r4 := hr mx (by simp [h, Op.operands])
    rw [hxe] at r1
    rw [hhi] at r3
    rw [hmx] at r4
    obtain ⟨hu, i, zv, q1, q2, q3, q4, q5⟩ := slice_elem Γ ht hk
    have hb : (Instr.sliceBounds true n cap none (some (a.eval hx)) (some (a.eval mx))).run P w = .ok (0, hi, hi) w := by
      rw [r3.val, r4.val]
      simp [Instr.sliceBounds, Instr.sliceBound, asIntOf, h3]
    refine ⟨.slice (some ⟨b, off, none⟩) hi hi, ?_, by simp only [Rd]⟩
    by_cases hc : hi = 0
    · subst hc
      simp [execOp, h, r1.val, Instr.sliceAt, Instr.slice, run_underlying hu, hb, sizeOf, typeInfo, q1]
    · simp [execOp, h, r1.val, Instr.sliceAt, Instr.slice, run_underlying hu, hb, sizeOf, typeInfo, q1, q2, hc, Addr.add_lit]
theorem good_append_d {P : Program} (Γ : Ty P) {o : Oper} {s : SS} (q : Nat) {t : TypeId} {ti : TI} {et : TypeId} {sz eb b off n cap : Nat} {ez : List Value} {x y : Operand} {α : Type} {e : α → SV} {l l' : List α}
    (h : o.op = .call ⟨.builtin .append, #[x, y], #[t, t]⟩) (ht : Γ.get t = some ti) (hk : ti.k = .slice et sz eb ez) (hez : ez.length = sz) (hx : ev s x = .val (.slice (some ⟨b, off, none⟩) n n))
    (hq : s.h q = .dat (.slice (some ⟨b, off, none⟩) l.length cap) sz e l) (hn : n ≤ l.length) (hy : ev s y = .sl sz e l') (hbytes : (n + l'.length) * eb ≤ 140737488355328) (h63 : n + l'.length ≤ 9223372036854775807) :
    Good P o s ⟨.sl sz e (l.take n ++ l'), [q], []⟩ := by
  intro κ a w hinv hr ho N Q hN
  have r1 := hr x (by simp [h, Op.operands, Call.operands])
  have r2 := hr y (by simp [h, Op.operands, Call.operands])
  rw [hx] at r1
  rw [hy] at r2
  have hq1 := ho q (.inl (by simp))
  rw [hq] at hq1
  have hq1 : Rd κ w (.sl sz e l) (.slice (some ⟨b, off, none⟩) l.length cap) := hq1
  obtain ⟨hu, ii, zv, q1, q2, q3, q4, q5⟩ := slice_elem Γ ht hk
  have hzs : zv.cells.size = sz := by rw [← hez, ← q5]; simp
  have htl : (l.take n).length = n := by rw [List.length_take]; omega
  have hbase : Rd κ w (.sl sz e (l.take n)) (.slice (some ⟨b, off, none⟩) n n) := by
    simp only [Rd, RdD] at hq1 ⊢
    rcases hq1 with ⟨h0, _⟩ | ⟨b2, off2, cap2, h2, h3, h4, h5, h6⟩
    · have hn0 : n = 0 := by rw [h0] at hn; simpa using hn
      subst hn0
      exact .inl ⟨by simp, _, _, rfl⟩
    · cases h2
      refine .inr ⟨b, off, n, by rw [htl], by rw [htl]; exact Nat.le_refl _, h4, h5, fun i hi => ?_⟩
      obtain ⟨u, h7, h8⟩ := h6 i (by omega)
      exact ⟨u, by rw [List.getElem_take]; exact h7, h8⟩
  have hrb := hbase.src
  have hru := r2.src
  rw [htl] at hrb
  obtain ⟨m, hm⟩ : ∃ m, l'.length = m := ⟨_, rfl⟩
  rw [hm] at hru hbytes h63
  generalize hve : a.eval y = u at *
  obtain ⟨ad, c, news, hu2, hnl, hn1, hnc, hng⟩ : ∃ (a : Option Addr) (c : Nat) (news : List Value), u = .slice a m c ∧ news.length = m * sz ∧ Ones news ∧ (∀ W : World, (∀ p : Addr, p.block < w.heap.size → W.cell? p = w.cell? p) → (Builtin.firstCells sz m u).run P W = .ok news.toArray W) ∧
      (∀ j x, rowF e l' j x → j < m ∧ ∃ q : Value, RdD (Own κ) w x q ∧ q.cells.size = sz ∧ Ones q.cells.toList ∧ ∀ l, l < sz → news[j * sz + l]? = q.cells[l]?) := by
    rcases hru with ⟨rfl, hno, a, c, rfl⟩ | ⟨b, o, c, news, rfl, h1, h2, h3, h4⟩
    · refine ⟨a, c, [], rfl, by simp, by simp [Ones], fun W _ => ?_, fun j x h => absurd h (hno j x)⟩
      cases a <;> simp [Builtin.firstCells, loadCells, loadCellsFrom]
    · refine ⟨some ⟨b, o, none⟩, c, news, rfl, h1, h2, fun W hW => ?_, fun j x hx => h4 j x hx⟩
      exact run_firstCells_some (P := P) W sz m ⟨b, o, none⟩ m c news h1 (fun j q hj => by
        rw [Addr.add_lit]
        have h5 := h3 j q hj
        rw [hW _ (by exact World.block_lt_of_cell? w _ h5), h5])
  subst hu2
  by_cases hm0 : m = 0
  · subst hm0
    have hl' : l' = [] := List.eq_nil_of_length_eq_zero hm
    subst hl'
    have hc := hnc w (fun _ _ => rfl)
    have hnn : news = [] := by simpa using hnl
    subst hnn
    have hrun : (execOp a.eval o).run P w = .ok (.value (.slice (some ⟨b, off, none⟩) n n)) w := by
      simp [execOp, h, resolve, invoke, builtin, Builtin.append_, r1.val, hve, run_underlying hu, sizeOf, typeInfo, q1, q2, Builtin.lenOf, hc, storeCells]
    simp only [Oper.wp, hrun, Oper.upon]
    refine hN _ κ w (Step.refl _ κ w) hinv ?_ (fun p hp => by cases hp)
    rw [List.append_nil]
    exact hbase
  obtain ⟨olds, hol, hof, hfo⟩ : ∃ olds : List Value, olds.length = n * sz ∧ (∀ j x, rowF e (l.take n) j x → j < n → ∃ q : Value, RdD (Own κ) w x q ∧ q.cells.size = sz ∧ Ones q.cells.toList ∧ ∀ l, l < sz → olds[j * sz + l]? = q.cells[l]?) ∧
      (Builtin.firstCells sz n (.slice (some ⟨b, off, none⟩) n n)).run P w.drew = .ok olds.toArray w.drew := by
    rcases hrb with ⟨rfl, hno, _⟩ | ⟨b2, o2, c2, olds, he, g1, g2, g3, g4⟩
    · exact ⟨[], by simp, fun j x _ hj => absurd hj (by omega), run_firstCells_some (P := P) w.drew sz 0 ⟨b, off, none⟩ 0 0 [] (by simp) (fun j v hj => by simp at hj)⟩
    · cases he
      exact ⟨olds, g1, fun j x hx _ => (g4 j x hx).2, run_firstCells_some (P := P) w.drew sz n ⟨b, off, none⟩ n n olds g1 (fun j v hj => by
        have := g3 j v hj
        rw [Addr.add_lit]; simpa using this)⟩
  have hcap : n + m ≤ grownCap w (n + m) n et := grownCap_ge w (n + m) n et
  have h48 : ¬ (281474976710656 < Builtin.nextslicecap (n + m) n * ii.bytes) := by
    have := growslice_fits (need := n + m) (old := n) (bytes := ii.bytes) (by omega) (by rw [q3]; exact hbytes)
    omega
  have h63' : ¬ (9223372036854775807 < (n : Int) + (m : Int)) := by omega
  have hroom : ¬ n + m ≤ n := by omega
  have hc := hnc w.drew (fun _ _ => rfl)
  obtain ⟨w', hw'⟩ : ∃ w', w.drew.alloc (.cells (olds.toArray ++ news.toArray ++ Builtin.zeroCells zv.cells (grownCap w (n + m) n et - (n + m))) et) = w' := ⟨_, rfl⟩
  have hrun : (execOp a.eval o).run P w = .ok (.value (.slice (some ⟨w.heap.size, 0, none⟩) (n + m) (grownCap w (n + m) n et))) w' := by
    rw [← hw']
    simp [execOp, h, resolve, invoke, builtin, Builtin.append_, r1.val, hve, run_underlying hu, sizeOf, typeInfo, zeroValue, q4, q1, q2, Builtin.lenOf, hm0, h63', h48, Question.forced, hfo, hc, newRow, grownCap]
    rw [if_neg hroom]
    have ea : ∀ Z : Array Value, olds.toArray ++ (news.toArray ++ Z) = (olds ++ news).toArray ++ Z := fun Z => by apply Array.ext'; simp
    rw [ea]
  have g0 : Grew w w' := by rw [← hw']; exact (Grew.drew w).trans (Grew.alloc _ _)
  obtain ⟨st, inv⟩ := step_grew hinv g0
  have hblk : w'.heap[w.heap.size]? = some (.cells (olds ++ news ++ (Builtin.zeroCells zv.cells (grownCap w (n + m) n et - (n + m))).toList).toArray et) := by
    rw [← hw']
    have : (w.drew.alloc (.cells (olds.toArray ++ news.toArray ++ Builtin.zeroCells zv.cells (grownCap w (n + m) n et - (n + m))) et)).heap[w.heap.size]? = some (.cells (olds.toArray ++ news.toArray ++ Builtin.zeroCells zv.cells (grownCap w (n + m) n et - (n + m))) et) := heap_alloc_new w.drew _
    rw [this]
    congr 2
    apply Array.ext'
    simp
  have hsz : w.heap.size < w'.heap.size := by rw [← hw']; simp
  simp only [Oper.wp, hrun, Oper.upon]
  refine hN _ κ w' (st.weaken (fun _ h => h.elim)) inv ?_ (fun p hp => by cases hp)
  simp only [Rd, RdD]
  have hlen : (l.take n ++ l').length = n + m := by rw [List.length_append, htl, hm]
  refine .inr ⟨w.heap.size, 0, grownCap w (n + m) n et, by rw [hlen], by rw [hlen]; exact hcap, ?_, hsz, fun j hj => ?_⟩
  · rintro (⟨k, hk⟩ | hk)
    · exact Nat.lt_irrefl _ (hinv.bnd k _ hk)
    · exact Nat.lt_irrefl _ (hinv.mbnd _ hk)
  · rw [hlen] at hj
    by_cases hjn : j < n
    · obtain ⟨qv, g1, g2, g3, g4⟩ := hof j (e (l.take n)[j]) ⟨by omega, rfl⟩ hjn
      refine ⟨qv, by rw [List.getElem_append_left (by omega)]; exact RdD.keep st.keeps _ _ g1, g2, g3, fun p hp => ?_⟩
      have : (j + 1) * sz ≤ n * sz := Nat.mul_le_mul_right sz (by omega)
      rw [Nat.add_mul, Nat.one_mul] at this
      rw [cell_of_row w' _ _ _ et (0, 0) hblk, List.getElem?_toArray, List.append_assoc, List.getElem?_append_left (by omega), Nat.zero_add]
      exact g4 p hp
    · obtain ⟨_, qv, g1, g2, g3, g4⟩ := hng (j - n) (e (l'[j - n]'(by omega))) ⟨by omega, rfl⟩
      refine ⟨qv, ?_, g2, g3, fun p hp => ?_⟩
      · rw [List.getElem_append_right (by omega)]
        simp only [htl]
        exact RdD.keep st.keeps _ _ g1
      · have e1 : j * sz = n * sz + (j - n) * sz := by rw [← Nat.add_mul]; congr 1; omega
        have : (j - n + 1) * sz ≤ m * sz := Nat.mul_le_mul_right sz (by omega)
        rw [Nat.add_mul, Nat.one_mul] at this
        rw [cell_of_row w' _ _ _ et (0, 0) hblk, List.getElem?_toArray, List.append_assoc, List.getElem?_append_right (by omega), List.getElem?_append_left (by omega), ← g4 p hp]
        congr 1
        omega
theorem good_move_d {P : Program} {o : Oper} {s : SS} (q : Nat) {sz : Nat} {α : Type} {e : α → SV} {l : List α} {v : Value} {x : Operand} (h : o.op = .move x ∨ o.op = .assign x) (hx : ev s x = .val v) (hq : s.h q = .dat v sz e l) : Good P o s ⟨.sl sz e l, [q], []⟩ :=
  Good.pure fun κ a w _ hr ho => by
    have hq1 := ho q (by simp)
    rw [hq] at hq1
    have hr1 := hr x (by rcases h with h | h <;> simp [h, Op.operands])
    rw [hx] at hr1
    refine ⟨a.eval x, ?_, ?_⟩
    · rcases h with h | h <;> simp [execOp, h]
    · rw [hr1.val]; exact hq1
theorem fill_congr {f g : Nat → Option (Nat × Nat)} : ∀ (ps : List (Nat × Value)) (cs : Array Value), (∀ p ∈ ps, f p.1 = g p.1) → Instr.fill f cs ps = Instr.fill g cs ps
  | [], cs, _ => rfl
  | (i, v) :: ps, cs, h => by
    have h1 := h (i, v) (by simp)
    simp only [Instr.fill]
    dsimp only at h1
    rw [h1]
    cases g i with
    | none => rfl
    | some os =>
      dsimp only
      split
      · rfl
      · exact fill_congr ps _ (fun p hp => h p (by simp [hp]))
theorem good_buildA {P : Program} (Γ : Ty P) {o : Oper} {s : SS} {t et : TypeId} {ti : TI} {len esz : Nat} {ps : List (Nat × Operand)} {out : List SV} (h : o.op = .build t ps.toArray) (ht : Γ.get t = some ti) (hk : ti.k = .array et len esz)
    (h1 : onesB ti.zero = true) (hps : (ps.all fun p => Nat.blt p.1 len) = true) (hf : fillS ((List.range len).map fun i => (i * esz, esz)) (ti.zero.map .val) (ps.map fun p => (p.1, ev s p.2)) = some out) : Good P o s ⟨.agg out, [], []⟩ :=
  Good.pure fun κ a w _ hr _ => by
    obtain ⟨d, info, z, k1, k2, k3, k4, k5, k6⟩ := Γ.ok t ti ht
    obtain ⟨hu, i, q1, q2⟩ := arr_elem Γ ht hk
    have hops : ∀ p ∈ ps, Rd κ w (ev s p.2) (a.eval p.2) := fun p hp => hr p.2 (by
      simp only [h, Op.operands]
      simp only [List.mem_toArray, List.mem_map]
      exact ⟨p, hp, rfl⟩)
    obtain ⟨r, r1, r2, r3⟩ := fill_ok (κ := κ) (w := w) (a := a) ps _ out z.cells (by rw [k6]; exact Rd_vals _) (by rw [k6]; exact onesB_ok h1) hops hf
    refine ⟨.agg r, ?_, ?_⟩
    · have hcg := fill_congr (f := fun i => some (i * esz, esz)) (g := fun i => ((List.range len).map fun i => (i * esz, esz))[i]?) (ps.map fun p => (p.1, a.eval p.2)) z.cells (fun p hp => by
        obtain ⟨x, hx, rfl⟩ := List.mem_map.1 hp
        have hlt : x.1 < len := Nat.le_of_ble_eq_true (List.all_eq_true.1 hps x hx)
        dsimp only
        rw [List.getElem?_map, List.getElem?_range hlt]
        rfl)
      simp only [execOp, h, Sem.run_bind, Instr.build, zeroValue, typeInfo, run_program, Result.andThen_ok, k3, k5, Sem.run_pure, run_underlying hu, sizeOf, q1, q2, List.map_toArray]
      rw [hcg, r1]
      simp
    · simp only [Rd]
      exact ⟨r.toList, by simp, r3, r2⟩
mutual
def rnb (k d : Nat) : SV → SV
  | .ptr j o => bif Nat.beq j k then .ptr d o else .ptr j o
  | .agg l => .agg (rnbL k d l)
  | .tup l => .tup (rnbL k d l)
  | .ifc t y => .ifc t (rnb k d y)
  | .clo f g l => .clo f (rnbL k d g) (rnbL k d l)
  | y => y
def rnbL (k d : Nat) : List SV → List SV
  | [] => []
  | y :: l => rnb k d y :: rnbL k d l
end
mutual
theorem rnb_ok {κ κ' : Ka} {w : World} {K : Nat → Prop} {k d : Nat} (st : Step K κ w κ' w) (hx : ∀ o v, Rd κ w (.ptr k o) v → Rd κ' w (.ptr d o) v) : ∀ (y : SV) (v : Value), Rd κ w y v → Rd κ' w (rnb k d y) v
  | .ptr j o, v, h => by
    unfold rnb
    by_cases hk : j = k
    · subst hk; rw [show Nat.beq j j = true from Nat.beq_refl j]; exact hx o v h
    · rw [show Nat.beq j k = false from by cases hb : Nat.beq j k with | false => rfl | true => exact absurd (Nat.eq_of_beq_eq_true hb) hk]; exact Rd.step st _ _ h
  | .agg l, v, h => by
    simp only [Rd] at h
    unfold rnb
    simp only [Rd]
    obtain ⟨cs, h1, h2, h3⟩ := h
    exact ⟨cs, h1, h2, rnbL_ok st hx l cs h3⟩
  | .tup l, v, h => by
    simp only [Rd] at h
    unfold rnb
    simp only [Rd]
    obtain ⟨cs, h1, h3⟩ := h
    exact ⟨cs, h1, rnbL_ok st hx l cs h3⟩
  | .ifc t y, v, h => by
    simp only [Rd] at h
    unfold rnb
    simp only [Rd]
    obtain ⟨u, h1, h3⟩ := h
    exact ⟨u, h1, rnb_ok st hx y u h3⟩
  | .clo f g l, v, h => by
    simp only [Rd] at h
    unfold rnb
    simp only [Rd]
    obtain ⟨fs, cs, h1, h2, h3⟩ := h
    exact ⟨fs, cs, h1, rnbL_ok st hx g fs h2, rnbL_ok st hx l cs h3⟩
  | .top, v, h => by unfold rnb; exact Rd.step st _ _ h
  | .val u, v, h => by unfold rnb; exact Rd.step st _ _ h
  | .sl sz e l, v, h => by unfold rnb; exact Rd.step st _ _ h
  | .ref sz z o, v, h => by unfold rnb; exact Rd.step st _ _ h
  | .rpt k sz i o, v, h => by unfold rnb; exact Rd.step st _ _ h
  | .osl k, v, h => by unfold rnb; exact Rd.step st _ _ h
theorem rnbL_ok {κ κ' : Ka} {w : World} {K : Nat → Prop} {k d : Nat} (st : Step K κ w κ' w) (hx : ∀ o v, Rd κ w (.ptr k o) v → Rd κ' w (.ptr d o) v) : ∀ (l : List SV) (vs : List Value), RdL κ w l vs → RdL κ' w (rnbL k d l) vs
  | [], vs, h => by
    unfold rnbL
    simpa [RdL] using h
  | y :: l, vs, h => by
    simp only [RdL] at h
    unfold rnbL
    simp only [RdL]
    obtain ⟨v, r, h1, h2, h3⟩ := h
    exact ⟨v, r, h1, rnb_ok st hx y v h2, rnbL_ok st hx l r h3⟩
end
def rnbO (k d : Nat) : Ob → Ob
  | .box l => .box (rnbL k d l)
  | o => o
theorem step_overB {κ : Ka} {w : World} {k d b : Nat} (hi : Inv κ w) (hk : κ k = .blk b) (hd : κ d = .new) :
    Step (fun j => j = k ∨ j = d) κ w (setK (setK κ k .dead) d (.blk b)) w ∧ Inv (setK (setK κ k .dead) d (.blk b)) w := by
  have hkd : k ≠ d := fun e => by subst e; rw [hk] at hd; cases hd
  have hkb : (κ k).block? = some b := by rw [hk]; rfl
  have key : ∀ j c, ((setK (setK κ k .dead) d (.blk b)) j).block? = some c → (j = d ∧ c = b) ∨ (j ≠ d ∧ j ≠ k ∧ (κ j).block? = some c) := by
    intro j c h
    by_cases hj : j = d
    · subst hj; rw [setK_self] at h; exact .inl ⟨rfl, by simpa [Ent.block?] using h.symm⟩
    · rw [setK_ne _ _ hj] at h
      by_cases hj2 : j = k
      · subst hj2; rw [setK_self] at h; cases h
      · rw [setK_ne _ _ hj2] at h; exact .inr ⟨hj, hj2, h⟩
  refine ⟨⟨Nat.le_refl _, rfl, rfl, rfl, rfl, fun _ _ => rfl, fun _ _ _ => rfl, fun _ _ _ _ => rfl, fun j hj => ?_, ?_, ?_⟩, ⟨?_, ?_, ?_, fun c h => hi.mbnd c h⟩⟩
  · rw [setK_ne _ _ (fun e => hj (.inr e)), setK_ne _ _ (fun e => hj (.inl e))]
  · rintro j (rfl | rfl)
    · exact .inr (.inr (by rw [setK_ne _ _ hkd, setK_self]))
    · exact .inl hd
  · rintro c (⟨j, hj⟩ | hj)
    · rcases key j c hj with ⟨_, rfl⟩ | ⟨_, _, h⟩
      · exact .inl (.inl ⟨k, hkb⟩)
      · exact .inl (.inl ⟨j, h⟩)
    · exact .inl (.inr hj)
  · intro i j c h1 h2
    rcases key i c h1 with ⟨a1, a2⟩ | ⟨a1, a2, a3⟩ <;> rcases key j c h2 with ⟨b1, b2⟩ | ⟨b1, b2, b3⟩
    · exact a1.trans b1.symm
    · subst a2; exact absurd (hi.inj j k _ b3 hkb) b2
    · subst b2; exact absurd (hi.inj i k _ a3 hkb) a2
    · exact hi.inj i j c a3 b3
  · intro j c h
    rcases key j c h with ⟨_, rfl⟩ | ⟨_, _, h⟩
    · exact hi.bnd k _ hkb
    · exact hi.bnd j c h
  · intro j c h
    rcases key j c h with ⟨_, rfl⟩ | ⟨_, _, h⟩
    · exact hi.apart k _ hkb
    · exact hi.apart j c h
theorem G_renameB {C : Cx} {kk : List KI} {s : SS} (k d : Nat) {l : List SV} (h : s.h k = .box l) (hd : s.h d = .fresh) (hkd : k ≠ d)
    (hg : G C kk ⟨fun i => rnb k d (s.σ i), upd (fun j => bif Nat.beq j k then .non else rnbO k d (s.h j)) d (.box (rnbL k d l))⟩) : G C kk s := fun κ a w hs => by
  have hob := hs.obj k
  rw [h] at hob
  have hnew : κ d = .new := by have := hs.obj d; rwa [hd] at this
  obtain ⟨b, cs, T, fr, e1, e2, e3, e4, e5⟩ := hob
  obtain ⟨st, inv⟩ := step_overB hs.inv e1 hnew
  have hne : ∀ j, j ≠ k → j ≠ d → (setK (setK κ k .dead) d (.blk b)) j = κ j := fun j h1 h2 => by rw [setK_ne _ _ h2, setK_ne _ _ h1]
  have hv : ∀ o v, Rd κ w (.ptr k o) v → Rd (setK (setK κ k .dead) d (.blk b)) w (.ptr d o) v := fun o v hv => by
    simp only [Rd, e1] at hv
    simp only [Rd, setK_self]
    exact hv
  refine hg _ a w ⟨hs.defers, hs.size, inv, hs.ctx.step inv st, fun j => rnb_ok st hv _ _ (hs.slot j), fun j => ?_⟩
  show ObOK _ w j (upd (fun j => bif Nat.beq j k then .non else rnbO k d (s.h j)) d (.box (rnbL k d l)) j)
  by_cases hj : j = d
  · subst hj
    rw [upd_self]
    exact ⟨b, cs, T, fr, setK_self _ _ _, e2, e3, e4, rnbL_ok st hv l cs e5⟩
  · rw [upd_ne _ _ hj]
    by_cases hj2 : j = k
    · subst hj2; rw [show Nat.beq j j = true from Nat.beq_refl j]; trivial
    · rw [show Nat.beq j k = false from by cases hb : Nat.beq j k with | false => rfl | true => exact absurd (Nat.eq_of_beq_eq_true hb) hj2]
      have hb := ObOK.step st (fun e => e.elim hj2 hj) _ (hs.obj j)
      have h0 := hs.obj j
      show ObOK _ w j (rnbO k d (s.h j))
      cases hh : s.h j with
      | box m =>
        rw [hh] at h0 hb
        obtain ⟨b2, cs2, T2, fr2, f1, f2, f3, f4, f5⟩ := h0
        exact ⟨b2, cs2, T2, fr2, (hne j hj2 hj).trans f1, f2, f3, f4, rnbL_ok st hv m cs2 f5⟩
      | fresh => rw [hh] at hb; exact hb
      | non => rw [hh] at hb; exact hb
      | row sz' e' l' => rw [hh] at hb; exact hb
      | lit sz' svs => rw [hh] at hb; exact hb
      | glob sz' x' g' => rw [hh] at hb; exact hb
      | pin b' n' cap' sz' e' l' => rw [hh] at hb; exact hb
      | dat v' sz' e' l' => rw [hh] at hb; exact hb
end Go.Sy

namespace Go.Sy
theorem VwL.get {s : SS} {V : List Nat} : ∀ {l m : List SV} (_ : VwL s V l m) {i : Nat} {y : SV}, getI m i = some y → ∃ x, getI l i = some x ∧ Vw s V x y
  | _, _, .nil, i, y, h => by cases i <;> simp [getI] at h
  | _, _, .cons (x := x) h0 hs, 0, y, h => by
    simp only [getI, Option.some.injEq] at h
    subst h
    exact ⟨x, rfl, h0⟩
  | _, _, .cons h0 hs, i + 1, y, h => VwL.get hs (i := i) h
theorem VwL.len {s : SS} {V : List Nat} : ∀ {l m : List SV} (_ : VwL s V l m), m.length = l.length
  | _, _, .nil => rfl
  | _, _, .cons _ hs => by simp [VwL.len hs]
theorem dataL_get : ∀ {l : List SV} {i : Nat} {x : SV}, dataL l = true → getI l i = some x → x.data = true
  | [], i, x, _, h => by cases i <;> simp [getI] at h
  | y :: l, 0, x, hd, h => by
    simp only [getI, Option.some.injEq] at h
    subst h
    simp only [dataL, Bool.and_eq_true] at hd
    exact hd.1
  | y :: l, i + 1, x, hd, h => by
    simp only [dataL, Bool.and_eq_true] at hd
    exact dataL_get hd.2 (i := i) h
theorem G_litV {C : Cx} {k : List KI} {s : SS} (d : Nat) {sz : Nat} {svs : List SV} (svs' : List SV) (h : s.h d = .lit sz svs) (hv : VwL s [] svs svs') (hd : dataL svs' = true) (hg : G C k ⟨s.σ, upd s.h d (.lit sz svs')⟩) : G C k s := fun κ a w hs => by
  refine hg κ a w ⟨hs.defers, hs.size, hs.inv, hs.ctx, hs.slot, fun j => ?_⟩
  show ObOK κ w j (upd s.h d (.lit sz svs') j)
  by_cases hj : j = d
  · subst hj
    rw [upd_self]
    have hob := hs.obj j
    rw [h] at hob
    have hlen := hv.len
    obtain ⟨b, cap, cs, T, fr, e1, e2, e3, e4, e5, e6⟩ := hob
    refine ⟨b, cap, cs, T, fr, by rw [hlen]; exact e1, e2, e3, e4, by omega, fun i x hx => ?_⟩
    obtain ⟨y, hy, hvw⟩ := hv.get hx
    obtain ⟨f1, u, f2, f3⟩ := e6 i y hy
    exact ⟨by omega, u, Rd.data _ _ (dataL_get hd hx) (hvw.rd hs.inv (fun n hn => by cases hn) f2.toRd), f3⟩
  · rw [upd_ne _ _ hj]; exact hs.obj j
end Go.Sy

namespace Go.Sy
theorem RdL.setI {κ : Ka} {w : World} {x : SV} {v : Value} (hx : Rd κ w x v) : ∀ {l : List SV} {cs : List Value} (i : Nat), RdL κ w l cs → RdL κ w (l.set i x) (cs.set i v)
  | [], cs, i, h => by simp only [RdL] at h; subst h; simp [RdL]
  | y :: l, cs, 0, h => by
    simp only [RdL] at h
    obtain ⟨u, r, rfl, h1, h2⟩ := h
    simp only [List.set_cons_zero, RdL]
    exact ⟨v, r, rfl, hx, h2⟩
  | y :: l, cs, i + 1, h => by
    simp only [RdL] at h
    obtain ⟨u, r, rfl, h1, h2⟩ := h
    simp only [List.set_cons_succ, RdL]
    exact ⟨u, _, rfl, h1, h2.setI hx i⟩
theorem box_setCell {κ : Ka} {w : World} {k : Nat} {l : List SV} (hi : Inv κ w) (h : ObOK κ w k (.box l)) {off : Nat} {x : SV} {v : Value} (hx : x.plain = true) (hv : ∀ κ w, Rd κ w x v) (h1 : v.oneCell' = true) :
    ∃ b, κ k = .blk b ∧ (∀ j y, getI l j = some y → ∃ u, w.cell? ⟨b, j, none⟩ = some u ∧ Rd κ w y u) ∧ (∀ j, j < l.length → w.frozen? ⟨b, j, none⟩ = false) ∧
      Step (· = k) κ w κ (w.setCell ⟨b, off, none⟩ v) ∧ Inv κ (w.setCell ⟨b, off, none⟩ v) ∧ ObOK κ (w.setCell ⟨b, off, none⟩ v) k (.box (l.set off x)) := by
  obtain ⟨b, cs, T, fr, e1, e2, e3, e4, e5⟩ := h
  have hsame : (w.setCell ⟨b, off, none⟩ v).heap[b]? = some (.cells (cs.set off v).toArray T fr) := by
    simp [World.setCell, Array.getElem?_modify, e2]
  have hoth : ∀ j, j ≠ b → (w.setCell ⟨b, off, none⟩ v).heap[j]? = w.heap[j]? := fun j hj => heap_setCell_other w ⟨b, off, none⟩ j v hj
  obtain ⟨st, inv⟩ := step_write (w' := w.setCell ⟨b, off, none⟩ v) hi (k := k) (b := b) (by rw [e1]; rfl) rfl rfl rfl (by simp) hoth
  have hlen := e5.length
  refine ⟨b, e1, fun j y hy => ?_, fun j hj => ?_, st, inv, b, _, T, fr, e1, hsame, by rw [List.length_set]; exact e3, ?_, (RdL.step st _ _ e5).setI (hv _ _) off⟩
  · obtain ⟨u, hu, hr⟩ := e5.get hy
    exact ⟨u, by rw [cell_of_row w b j cs.toArray T fr e2, List.getElem?_toArray]; exact hu, hr⟩
  · obtain ⟨lo, hi'⟩ := fr
    simp only [World.frozen?, e2]
    rcases e3 with h | h
    · simp only at h; subst h; simp
    · simp only at h; simp; omega
  · intro c hc
    rcases List.mem_or_eq_of_mem_set hc with h | h
    · exact e4 c h
    · rw [h]; exact h1
theorem good_ext_load {P : Program} {o : Oper} {s : SS} {f : FuncId} {ik : IntKind} {ts : Array TypeId} {x : Operand} {k off : Nat} {l : List SV} {v : Int}
    (hf : ∀ (a : Addr) (x : Int) (w : World), w.cell? a = some (.int ik x) → (callFunc f #[.pointer (some a)]).run P w = .ok (.value (.int ik x)) w)
    (h : o.op = .call ⟨.value (.func f), #[x], ts⟩) (hx : ev s x = .ptr k off) (hk : s.h k = .box l) (hy : getI l off = some (.val (.int ik v))) : Good P o s ⟨.val (.int ik v), [k], []⟩ :=
  Good.pure fun κ a w hi hr ho => by
    have h1 := hr x (by simp [h, Op.operands, Call.operands])
    rw [hx] at h1
    have h2 := ho k (by simp)
    rw [hk] at h2
    obtain ⟨b, cs, T, fr, e1, e2, e3, e4, e5⟩ := h2
    simp only [Rd, e1] at h1
    obtain ⟨u, hu, hr2⟩ := e5.get hy
    have hc : w.cell? ⟨b, off, none⟩ = some (.int ik v) := by rw [cell_of_row w b off cs.toArray T fr e2, List.getElem?_toArray, hu, hr2.val]
    have hrun := hf ⟨b, off, none⟩ v w hc
    refine ⟨.int ik v, ?_, by simp only [Rd]⟩
    have hev : a.eval (.func f) = .func (.func f) #[] #[] := rfl
    simp [execOp, h, resolve, hev, Deferred.ofValue, invoke, h1, hrun]
theorem good_ext_add {P : Program} {o : Oper} {s : SS} {f : FuncId} {ts : Array TypeId} {x y : Operand} {k off : Nat} {l : List SV} {v d : Int}
    (hf : ∀ (a : Addr) (x y : Int) (w : World), w.cell? a = some (.int .i64 x) → w.frozen? a = false → (callFunc f #[.pointer (some a), .int .i64 y]).run P w = .ok (.value (.int .i64 (IntKind.i64.wrap (x + y)))) (w.setCell a (.int .i64 (IntKind.i64.wrap (x + y)))))
    (h : o.op = .call ⟨.value (.func f), #[x, y], ts⟩) (hx : ev s x = .ptr k off) (hy : ev s y = .val (.int .i64 d)) (hk : s.h k = .box l) (hl : getI l off = some (.val (.int .i64 v))) (hv : IntKind.i64.wrap (v + d) = v + d) :
    Good P o s ⟨.val (.int .i64 (v + d)), [], [(k, .box (l.set off (.val (.int .i64 (v + d)))))]⟩ := by
  intro κ a w hi hr ho N Q hN
  have h1 := hr x (by simp [h, Op.operands, Call.operands])
  have h2 := hr y (by simp [h, Op.operands, Call.operands])
  rw [hx] at h1
  rw [hy] at h2
  have h3 := ho k (.inr (by simp [Up.ws]))
  rw [hk] at h3
  obtain ⟨b, e1, c1, c2, st, inv, ob⟩ := box_setCell (off := off) (x := .val (.int .i64 (v + d))) (v := .int .i64 (v + d)) hi h3 rfl (fun _ _ => by simp only [Rd]) rfl
  simp only [Rd, e1] at h1
  obtain ⟨u, hu, hr2⟩ := c1 off _ hl
  rw [hr2.val] at hu
  have hrun := hf ⟨b, off, none⟩ v d w hu (c2 off (getI_lt hl))
  rw [hv] at hrun
  have hrun2 : (execOp a.eval o).run P w = .ok (.value (.int .i64 (v + d))) (w.setCell ⟨b, off, none⟩ (.int .i64 (v + d))) := by
    have hev : a.eval (.func f) = .func (.func f) #[] #[] := rfl
    simp [execOp, h, resolve, hev, Deferred.ofValue, invoke, h1, h2.val, hrun]
  simp only [Oper.wp, hrun2, Oper.upon]
  refine hN _ κ _ (st.weaken (by simp [Up.ws])) inv (by simp only [Rd]) (fun p hp => ?_)
  simp only [List.mem_singleton] at hp
  subst hp
  exact ob
end Go.Sy

namespace Go.Sy
theorem good_copy_pin {P : Program} (Γ : Ty P) {o : Oper} {s : SS} (q : Nat) {t : TypeId} {ti : TI} {et : TypeId} {eb b n cap lo k c1 c2 : Nat} {ez : List Value} {x y : Operand} {α : Type} {e : α → SV} {l : List α} {B B2 : Option Addr}
    (h : o.op = .call ⟨.builtin .copy, #[x, y], #[t, t]⟩) (ht : Γ.get t = some ti) (hk : ti.k = .slice et 1 eb ez) (hx : ev s x = .val (.slice B (n - lo) c1)) (hB : B = some ⟨b, lo, none⟩) (hy : ev s y = .val (.slice B2 k c2)) (hB2 : B2 = some ⟨b, 0, none⟩)
    (hq : s.h q = .pin b n cap 1 e l) (hl : l.length = n) (hk2 : k ≤ n) (hpos : 0 < min k (n - lo)) :
    Good P o s ⟨.val (.int .i64 (min k (n - lo) : Nat)), [], [(q, .pin b n cap 1 e (l.take lo ++ l.take (min k (n - lo)) ++ l.drop (lo + min k (n - lo))))]⟩ := by
  intro κ a w hinv hr ho N Q hN
  have r1 := hr x (by simp [h, Op.operands, Call.operands])
  have r2 := hr y (by simp [h, Op.operands, Call.operands])
  rw [hx] at r1
  rw [hy] at r2
  subst hB
  subst hB2
  have hob := ho q (.inr (by simp [Up.ws]))
  rw [hq] at hob
  obtain ⟨e0, b', cap', cs, T, fr, e1, e2, e3, e4, e5, e6⟩ := hob
  rw [e0] at e1
  cases e1
  obtain ⟨hu, ii, zv, q1, q2, q3, q4, q5⟩ := slice_elem Γ ht hk
  obtain ⟨mn, hmn⟩ : ∃ mn, min k (n - lo) = mn := ⟨_, rfl⟩
  rw [hmn] at hpos hN
  have hnc : n ≤ cs.length := by omega
  have hall : ∀ i, i < n → ∃ u : Value, u.cells.size = 1 ∧ Ones u.cells.toList ∧ ∀ j, j < 1 → cs[i * 1 + j]? = u.cells[j]? := fun i hi => by
    obtain ⟨_, u, _, u2⟩ := e6 i (e l[i]) ⟨by omega, rfl⟩
    exact ⟨u, u2⟩
  obtain ⟨news, hnews⟩ : ∃ news, news = cs.take mn := ⟨_, rfl⟩
  have hnl : news.length = mn := by rw [hnews, List.length_take]; omega
  have hget : ∀ p, p < mn → news[p]? = cs[p]? := fun p hp => by rw [hnews, List.getElem?_take, if_pos hp]
  have hones : Ones news := fun v hv => by
    obtain ⟨p, hp, he⟩ := List.getElem_of_mem hv
    have h1 : news[p]? = some v := by rw [List.getElem?_eq_getElem hp, he]
    rw [hnl] at hp
    rw [hget p hp] at h1
    exact row_ones (n := n) hall (by omega) h1
  obtain ⟨w', f1, f2, f3, f4, f5, f6, f7⟩ := run_storeCells_nf P b lo T fr news 0 cs w e2 e3 (by omega) hones
  obtain ⟨st, inv⟩ := step_writeR hinv e0 f3 f4 f5 f6 f7
  have hcell : ∀ p v, cs[p]? = some v → w.cell? ⟨b, p, none⟩ = some v := fun p v hp => by simp [World.cell?, e2, hp]
  have hc := copy_some (P := P) w w' t t o.type et ⟨b, lo, none⟩ ⟨b, 0, none⟩ (n - lo) c1 k c2 news hu q1 q2 (by rw [hnl, hmn]) (fun j v hv => by
    rw [Addr.add_lit]
    have hlt : j < mn := by rw [← hnl]; exact (List.getElem?_eq_some_iff.1 hv).1
    rw [hget j hlt] at hv
    rw [Nat.zero_add]
    exact hcell _ _ hv) f1
  rw [hnl] at hc
  have hrun : (execOp a.eval o).run P w = .ok (.value (.int .i64 (mn : Nat))) w' := by
    simp [execOp, h, resolve, invoke, builtin, r1.val, r2.val, hc]
  simp only [Oper.wp, hrun, Oper.upon]
  refine hN _ κ w' (st.weaken (fun k hk => by subst hk; simp [Up.ws])) inv (by simp only [Rd]) (fun p hp => ?_)
  simp only [List.mem_singleton] at hp
  subst hp
  refine ⟨e0, b, cap, _, T, fr, e0, f2, by rw [setV_length]; exact e3, by rw [setV_length]; exact e4, e5, ?_⟩
  rintro i z ⟨hi0, rfl⟩
  have hset := setV_get cs news (lo + 0)
  have hlen : (l.take lo ++ l.take mn ++ l.drop (lo + mn)).length = n := by
    simp only [List.length_append, List.length_take, List.length_drop]; omega
  rw [hlen] at hi0
  have src : ∀ j (hj : j < l.length), ∃ u : Value, RdD (Own κ) w (e l[j]) u ∧ u.cells.size = 1 ∧ Ones u.cells.toList ∧ ∀ p, p < 1 → cs[j * 1 + p]? = u.cells[p]? := fun j hj => (e6 j (e l[j]) ⟨hj, rfl⟩).2
  by_cases hi1 : i < lo
  · obtain ⟨u, u1, u2, u3, u4⟩ := src i (by omega)
    refine ⟨hi0, u, ?_, u2, u3, fun p hp => ?_⟩
    · have : (l.take lo ++ l.take mn ++ l.drop (lo + mn))[i]'(by rw [hlen]; exact hi0) = l[i]'(by omega) := by
        rw [List.getElem_append_left (by simp only [List.length_append, List.length_take]; omega), List.getElem_append_left (by simp only [List.length_take]; omega), List.getElem_take]
      rw [this]
      exact RdD.keep st.keeps _ _ u1
    · rw [hset _ (by omega), if_neg (by omega), u4 p hp]
  · by_cases hi2 : i < lo + mn
    · obtain ⟨u, u1, u2, u3, u4⟩ := src (i - lo) (by omega)
      refine ⟨hi0, u, ?_, u2, u3, fun p hp => ?_⟩
      · have : (l.take lo ++ l.take mn ++ l.drop (lo + mn))[i]'(by rw [hlen]; exact hi0) = l[i - lo]'(by omega) := by
          rw [List.getElem_append_left (by simp only [List.length_append, List.length_take]; omega), List.getElem_append_right (by simp only [List.length_take]; omega), List.getElem_take]
          congr 1
          simp only [List.length_take]; omega
        rw [this]
        exact RdD.keep st.keeps _ _ u1
      · rw [hset _ (by omega), if_pos (by omega), hget _ (by omega), ← u4 p hp]
        congr 1
        omega
    · obtain ⟨u, u1, u2, u3, u4⟩ := src i (by omega)
      refine ⟨hi0, u, ?_, u2, u3, fun p hp => ?_⟩
      · have : (l.take lo ++ l.take mn ++ l.drop (lo + mn))[i]'(by rw [hlen]; exact hi0) = l[i]'(by omega) := by
          rw [List.getElem_append_right (by simp only [List.length_append, List.length_take]; omega), List.getElem_drop]
          congr 1
          simp only [List.length_append, List.length_take]; omega
        rw [this]
        exact RdD.keep st.keeps _ _ u1
      · rw [hset _ (by omega), if_neg (by omega), u4 p hp]
end Go.Sy

namespace Go.Sy.YtmelpejjondedaaGreat
open Go.Proofs
attribute [local irreducible] Go.Sy.G Go.Sy.DR
set_option maxRecDepth 100000
set_option maxHeartbeats 4000000
theorem and_mask (m : Nat) (h : m < 4294967296) : bits .and .u64 (m : Int) 4294967295 = (m : Int) := by
  have := bits_and_u64_nat m 4294967295 (by omega) (by decide)
  rw [show ((4294967295 : Nat) : Int) = 4294967295 from rfl] at this
  rw [this]
  have h2 := Nat.and_two_pow_sub_one_eq_mod m 32
  rw [show 2 ^ 32 - 1 = 4294967295 from rfl, show 2 ^ 32 = 4294967296 from rfl] at h2
  rw [h2, Nat.mod_eq_of_lt h]
theorem shr_32 (m : Nat) (h : m < 4294967296) : (m : Int).fdiv (2 ^ (min (Int.toNat 32) IntKind.u64.bits)) = 0 := by
  show (m : Int).fdiv 4294967296 = 0
  rw [Int.fdiv_eq_ediv_of_nonneg _ (by decide)]
  omega
theorem mul64S (m : Nat) (h : m < 4294967296) : Sy.Spec Tryz.prog 154 [u64SV 1, u64SV m] [] (.tup [u64SV 0, u64SV m]) [] := contract Γ hm 100 F154 Tryz.ntmps154 rfl fun F hF => by
  have e0 : bits .and .u64 1 4294967295 = 1 := and_mask 1 (by decide)
  have e1 : (1 : Int).fdiv (2 ^ (min (Int.toNat 32) IntKind.u64.bits)) = 0 := shr_32 1 (by decide)
  have e2 := and_mask m h
  have e3 := shr_32 m h
  have w1 : IntKind.u64.wrap (1 * (m : Int)) = m := by rw [IntKind.wrap_u64]; omega
  have w0 : IntKind.u64.wrap (0 * (m : Int)) = 0 := by rw [IntKind.wrap_u64]; omega
  have z0 : IntKind.u64.wrap (0 + 0) = 0 := rfl
  have a0 : bits .and .u64 0 4294967295 = 0 := and_mask 0 (by decide)
  have s0 : (0 : Int).fdiv (2 ^ (min (Int.toNat 32) IntKind.u64.bits)) = 0 := shr_32 0 (by decide)
  (conv=>whnf)
  rw [e0]
  refine ⟨by decide, ?_⟩
  rw [e1]
  (conv=>whnf)
  rw [e2]
  refine ⟨by decide, ?_⟩
  rw [e3]
  (conv=>whnf)
  rw [w1, w0]
  refine ⟨by decide, ?_⟩
  rw [e3]
  (conv=>whnf)
  rw [z0, a0]
  refine ⟨by decide, ?_⟩
  rw [s0]
  (conv=>whnf)
  refine ⟨by decide, ?_⟩
  (conv=>whnf)
  refine done0 rfl (.cons .tmp (.cons .tmp .nil)) ?_ rfl
  refine congrArg (fun z : Int => SV.tup [u64SV 0, u64SV z]) ?_
  exact w1.symm
theorem mulS (m : Nat) (h : m < 4294967296) : Sy.Spec Tryz.prog 83 [u64SV 1, u64SV m] [] (.tup [u64SV 0, u64SV m]) [] := contract Γ hm 100 F83 Tryz.ntmps83 rfl fun F hF => by
  ((conv=>whnf);refine aF ?_;refine rg ?_;(conv=>whnf))
  refine call0 (mul64S m h) F154 rfl rfl rfl rfl rfl ?_
  (refine rg ?_;(conv=>whnf))
  exact done0 rfl (.cons .tmp (.cons .tmp .nil)) rfl rfl
def repU (m k : Nat) : List Bool := List.replicate k true ++ List.replicate (m - k) false
theorem repU_length (m k : Nat) (h : k ≤ m) : (repU m k).length = m := by simp [repU]; omega
theorem repU_all (m : Nat) : repU m m = List.replicate m true := by simp [repU]
theorem repU_copy (m k c : Nat) (h : k ≤ m) (hc : c = min k (m - k)) : (repU m k).take k ++ (repU m k).take c ++ (repU m k).drop (k + c) = repU m (k + c) := by
  have e1 : (repU m k).take k = List.replicate k true := by
    rw [repU, List.take_append_of_le_length (by simp)]; simp
  have e2 : (repU m k).take c = List.replicate c true := by
    rw [repU, List.take_append_of_le_length (by simp; omega)]; simp; omega
  have e3 : (repU m k).drop (k + c) = List.replicate (m - (k + c)) false := by
    rw [repU, List.drop_append, List.drop_eq_nil_of_le (by simp), List.nil_append]
    simp
    omega
  rw [e1, e2, e3, repU, List.replicate_append_replicate]
theorem repeatS (m : Nat) (h : m < 2147483648) : Sy.Spec Tryz.prog 43 [.sl 1 boolSV [true], intSV m] [] (.sl 1 boolSV (List.replicate m true)) [] := contract Γ hm 100 F43 Tryz.ntmps43 rfl fun F hF => by
  have hw : IntKind.u64.wrap (m : Int) = m := by rw [IntKind.wrap_u64]; omega
  have hw2 : IntKind.i64.wrap (m : Int) = m := by rw [IntKind.wrap_i64]; omega
  have q := mulS m (by omega)
  rw [← hw] at q
  ((conv=>whnf);refine aF ?_;refine rg ?_;(conv=>whnf))
  refine call0 q F83 rfl rfl rfl rfl rfl ?_
  rw [hw]
  (refine rg ?_;(conv=>whnf);refine aF ?_;refine rg ?_;(conv=>whnf))
  refine ⟨fun h1 => absurd (of_decide_eq_true h1) (by omega), fun _ => ?_⟩
  (refine rg ?_;(conv=>whnf))
  rw [hw2]
  refine stepOp (good_makeSlice Γ.toTy (d := 30) (n := m) boolSV false rfl rfl rfl rfl rfl rfl rfl rfl (by omega) (by omega) rfl rfl rfl) rfl rfl ?_
  (refine rg ?_;(conv=>whnf))
  refine stepOp (good_copy Γ.toTy (l := List.replicate m false) (m := [true]) rfl rfl rfl rfl rfl .sl) rfl rfl ?_
  have e0 : [true].take (List.replicate m false).length ++ (List.replicate m false).drop [true].length = repU m (min 1 m) := by
    cases m with
    | zero => rfl
    | succ m => simp [repU, Nat.min_eq_left, List.replicate_succ]
  have e1 : min [true].length (List.replicate m false).length = min 1 m := by simp
  rw [e0, e1]
  (refine rg ?_;(conv=>whnf))
  refine G_while (fun k : Nat => min 1 m ≤ k ∧ k ≤ m) (fun k => [(7, .osl 30), (8, intSV k)]) (fun k => [(30, .row 1 boolSV (repU m k))]) (fun k => m - k) (min 1 m) [] (by omega) ⟨⟨rfl, rfl, rfl, rfl, trivial⟩, ⟨.inl rfl, rfl, trivial⟩, rfl, rfl⟩ ?_
  intro k hk
  have hl := repU_length m k hk.2
  (refine rg ?_;(conv=>whnf))
  refine ⟨fun h1 => ?_, fun h1 => ?_⟩
  · have hlt : k < m := by have := of_decide_eq_true h1; rw [hl] at this; omega
    clear h1
    have hk1 : 1 ≤ k := by omega
    have hne : repU m k ≠ [] := fun e => by rw [e] at hl; simp at hl; omega
    refine G_pin 30 [7] rfl hne (fun i hi => by simp at hi; subst hi; rfl) ?_
    intro b cap hc
    rw [hl] at hc ⊢
    have hcl : ¬ cap = k := by omega
    have hcp := repU_copy m k (min k (m - k)) hk.2 rfl
    (refine rg ?_;(conv=>whnf))
    refine stepD (good_slice_v (lo := k) (hi := m) Γ.toTy rfl rfl rfl rfl (.inr ⟨_, _, rfl, rfl⟩) (.inl ⟨rfl, rfl⟩) (by omega) (by omega)) (by kernel_rfl) rfl ?_
    (refine rd (by kernel_rfl) ?_;(conv=>whnf))
    refine stepD (good_slice_v (lo := 0) (hi := k) Γ.toTy rfl rfl rfl rfl (.inl ⟨rfl, rfl⟩) (.inr ⟨_, _, rfl, rfl⟩) (by omega) (by omega)) (by kernel_rfl) rfl ?_
    (refine rd (by kernel_rfl) ?_;(conv=>whnf))
    refine stepD (good_copy_pin Γ.toTy 30 (lo := k) (k := k) rfl rfl rfl rfl (by rw [if_neg hcl, Nat.mul_one]) rfl (by rw [if_neg (by omega), Nat.zero_mul]) rfl hl (by omega) (by omega)) (by kernel_rfl) rfl ?_
    (refine rd (by kernel_rfl) ?_;(conv=>whnf))
    refine ⟨by unfold I64; omega, ?_⟩
    (conv=>whnf)
    refine ⟨(by kernel_rfl), ?_⟩
    (conv=>whnf)
    refine G_unpin 30 31 [7] m rfl rfl (by rw [hcp, repU_length m _ (by omega)]; exact Nat.le_refl _) (fun i hi => by simp at hi; subst hi; rfl) ?_
    have hfin : ((repU m k).take k ++ (repU m k).take (min k (m - k)) ++ (repU m k).drop (k + min k (m - k))).take m = repU m (k + min k (m - k)) := by
      rw [hcp, List.take_of_length_le (by rw [repU_length m _ (by omega)]; exact Nat.le_refl _)]
    exact G_whileN (k + min k (m - k)) [(30, 31)] (by omega) (by omega) ⟨⟨rfl, rfl, rfl, rfl, trivial⟩, ⟨.inl (congrArg (Ob.row 1 boolSV) hfin.symm), rfl, trivial⟩, rfl, rfl⟩
  · have hkm : k = m := by have := of_decide_eq_false h1; rw [hl] at this; omega
    subst hkm
    rw [repU_all]
    (refine rg ?_;(conv=>whnf))
    refine G_data 30 rfl ?_
    exact done0 rfl (.cons .tmp .nil) rfl rfl
end Go.Sy.YtmelpejjondedaaGreat

namespace Go.Sy.YtmelpejjondedaaGreat
open Go.Proofs
attribute [local irreducible] Go.Sy.G Go.Sy.DR
set_option maxRecDepth 100000
set_option maxHeartbeats 4000000
def tabSV (t : List EntryM) : SV := .sl 3 entrySV t
def queSV (l : List QueuedM) : SV := .sl 7 queuedSV l
def simL (n : Net) (k : Nat) (now inj : Int) (d : Nat → Int) : List SV :=
  [.sl 5 deviceSV n.devices, .sl 7 portSV n.ports, .sl 3 linkSV n.links, .sl 6 domainSV n.domains, .sl 4 staticSV n.statics, .sl 4 floodSV n.floods, .sl 5 vrfSV n.vrfs, .sl 5 irbSV n.irbs, .ptr k 0, .osl 2, .osl 3, .val (.int .i64 now), .val (.int .i64 inj),
  .val (.int .i64 (d 0)), .val (.int .i64 (d 1)), .val (.int .i64 (d 2)), .val (.int .i64 (d 3)), .val (.int .i64 (d 4)), .val (.int .i64 (d 5)), .val (.int .i64 (d 6)), .val (.int .i64 (d 7)), .val (.int .i64 (d 8)), .val (.int .i64 (d 9)), .val (.int .i64 (d 10)), .val (.int .i64 (d 11)), .val (.int .i64 (d 12)), .val (.int .i64 (d 13)), .val (.int .i64 (d 14)), .val (.int .i64 (d 15)), .val (.int .i64 (d 16)), .val (.int .i64 (d 17)), .val (.int .i64 (d 18)), .val (.int .i64 (d 19)), .val (.int .i64 (d 20)), .val (.int .i64 (d 21)), .val (.int .i64 (d 22)), .val (.int .i64 (d 23)), .val (.int .i64 (d 24)), .val (.int .i64 (d 25)), .val (.int .i64 (d 26)), .val (.int .i64 (d 27)), .val (.int .i64 (d 28)), .val (.int .i64 (d 29)), .val (.int .i64 (d 30)), .val (.int .i64 (d 31)), .val (.int .i64 (d 32)), .val (.int .i64 (d 33)), .val (.int .i64 (d 34)), .val (.int .i64 (d 35)), .val (.int .i64 (d 36)), .val (.int .i64 (d 37)), .val (.int .i64 (d 38)), .val (.int .i64 (d 39)), .val (.int .i64 (d 40)), .val (.int .i64 (d 41)), .val (.int .i64 (d 42)), .val (.int .i64 (d 43)), .val (.int .i64 (d 44)), .val (.int .i64 (d 45)), .val (.int .i64 (d 46)), .val (.int .i64 (d 47)), .val (.int .i64 (d 48)), .val (.int .i64 (d 49)), .val (.int .i64 (d 50)), .val (.int .i64 (d 51)), .val (.int .i64 (d 52)), .val (.int .i64 (d 53)), .val (.int .i64 (d 54)), .val (.int .i64 (d 55)), .val (.int .i64 (d 56)), .val (.int .i64 (d 57)), .val (.int .i64 (d 58)), .val (.int .i64 (d 59)), .val (.int .i64 (d 60)), .val (.int .i64 (d 61)), .val (.int .i64 (d 62)), .val (.int .i64 (d 63))]
def onceL (up : List Bool) (done : Int) (fw : List Bool) : List SV := [.sl 1 boolSV up, .val (.int .u32 done), .val (.int .i32 0), .val (.int .u32 0), .sl 1 boolSV fw]
def onceX (n : Net) (up : List Bool) (d : Bool) : List SV := onceL up (if d then 1 else 0) (if d then fwOf n up else [])
def simH (n : Net) (m : MacM) (d : Bool) : Obs := [(0, .box (simL n 1 m.now m.injected m.drops)), (1, .box (onceX n m.up d)), (2, .row 1 tabSV m.tables), (3, .row 1 queSV m.queues)]
theorem getI_map (f : Nat → SV) : ∀ (k a n : Nat), k < n → getI ((List.range' a n).map f) k = some (f (a + k))
  | 0, a, n + 1, _ => rfl
  | k + 1, a, n + 1, h => by
    show getI ((List.range' (a + 1) n).map f) k = _
    rw [getI_map f k (a + 1) n (by omega)]
    congr 2; omega
theorem set_map (f : Nat → SV) (x : SV) : ∀ (k a n : Nat), ((List.range' a n).map f).set k x = (List.range' a n).map (fun i => if i = a + k then x else f i)
  | _, _, 0 => rfl
  | 0, a, n + 1 => by
    show x :: (List.range' (a + 1) n).map f = (if a = a + 0 then x else f a) :: (List.range' (a + 1) n).map _
    rw [if_pos (by omega)]
    congr 1
    apply List.map_congr_left
    intro i hi
    have := (List.mem_range'_1.1 hi).1
    rw [if_neg (by omega)]
  | k + 1, a, n + 1 => by
    show f a :: ((List.range' (a + 1) n).map f).set k x = (if a = a + (k + 1) then x else f a) :: (List.range' (a + 1) n).map _
    rw [if_neg (by omega), set_map f x k (a + 1) n]
    congr 1
    apply List.map_congr_left
    intro i _
    rw [show a + 1 + k = a + (k + 1) by omega]
theorem simL_split (n : Net) (k : Nat) (now inj : Int) (d : Nat → Int) : simL n k now inj d =
    .sl 5 deviceSV n.devices :: .sl 7 portSV n.ports :: .sl 3 linkSV n.links :: .sl 6 domainSV n.domains :: .sl 4 staticSV n.statics :: .sl 4 floodSV n.floods :: .sl 5 vrfSV n.vrfs :: .sl 5 irbSV n.irbs :: .ptr k 0 :: .osl 2 :: .osl 3 :: .val (.int .i64 now) :: .val (.int .i64 inj) ::
      (List.range' 0 64).map (fun i => .val (.int .i64 (d i))) := rfl
theorem simL_get (n : Net) (k : Nat) (now inj : Int) (d : Nat → Int) (e : Nat) (he : e < 64) : getI (simL n k now inj d) (13 + e) = some (.val (.int .i64 (d e))) := by
  rw [simL_split, Nat.add_comm]
  show getI ((List.range' 0 64).map (fun i => SV.val (.int .i64 (d i)))) e = _
  rw [getI_map _ e 0 64 he, Nat.zero_add]
theorem simL_set (n : Net) (k : Nat) (now inj : Int) (d : Nat → Int) (e : Nat) (v : Int) : (simL n k now inj d).set (13 + e) (.val (.int .i64 v)) = simL n k now inj (fun i => if i = e then v else d i) := by
  rw [simL_split, simL_split, Nat.add_comm]
  have h := set_map (fun i => SV.val (.int .i64 (d i))) (.val (.int .i64 v)) e 0 64
  have h2 : (fun i => if i = 0 + e then SV.val (.int .i64 v) else SV.val (.int .i64 (d i))) = (fun i => SV.val (.int .i64 (if i = e then v else d i))) := by
    funext i
    rw [Nat.zero_add]
    split <;> rfl
  rw [h2] at h
  rw [← h]
  rfl
theorem add64 (a : Addr) (x y : Int) (w : World) (hc : w.cell? a = some (.int .i64 x)) (hz : w.frozen? a = false) : (callFunc 257 #[.pointer (some a), .int .i64 y]).run Tryz.prog w = .ok (.value (.int .i64 (IntKind.i64.wrap (x + y)))) (w.setCell a (.int .i64 (IntKind.i64.wrap (x + y)))) :=
  run_call_add Tryz.func257 (by kernel_rfl) (by kernel_rfl) (by kernel_rfl) .i64 (by kernel_rfl) hc hz rfl
theorem simL_drop (n : Net) (k : Nat) (m : MacM) (e : Int) : simL n k m.now m.injected (dropT m e).drops = (simL n k m.now m.injected m.drops).set (13 + e.toNat) (.val (.int .i64 (m.drops e.toNat + 1))) := by
  rw [simL_set]
  congr 1
  funext i
  show (if i = e.toNat then m.drops i + 1 else m.drops i) = _
  split
  · rename_i h; rw [h]
  · rfl
theorem drops_wrap {x : Int} (h : 0 ≤ x ∧ x ≤ 1000000000000) : IntKind.i64.wrap (x + 1) = x + 1 := by
  rw [IntKind.wrap_i64]; omega
theorem atomicAddS (n : Net) (m : MacM) (d : Bool) (e : Int) (h0 : 0 ≤ e) (h1 : e < 64) (hb : IntKind.i64.wrap (m.drops e.toNat + 1) = m.drops e.toNat + 1) :
    Sy.Spec Tryz.prog 181 [.ptr 0 (13 + e.toNat), intSV 1] (simH n m d) (intSV (m.drops e.toNat + 1)) (simH n (dropT m e) d) := contract Γ hm 100 F181 Tryz.ntmps181 rfl fun F hF => by
  have hg := simL_get n 1 m.now m.injected m.drops e.toNat (by omega)
  have hs := simL_drop n 1 m e
  have hlt := getI_lt hg
  (conv=>whnf)
  refine stepOp (good_ext_add add64 rfl rfl rfl rfl hg hb) rfl rfl ?_
  (refine rg ?_;(conv=>whnf))
  exact done rfl (.cons .tmp .nil) [] (simH n (dropT m e) d) (fun _ h => h) rfl rfl ⟨trivial, ⟨.inl (congrArg Ob.box hs), rfl, .inl rfl, rfl, .inl rfl, rfl, .inl rfl, rfl, trivial⟩, rfl, rfl⟩
theorem dropS (n : Net) (m : MacM) (d : Bool) (e : Int) (h0 : 0 ≤ e) (h1 : e < 64) (hb : 0 ≤ m.drops e.toNat ∧ m.drops e.toNat ≤ 1000000000000) :
    Sy.Spec Tryz.prog 104 [.ptr 0 0, intSV e] (simH n m d) (.tup []) (simH n (dropT m e) d) := contract Γ hm 100 F104 Tryz.ntmps104 rfl fun F hF => by
  (conv=>whnf)
  refine ⟨h0, by omega, ?_⟩
  (refine rg ?_;(conv=>whnf))
  refine stepOp (good_call [] rfl F181 (atomicAddS n m d e h0 h1 (drops_wrap hb)) (congrArg (fun z => [SV.ptr 0 z, intSV 1]) (show 13 + e.toNat = 0 + 13 + e.toNat * 1 by omega)) ⟨rfl, rfl, rfl, rfl, trivial⟩ rfl ⟨.inl rfl, .inl rfl, .inl rfl, .inl rfl, trivial⟩) rfl rfl ?_
  (refine rg ?_;(conv=>whnf))
  exact done_end rfl .nil [] (simH n (dropT m e) d) (fun _ h => h) rfl rfl ⟨trivial, ⟨.inl rfl, rfl, .inl rfl, rfl, .inl rfl, rfl, .inl rfl, rfl, trivial⟩, rfl, rfl⟩
theorem simHasS (n : Net) (m : MacM) (d : Bool) (dom : Int) :
    Sy.Spec Tryz.prog 46 [.ptr 0 0, intSV dom] (simH n m d) (boolSV (placeB dom m.queues.length)) (simH n m d) := contract Γ hm 100 F46 Tryz.ntmps46 rfl fun F hF => by
  have hres : placeB dom m.queues.length = (decide (0 ≤ dom) && decide (dom < m.queues.length)) := rfl
  generalize placeB dom m.queues.length = res at *
  ((conv=>whnf);refine aT ?_;refine rg ?_;(conv=>whnf))
  refine ⟨fun h => ?_, fun h => ?_⟩
  · (refine rg ?_;(conv=>whnf))
    (skip)
    refine done rfl (.cons .tmp .nil) [] (simH n m d) (fun _ h => h) ?_ rfl ⟨trivial, ⟨.inl rfl, rfl, .inl rfl, rfl, .inl rfl, rfl, .inl rfl, rfl, trivial⟩, rfl, rfl⟩
    rw [hres, h]
    rfl
  · (refine rg ?_;(conv=>whnf))
    (skip)
    refine done rfl (.cons .tmp .nil) [] (simH n m d) (fun _ h => h) ?_ rfl ⟨trivial, ⟨.inl rfl, rfl, .inl rfl, rfl, .inl rfl, rfl, .inl rfl, rfl, trivial⟩, rfl, rfl⟩
    rw [hres, h]
    rfl
end Go.Sy.YtmelpejjondedaaGreat

namespace Go.Sy.YtmelpejjondedaaGreat
open Go.Proofs
attribute [local irreducible] Go.Sy.G Go.Sy.DR
set_option maxRecDepth 100000
set_option maxHeartbeats 4000000
theorem bits_or_u32_nat (a b : Nat) (ha : a < 4294967296) (hb : b < 4294967296) : bits .or .u32 (a : Int) (b : Int) = ((a ||| b : Nat) : Int) := by
  have hx : a ||| b < 2 ^ 32 := Nat.or_lt_two_pow (by omega) (by omega)
  have h1 : (BitVec.ofInt 32 (a : Int)).toNat = a := by
    rw [BitVec.ofInt_natCast, BitVec.toNat_ofNat]; exact Nat.mod_eq_of_lt (by omega)
  have h2 : (BitVec.ofInt 32 (b : Int)).toNat = b := by
    rw [BitVec.ofInt_natCast, BitVec.toNat_ofNat]; exact Nat.mod_eq_of_lt (by omega)
  show IntKind.u32.wrap ((BitVec.ofInt 32 (a : Int) ||| BitVec.ofInt 32 (b : Int)).toNat : Int) = _
  rw [BitVec.toNat_or, h1, h2, IntKind.wrap_u32]
  omega
theorem byte_is (x : UInt8) (k : UInt8) : ((x.toNat : Int) != (k.toNat : Int)) = decide (x ≠ k) := by
  rw [Bool.eq_iff_iff]
  simp only [bne_iff_ne, decide_eq_true_eq, ne_eq, ← UInt8.toNat_inj]
  omega
theorem ipPairS (b : List UInt8) (k : Nat) (h : k + 2 ≤ b.length) (hb : b.length < 100000) : Sy.Spec Tryz.prog 294 [.sl 1 byteSV b, intSV k] [] (intSV (numAt b k 2)) [] := contract Γ hm 100 F294 Tryz.ntmps294 rfl fun F hF => by
  have i0 : ((k : Nat) : Int).toNat < b.length := by simpa using (by omega : k < b.length)
  have i1 : ((k : Int) + 1).toNat < b.length := by omega
  have e0 : b[((k : Nat) : Int).toNat]'i0 = b[k]'(by omega) := rfl
  have e1 : b[((k : Int) + 1).toNat]'i1 = b[k + 1]'(by omega) := rfl
  have hp := byte_pair (b[k]'(by omega)) (b[k + 1]'(by omega))
  have hn := numAt2 h
  rw [← hn] at hp
  (conv=>whnf)
  refine ⟨rfl, by omega, i0, ?_⟩
  rw [e0]
  (conv=>whnf)
  refine ⟨by decide, ?_⟩
  (conv=>whnf)
  refine ⟨by unfold I64; omega, ?_⟩
  (conv=>whnf)
  refine ⟨rfl, by omega, i1, ?_⟩
  rw [e1]
  (conv=>whnf)
  refine ⟨(by kernel_rfl), ?_⟩
  rw [hp]
  (conv=>whnf)
  exact done0 rfl (.cons .tmp .nil) rfl rfl
theorem u32_four (x y : Nat) (hx : x < 65536) (hy : y < 65536) : bits .or .u32 (IntKind.u32.wrap ((IntKind.u32.wrap (x : Int)) * 2 ^ min (Int.toNat 16) IntKind.u32.bits)) (IntKind.u32.wrap (y : Int)) = ((x * 65536 + y : Nat) : Int) := by
  have e1 : IntKind.u32.wrap (x : Int) = (x : Int) := by rw [IntKind.wrap_u32]; omega
  have e2 : IntKind.u32.wrap (y : Int) = (y : Int) := by rw [IntKind.wrap_u32]; omega
  rw [e1, e2]
  have e3 : IntKind.u32.wrap ((x : Int) * 2 ^ min (Int.toNat 16) IntKind.u32.bits) = ((x * 65536 : Nat) : Int) := by
    show IntKind.u32.wrap ((x : Int) * 65536) = _
    rw [IntKind.wrap_u32]
    omega
  rw [e3, bits_or_u32_nat _ _ (by omega) (by omega)]
  congr 1
  have h := Nat.two_pow_add_eq_or_of_lt (i := 16) (b := y) (by omega) x
  rw [Nat.mul_comm x 65536]
  exact h.symm
theorem ipFourS (b : List UInt8) (k : Nat) (h : k + 4 ≤ b.length) (hb : b.length < 100000) : Sy.Spec Tryz.prog 296 [.sl 1 byteSV b, intSV k] [] (u32SV (numAt b k 4)) [] := contract Γ hm 100 F296 Tryz.ntmps296 rfl fun F hF => by
  have q1 := ipPairS b k (by omega) hb
  have q2 := ipPairS b (k + 2) (by omega) hb
  rw [show ((k + 2 : Nat) : Int) = (k : Int) + 2 by omega] at q2
  have hf := u32_four (numAt b k 2) (numAt b (k + 2) 2) (by have := numAt_lt b k 2; omega) (by have := numAt_lt b (k + 2) 2; omega)
  rw [← numAt4 h] at hf
  (conv=>whnf)
  refine call0 q1 F294 rfl rfl rfl rfl rfl ?_
  (refine rg ?_;(conv=>whnf))
  refine ⟨by decide, ?_⟩
  (conv=>whnf)
  refine ⟨by unfold I64; omega, ?_⟩
  (conv=>whnf)
  refine call0 q2 F294 rfl rfl rfl rfl rfl ?_
  (refine rg ?_;(conv=>whnf))
  rw [hf]
  exact done0 rfl (.cons .tmp .nil) rfl rfl
theorem sumRightS (l : List UInt8) (hl : l.length < 100000) (h2 : l.length % 2 = 0) : Sy.Spec Tryz.prog 295 [.sl 1 byteSV l] [] (boolSV (decide (foldN (wsum l (l.length / 2)) = 65535))) [] := contract Γ hm 100 F295 Tryz.ntmps295 rfl fun F hF => by
  have ha := sumAddS l hl h2
  (conv=>whnf)
  refine call0 ha F329 rfl rfl rfl rfl rfl ?_
  (refine rg ?_;(conv=>whnf))
  refine done0 rfl (.cons .tmp .nil) (congrArg boolSV ?_) rfl
  rw [Bool.eq_iff_iff]
  simp only [beq_iff_eq, decide_eq_true_eq]
  omega
end Go.Sy.YtmelpejjondedaaGreat

namespace Go.Sy.YtmelpejjondedaaGreat
open Go.Proofs
attribute [local irreducible] Go.Sy.G Go.Sy.DR
set_option maxRecDepth 100000
set_option maxHeartbeats 4000000
abbrev zP : List SV := [intSV 0, intSV 0, intSV 0, intSV 0, u32SV 0, u32SV 0, .sl 1 byteSV []]
theorem ipTakeS (b : List UInt8) (hb : b.length < 100000) : Sy.Spec Tryz.prog 245 [.sl 1 byteSV b] [] (.tup [packetSV (ipTakeT b).1, intSV (ipTakeT b).2]) [] := contract Γ hm 100 F245 Tryz.ntmps245 rfl fun F hF => by
  have hres := ipTakeT.eq_1 b
  generalize ipTakeT b = res at *
  (conv=>whnf)
  refine ⟨fun h => ?_, fun h => ?_⟩
  · rw [if_pos (by have := of_decide_eq_true h; omega)] at hres
    subst hres
    (refine rg ?_;(conv=>whnf))
    refine G_boxV 2 zP rfl (.cons (.refl _) (.cons (.refl _) (.cons (.refl _) (.cons (.refl _) (.cons (.refl _) (.cons (.refl _) (.cons .nil .nil))))))) ?_
    exact done0 rfl (.cons (.cell rfl rfl rfl rfl) (.cons .tmp .nil)) rfl rfl
  have h20 : 20 ≤ b.length := by have := of_decide_eq_false h; omega
  rw [if_neg (by omega)] at hres
  clear h
  have i0 : (0 : Int).toNat < b.length := by show 0 < _; omega
  have i1 : (1 : Int).toNat < b.length := by show 1 < _; omega
  have i8 : (8 : Int).toNat < b.length := by show 8 < _; omega
  have i9 : (9 : Int).toNat < b.length := by show 9 < _; omega
  have e0 : b[(0 : Int).toNat]'i0 = bAt b 0 := (bAt_eq (by omega)).symm
  have q2 := ipPairS b 2 (by omega) hb
  have q4 := ipPairS b 4 (by omega) hb
  have q6 := ipPairS b 6 (by omega) hb
  have q12 := ipFourS b 12 (by omega) hb
  have q16 := ipFourS b 16 (by omega) hb
  have hl20 : (b.take 20).length = 20 := by rw [List.length_take]; omega
  have hdiv : (b.take 20).length / 2 = 10 := by rw [hl20]
  have qs := sumRightS (b.take 20) (by omega) (by rw [hl20])
  rw [hdiv] at qs
  (refine rg ?_;(conv=>whnf))
  refine ⟨rfl, by decide, i0, ?_⟩
  rw [e0]
  (conv=>whnf)
  refine ⟨fun h => ?_, fun h => ?_⟩
  · rw [if_pos (.inl (by rw [show ((69 : Int)) = ((69 : UInt8).toNat : Int) from rfl, byte_is] at h; exact of_decide_eq_true h))] at hres
    subst hres
    (refine rg ?_;(conv=>whnf);refine aT ?_;refine rg ?_;(conv=>whnf))
    refine G_boxV 2 zP rfl (.cons (.refl _) (.cons (.refl _) (.cons (.refl _) (.cons (.refl _) (.cons (.refl _) (.cons (.refl _) (.cons .nil .nil))))))) ?_
    exact done0 rfl (.cons (.cell rfl rfl rfl rfl) (.cons .tmp .nil)) rfl rfl
  have h69 : ¬ bAt b 0 ≠ 69 := by rw [show ((69 : Int)) = ((69 : UInt8).toNat : Int) from rfl, byte_is] at h; exact of_decide_eq_false h
  clear h
  (refine rg ?_;(conv=>whnf))
  refine call0 q2 F294 rfl rfl rfl rfl rfl ?_
  (refine rg ?_;(conv=>whnf))
  refine ⟨fun h => ?_, fun h => ?_⟩
  · rw [if_pos (.inr (by have := of_decide_eq_true h; omega))] at hres
    subst hres
    (refine rg ?_;(conv=>whnf))
    refine G_boxV 2 zP rfl (.cons (.refl _) (.cons (.refl _) (.cons (.refl _) (.cons (.refl _) (.cons (.refl _) (.cons (.refl _) (.cons .nil .nil))))))) ?_
    exact done0 rfl (.cons (.cell rfl rfl rfl rfl) (.cons .tmp .nil)) rfl rfl
  have hs20 : 20 ≤ numAt b 2 2 := by have := of_decide_eq_false h; omega
  rw [if_neg (fun h => h.elim h69 (by omega))] at hres
  clear h
  (refine rg ?_;(conv=>whnf))
  refine call0 q2 F294 rfl rfl rfl rfl rfl ?_
  (refine rg ?_;(conv=>whnf))
  refine ⟨fun h => ?_, fun h => ?_⟩
  · rw [if_pos (by have := of_decide_eq_true h; omega)] at hres
    subst hres
    (refine rg ?_;(conv=>whnf))
    refine G_boxV 2 zP rfl (.cons (.refl _) (.cons (.refl _) (.cons (.refl _) (.cons (.refl _) (.cons (.refl _) (.cons (.refl _) (.cons .nil .nil))))))) ?_
    exact done0 rfl (.cons (.cell rfl rfl rfl rfl) (.cons .tmp .nil)) rfl rfl
  have hsl : numAt b 2 2 ≤ b.length := by have := of_decide_eq_false h; omega
  rw [if_neg (by omega)] at hres
  clear h
  (refine rg ?_;(conv=>whnf))
  refine call0 q6 F294 rfl rfl rfl rfl rfl ?_
  (refine rg ?_;(conv=>whnf))
  refine ⟨fun h => ?_, fun h => ?_⟩
  · rw [if_pos (by have : (numAt b 6 2 : Int) ≠ 0 := by simpa using h
                   omega)] at hres
    subst hres
    (refine rg ?_;(conv=>whnf))
    refine G_boxV 2 zP rfl (.cons (.refl _) (.cons (.refl _) (.cons (.refl _) (.cons (.refl _) (.cons (.refl _) (.cons (.refl _) (.cons .nil .nil))))))) ?_
    exact done0 rfl (.cons (.cell rfl rfl rfl rfl) (.cons .tmp .nil)) rfl rfl
  rw [if_neg (by have : (numAt b 6 2 : Int) = 0 := by simpa using h
                 omega)] at hres
  clear h
  (refine rg ?_;(conv=>whnf))
  refine stepOp (good_slice_sl (lo := 0) (hi := 20) Γ.toTy rfl rfl rfl rfl (.inl ⟨rfl, rfl⟩) (.inr ⟨_, _, rfl, rfl⟩) (by omega) h20) rfl rfl ?_
  (refine rg ?_;(conv=>whnf))
  refine call0 qs F295 rfl rfl rfl rfl rfl ?_
  by_cases hsum : foldN (wsum (b.take 20) 10) = 65535
  rotate_left
  · rw [if_pos hsum] at hres
    subst hres
    rw [decide_eq_false hsum]
    (refine rg ?_;(conv=>whnf);refine aT ?_;refine rg ?_;(conv=>whnf))
    refine G_boxV 2 zP rfl (.cons (.refl _) (.cons (.refl _) (.cons (.refl _) (.cons (.refl _) (.cons (.refl _) (.cons (.refl _) (.cons .nil .nil))))))) ?_
    exact done0 rfl (.cons (.cell rfl rfl rfl rfl) (.cons .tmp .nil)) rfl rfl
  rw [if_neg (fun h => h hsum)] at hres
  subst hres
  rw [decide_eq_true hsum]
  have qc := cloneByteS ((b.take (numAt b 2 2)).drop 20) (by rw [List.length_drop, List.length_take]; omega)
  have w1 : IntKind.i64.wrap ((b[(1 : Int).toNat]'i1).toNat : Int) = ((bAt b 1).toNat : Int) := by
    rw [bAt_eq (show 1 < b.length by omega)]
    have := (b[1]'(by omega)).toNat_lt
    show IntKind.i64.wrap ((b[1]'(by omega)).toNat : Int) = _
    rw [IntKind.wrap_i64]; omega
  have w8 : IntKind.i64.wrap ((b[(8 : Int).toNat]'i8).toNat : Int) = ((bAt b 8).toNat : Int) := by
    rw [bAt_eq (show 8 < b.length by omega)]
    have := (b[8]'(by omega)).toNat_lt
    show IntKind.i64.wrap ((b[8]'(by omega)).toNat : Int) = _
    rw [IntKind.wrap_i64]; omega
  have w9 : IntKind.i64.wrap ((b[(9 : Int).toNat]'i9).toNat : Int) = ((bAt b 9).toNat : Int) := by
    rw [bAt_eq (show 9 < b.length by omega)]
    have := (b[9]'(by omega)).toNat_lt
    show IntKind.i64.wrap ((b[9]'(by omega)).toNat : Int) = _
    rw [IntKind.wrap_i64]; omega
  (refine rg ?_;(conv=>whnf);refine aF ?_;refine rg ?_;(conv=>whnf))
  refine ⟨rfl, by decide, i1, ?_⟩
  (conv=>whnf)
  refine callD0 q4 F294 rfl rfl rfl (by kernel_rfl) rfl ?_
  (refine rd (by kernel_rfl) ?_;(conv=>whnf))
  refine ⟨rfl, by decide, i8, ?_⟩
  (conv=>whnf)
  refine ⟨rfl, by decide, i9, ?_⟩
  (conv=>whnf)
  refine callD0 q12 F296 rfl rfl rfl (by kernel_rfl) rfl ?_
  (refine rd (by kernel_rfl) ?_;(conv=>whnf))
  refine callD0 q16 F296 rfl rfl rfl (by kernel_rfl) rfl ?_
  (refine rd (by kernel_rfl) ?_;(conv=>whnf))
  refine callD0 q2 F294 rfl rfl rfl (by kernel_rfl) rfl ?_
  (refine rd (by kernel_rfl) ?_;(conv=>whnf))
  refine stepD (good_slice_sl (lo := 20) (hi := numAt b 2 2) Γ.toTy rfl rfl rfl rfl (.inr ⟨_, _, rfl, rfl⟩) (.inr ⟨_, _, rfl, rfl⟩) hs20 hsl) (by kernel_rfl) rfl ?_
  (refine rd (by kernel_rfl) ?_;(conv=>whnf))
  refine callD0 qc F63 rfl rfl rfl (by kernel_rfl) rfl ?_
  (refine rd (by kernel_rfl) ?_;(conv=>whnf))
  refine ⟨(by kernel_rfl), ?_⟩
  (conv=>whnf)
  refine done0 rfl (.cons (.cell rfl rfl rfl rfl) (.cons .tmp .nil)) ?_ rfl
  show SV.tup [.agg [intSV (bAt b 1).toNat, _, intSV (bAt b 8).toNat, intSV (bAt b 9).toNat, _, _, _], _] = SV.tup [.agg [intSV (IntKind.i64.wrap ((b[(1 : Int).toNat]'i1).toNat : Int)), _, intSV (IntKind.i64.wrap ((b[(8 : Int).toNat]'i8).toNat : Int)), intSV (IntKind.i64.wrap ((b[(9 : Int).toNat]'i9).toNat : Int)), _, _, _], _]
  rw [w1, w8, w9]
  rfl
end Go.Sy.YtmelpejjondedaaGreat

namespace Go.Sy.YtmelpejjondedaaGreat
open Go.Proofs
attribute [local irreducible] Go.Sy.G Go.Sy.DR
set_option maxRecDepth 100000
set_option maxHeartbeats 4000000
theorem or_first (t : Nat) (h : t ≤ 255) : bits .or .i64 17664 (t : Int) = ((17664 + t : Nat) : Int) := by
  have h1 := bits_or_i64_nat 17664 t (by decide) (by omega)
  rw [show ((17664 : Nat) : Int) = 17664 from rfl] at h1
  rw [h1]
  congr 1
  have h2 := Nat.two_pow_add_eq_or_of_lt (i := 8) (b := t) (by omega) 69
  rw [show 2 ^ 8 * 69 = 17664 from rfl] at h2
  rw [← h2]
theorem or_pair (x y : Nat) (hx : x ≤ 255) (hy : y ≤ 255) : bits .or .i64 (IntKind.i64.wrap ((x : Int) * 2 ^ min (Int.toNat 8) IntKind.i64.bits)) (y : Int) = ((x * 256 + y : Nat) : Int) := by
  have h3 : IntKind.i64.wrap ((x : Int) * 2 ^ min (Int.toNat 8) IntKind.i64.bits) = ((x * 256 : Nat) : Int) := by
    show IntKind.i64.wrap ((x : Int) * 256) = _
    rw [IntKind.wrap_i64]
    omega
  rw [h3, bits_or_i64_nat _ _ (by omega) (by omega)]
  congr 1
  have h := Nat.two_pow_add_eq_or_of_lt (i := 8) (b := y) (by omega) x
  rw [Nat.mul_comm x 256]
  exact h.symm
theorem high_u32 (x : Nat) (h : x < 4294967296) : IntKind.i64.wrap ((x : Int).fdiv (2 ^ (min (Int.toNat 16) IntKind.u32.bits))) = ((x / 65536 : Nat) : Int) := by
  show IntKind.i64.wrap ((x : Int).fdiv 65536) = _
  rw [Int.fdiv_eq_ediv_of_nonneg _ (by decide), IntKind.wrap_i64]
  omega
theorem low_u32 (x : Nat) (h : x < 4294967296) : IntKind.i64.wrap (x : Int) = (x : Int) := by rw [IntKind.wrap_i64]; omega
theorem ipPut2S (p : PacketM) (hp : PacketOK p) (hb : p.body.length < 100000) : Sy.Spec Tryz.prog 248 [packetSV p] [] (.tup [.sl 1 byteSV (ipPutT p).1, intSV (ipPutT p).2]) [] := contract Γ hm 100 F248 Tryz.ntmps248 rfl fun F hF => by
  have hres := ipPutT.eq_1 p
  generalize ipPutT p = res at *
  have h1 := hp.tos
  have h2 := hp.id
  have h3 := hp.ttl
  have h4 := hp.proto
  have h5 := hp.src
  have h6 := hp.dst
  (conv=>whnf)
  refine callC ⟨⟨_, _, F303⟩, smallS p.tos 255 (by omega)⟩ rfl rfl rfl rfl rfl rfl ?_
  (refine rg ?_;(conv=>whnf);refine aF ?_;refine rg ?_;(conv=>whnf))
  refine callC ⟨⟨_, _, F303⟩, smallS p.ttl 255 (by omega)⟩ rfl rfl rfl rfl rfl rfl ?_
  (refine rg ?_;(conv=>whnf);refine aF ?_;refine rg ?_;(conv=>whnf))
  refine callC ⟨⟨_, _, F303⟩, smallS p.proto 255 (by omega)⟩ rfl rfl rfl rfl rfl rfl ?_
  (refine rg ?_;(conv=>whnf);refine aF ?_;refine rg ?_;(conv=>whnf))
  refine callC ⟨⟨_, _, F303⟩, smallS p.id 65535 (by omega)⟩ rfl rfl rfl rfl rfl rfl ?_
  (refine rg ?_;(conv=>whnf);refine aF ?_;refine rg ?_;(conv=>whnf))
  refine ⟨fun h => ?_, fun h => ?_⟩
  · rw [if_pos (by have := of_decide_eq_true h; omega)] at hres
    subst hres
    (refine rg ?_;(conv=>whnf))
    refine G_nilsl 2 1 byteSV rfl ?_
    exact done0 rfl (.cons .tmp (.cons .tmp .nil)) rfl rfl
  have hl : p.body.length ≤ 1480 := by have := of_decide_eq_false h; omega
  rw [if_neg (by omega)] at hres
  subst hres
  clear h
  have hsz : ipBy p = ((ipHead p 0).set 10 (UInt8.ofNat (ipSum p / 256))).set 11 (UInt8.ofNat (ipSum p)) ++ p.body := by rw [ipHead_set, ipBy]
  rw [hsz]
  have hil := ipHead_length p 0
  have hs := sumOfS (ipHead p 0) (by rw [hil]; decide) (by rw [hil])
  have hput := ipPairsS [17664 + p.tos, 20 + p.body.length, p.id, 0, p.ttl * 256 + p.proto, 0, p.src / 65536, p.src, p.dst / 65536, p.dst] (by simp)
  rw [show pairsL [17664 + p.tos, 20 + p.body.length, p.id, 0, p.ttl * 256 + p.proto, 0, p.src / 65536, p.src, p.dst / 65536, p.dst] = ipHead p 0 from rfl] at hput
  have hss : sumOf (ipHead p 0) = ipSum p := rfl
  rw [hss] at hs
  have hsl : ipSum p ≤ 65535 := Nat.sub_le _ _
  generalize ipSum p = s at *
  have htb := two_bytes s
  have o1 := or_first p.tos h1
  have o2 := or_pair p.ttl p.proto h3 h4
  have g1 := high_u32 p.src h5
  have g2 := low_u32 p.src h5
  have g3 := high_u32 p.dst h6
  have g4 := low_u32 p.dst h6
  generalize ipHead p 0 = b at *
  (refine rg ?_;(conv=>whnf))
  refine ⟨by unfold I64; omega, ?_⟩
  (conv=>whnf)
  refine ⟨by decide, ?_⟩
  (conv=>whnf)
  refine ⟨by decide, ?_⟩
  (conv=>whnf)
  refine ⟨by decide, ?_⟩
  (conv=>whnf)
  refine G_retype 68 (e := natSV) (l := [17664 + p.tos, 20 + p.body.length, p.id, 0, p.ttl * 256 + p.proto, 0, p.src / 65536, p.src, p.dst / 65536, p.dst]) rfl ?_ ?_
  · show _ = [SV.val (.int .i64 (bits .or .i64 17664 (p.tos : Int))), SV.val _, SV.val _, SV.val _, SV.val (.int .i64 (bits .or .i64 (IntKind.i64.wrap ((p.ttl : Int) * 2 ^ min (Int.toNat 8) IntKind.i64.bits)) (p.proto : Int))), SV.val _,
      SV.val (.int .i64 (IntKind.i64.wrap ((p.src : Int).fdiv (2 ^ (min (Int.toNat 16) IntKind.u32.bits))))), SV.val (.int .i64 (IntKind.i64.wrap (p.src : Int))), SV.val (.int .i64 (IntKind.i64.wrap ((p.dst : Int).fdiv (2 ^ (min (Int.toNat 16) IntKind.u32.bits))))), SV.val (.int .i64 (IntKind.i64.wrap (p.dst : Int)))]
    rw [o1, o2, g1, g2, g3, g4]
    rfl
  refine G_data 68 rfl ?_
  refine stepOp (good_call [(0, 69)] rfl F304 hput rfl trivial rfl ⟨.inr rfl, trivial⟩) rfl rfl ?_
  (refine rg ?_;(conv=>whnf))
  refine callK [69] hs F305 rfl (.cons (.row rfl rfl) .nil) rfl rfl rfl ?_
  (refine rg ?_;(conv=>whnf))
  have hb1 := (List.cons.inj htb).1
  have hb2 := (List.cons.inj (List.cons.inj htb).2).1
  refine ⟨by omega, ?_⟩
  (conv=>whnf)
  refine ⟨by decide, by rw [hil]; decide, ?_⟩
  (conv=>whnf)
  refine ⟨rfl, by rw [hil]; decide, UInt8.ofNat (s / 256), congrArg (fun z => [z]) hb1, rfl, ?_⟩
  (conv=>whnf)
  refine ⟨by decide, by simp [hil], ?_⟩
  (conv=>whnf)
  refine ⟨rfl, by simp [hil], UInt8.ofNat s, congrArg (fun z => [z]) hb2, rfl, ?_⟩
  (conv=>whnf)
  refine stepOp (good_appendT Γ.toTy 84 rfl rfl rfl rfl rfl (.row rfl) .sl (by decide) (by simp [hil]; omega) (by simp [hil]; omega)) rfl rfl ?_
  refine G_data 84 rfl ?_
  (refine rg ?_;(conv=>whnf))
  exact done0 rfl (.cons .tmp (.cons .tmp .nil)) rfl rfl
def hop1 (p : PacketM) : PacketM × Int := if p.ttl ≤ 1 then (noP, 13) else (hopP p, 0)
theorem ipHopS (p : PacketM) (hb : p.body.length < 100000) (ht : p.ttl ≤ 255) : Sy.Spec Tryz.prog 246 [packetSV p] [] (.tup [packetSV (hop1 p).1, intSV (hop1 p).2]) [] := contract Γ hm 100 F246 Tryz.ntmps246 rfl fun F hF => by
  have hres := hop1.eq_1 p
  generalize hop1 p = res at *
  have qc := cloneByteS p.body (by omega)
  (conv=>whnf)
  refine ⟨fun h => ?_, fun h => ?_⟩
  · rw [if_pos (by have := of_decide_eq_true h; omega)] at hres
    subst hres
    (refine rg ?_;(conv=>whnf))
    refine G_boxV 2 zP rfl (.cons (.refl _) (.cons (.refl _) (.cons (.refl _) (.cons (.refl _) (.cons (.refl _) (.cons (.refl _) (.cons .nil .nil))))))) ?_
    exact done0 rfl (.cons (.cell rfl rfl rfl rfl) (.cons .tmp .nil)) rfl rfl
  have h2 : ¬ p.ttl ≤ 1 := by have := of_decide_eq_false h; omega
  rw [if_neg h2] at hres
  subst hres
  have e : ((p.ttl - 1 : Nat) : Int) = (p.ttl : Int) - 1 := by omega
  (refine rg ?_;(conv=>whnf))
  refine ⟨by unfold I64; omega, ?_⟩
  (conv=>whnf)
  refine call0 qc F63 rfl rfl rfl rfl rfl ?_
  (refine rg ?_;(conv=>whnf))
  refine done0 rfl (.cons (.cell rfl rfl rfl rfl) (.cons .tmp .nil)) ?_ rfl
  show SV.tup [.agg [_, _, intSV ((p.ttl - 1 : Nat) : Int), _, _, _, _], _] = SV.tup [.agg [_, _, intSV ((p.ttl : Int) - 1), _, _, _, _], _]
  rw [e]
  rfl
end Go.Sy.YtmelpejjondedaaGreat

namespace Go.Sy.YtmelpejjondedaaGreat
open Go.Proofs
attribute [local irreducible] Go.Sy.G Go.Sy.DR
set_option maxRecDepth 100000
set_option maxHeartbeats 4000000
def udpU (b : List UInt8) : Nat → List SV
  | 0 => [intSV 0, intSV 0, intSV 0, intSV 0]
  | 1 => [intSV (numAt b 0 2), intSV 0, intSV 0, intSV 0]
  | 2 => [intSV (numAt b 0 2), intSV (numAt b 2 2), intSV 0, intSV 0]
  | 3 => [intSV (numAt b 0 2), intSV (numAt b 2 2), intSV (numAt b 4 2), intSV 0]
  | _ => [intSV (numAt b 0 2), intSV (numAt b 2 2), intSV (numAt b 4 2), intSV (numAt b 6 2)]
theorem udpTakeS (b : List UInt8) (hb : b.length < 100000) : Sy.Spec Tryz.prog 339 [.sl 1 byteSV b] [] (.tup [intSV (udpTakeT b).1, intSV (udpTakeT b).2.1, .sl 1 byteSV (udpTakeT b).2.2.1, intSV (udpTakeT b).2.2.2]) [] := contract Γ hm 100 F339 Tryz.ntmps339 rfl fun F hF => by
  have hres := udpTakeT.eq_1 b
  generalize udpTakeT b = res at *
  (conv=>whnf)
  refine ⟨fun h => ?_, fun h => ?_⟩
  · rw [if_pos (by have := of_decide_eq_true h; omega)] at hres
    subst hres
    (refine rg ?_;(conv=>whnf))
    refine G_nilsl 4 1 byteSV rfl ?_
    exact done0 rfl (.cons .tmp (.cons .tmp (.cons .tmp (.cons .tmp .nil)))) rfl rfl
  have h8 : 8 ≤ b.length := by have := of_decide_eq_false h; omega
  rw [if_neg (by omega)] at hres
  clear h
  have hp0 := byte_pair (b[0]'(by omega)) (b[1]'(by omega))
  rw [← numAt2 (show 0 + 2 ≤ b.length by omega)] at hp0
  have hp1 := byte_pair (b[2]'(by omega)) (b[3]'(by omega))
  rw [← numAt2 (show 2 + 2 ≤ b.length by omega)] at hp1
  have hp2 := byte_pair (b[4]'(by omega)) (b[5]'(by omega))
  rw [← numAt2 (show 4 + 2 ≤ b.length by omega)] at hp2
  have hp3 := byte_pair (b[6]'(by omega)) (b[7]'(by omega))
  rw [← numAt2 (show 6 + 2 ≤ b.length by omega)] at hp3
  (refine rg ?_;(conv=>whnf))
  refine G_count 4 (fun j => [(0, .sl 1 byteSV b), (6, .ptr 6 0), (11, intSV j)]) (fun j => [(6, .box (udpU b j))]) [] ⟨⟨rfl, rfl, rfl, rfl, rfl, rfl, trivial⟩, ⟨.inl rfl, rfl, trivial⟩, rfl, rfl⟩ ?_
  intro j hj
  have hcase : j = 0 ∨ j = 1 ∨ j = 2 ∨ j = 3 ∨ j = 4 := by omega
  rcases hcase with rfl | rfl | rfl | rfl | rfl
  · (refine rg ?_;(conv=>whnf);refine aT ?_;refine rg ?_;(conv=>whnf))
    refine ⟨by unfold I64; omega, ?_⟩
    (conv=>whnf)
    refine ⟨rfl, by omega, by omega, ?_⟩
    (conv=>whnf)
    refine ⟨by decide, ?_⟩
    (conv=>whnf)
    refine ⟨by unfold I64; omega, ?_⟩
    (conv=>whnf)
    refine ⟨by unfold I64; omega, ?_⟩
    (conv=>whnf)
    refine ⟨rfl, by omega, by omega, ?_⟩
    (conv=>whnf)
    refine ⟨by decide, by decide, ?_⟩
    (conv=>whnf)
    refine ⟨(by kernel_rfl), ?_⟩
    (conv=>whnf)
    refine ⟨by unfold I64; omega, ?_⟩
    (conv=>whnf)
    exact G_next [] (by decide) ⟨⟨rfl, rfl, rfl, rfl, rfl, rfl, trivial⟩, ⟨.inl (congrArg (fun z : Int => Ob.box [intSV z, intSV 0, intSV 0, intSV 0]) hp0.symm), rfl, trivial⟩, rfl, rfl⟩
  · (refine rg ?_;(conv=>whnf);refine aT ?_;refine rg ?_;(conv=>whnf))
    refine ⟨by unfold I64; omega, ?_⟩
    (conv=>whnf)
    refine ⟨rfl, by omega, by omega, ?_⟩
    (conv=>whnf)
    refine ⟨by decide, ?_⟩
    (conv=>whnf)
    refine ⟨by unfold I64; omega, ?_⟩
    (conv=>whnf)
    refine ⟨by unfold I64; omega, ?_⟩
    (conv=>whnf)
    refine ⟨rfl, by omega, by omega, ?_⟩
    (conv=>whnf)
    refine ⟨by decide, by decide, ?_⟩
    (conv=>whnf)
    refine ⟨(by kernel_rfl), ?_⟩
    (conv=>whnf)
    refine ⟨by unfold I64; omega, ?_⟩
    (conv=>whnf)
    exact G_next [] (by decide) ⟨⟨rfl, rfl, rfl, rfl, rfl, rfl, trivial⟩, ⟨.inl (congrArg (fun z : Int => Ob.box [intSV (numAt b 0 2), intSV z, intSV 0, intSV 0]) hp1.symm), rfl, trivial⟩, rfl, rfl⟩
  · (refine rg ?_;(conv=>whnf);refine aT ?_;refine rg ?_;(conv=>whnf))
    refine ⟨by unfold I64; omega, ?_⟩
    (conv=>whnf)
    refine ⟨rfl, by omega, by omega, ?_⟩
    (conv=>whnf)
    refine ⟨by decide, ?_⟩
    (conv=>whnf)
    refine ⟨by unfold I64; omega, ?_⟩
    (conv=>whnf)
    refine ⟨by unfold I64; omega, ?_⟩
    (conv=>whnf)
    refine ⟨rfl, by omega, by omega, ?_⟩
    (conv=>whnf)
    refine ⟨by decide, by decide, ?_⟩
    (conv=>whnf)
    refine ⟨(by kernel_rfl), ?_⟩
    (conv=>whnf)
    refine ⟨by unfold I64; omega, ?_⟩
    (conv=>whnf)
    exact G_next [] (by decide) ⟨⟨rfl, rfl, rfl, rfl, rfl, rfl, trivial⟩, ⟨.inl (congrArg (fun z : Int => Ob.box [intSV (numAt b 0 2), intSV (numAt b 2 2), intSV z, intSV 0]) hp2.symm), rfl, trivial⟩, rfl, rfl⟩
  · (refine rg ?_;(conv=>whnf);refine aT ?_;refine rg ?_;(conv=>whnf))
    refine ⟨by unfold I64; omega, ?_⟩
    (conv=>whnf)
    refine ⟨rfl, by omega, by omega, ?_⟩
    (conv=>whnf)
    refine ⟨by decide, ?_⟩
    (conv=>whnf)
    refine ⟨by unfold I64; omega, ?_⟩
    (conv=>whnf)
    refine ⟨by unfold I64; omega, ?_⟩
    (conv=>whnf)
    refine ⟨rfl, by omega, by omega, ?_⟩
    (conv=>whnf)
    refine ⟨by decide, by decide, ?_⟩
    (conv=>whnf)
    refine ⟨(by kernel_rfl), ?_⟩
    (conv=>whnf)
    refine ⟨by unfold I64; omega, ?_⟩
    (conv=>whnf)
    exact G_next [] (by decide) ⟨⟨rfl, rfl, rfl, rfl, rfl, rfl, trivial⟩, ⟨.inl (congrArg (fun z : Int => Ob.box [intSV (numAt b 0 2), intSV (numAt b 2 2), intSV (numAt b 4 2), intSV z]) hp3.symm), rfl, trivial⟩, rfl, rfl⟩
  clear hp0 hp1 hp2 hp3
  (refine rg ?_;(conv=>whnf);refine aF ?_;refine rg ?_;(conv=>whnf))
  refine ⟨by decide, by decide, ?_⟩
  (conv=>whnf)
  refine ⟨fun h => ?_, fun h => ?_⟩
  · rw [if_pos (by have := of_decide_eq_true h; omega)] at hres
    subst hres
    (refine rg ?_;(conv=>whnf))
    refine G_nilsl 4 1 byteSV rfl ?_
    exact done0 rfl (.cons .tmp (.cons .tmp (.cons .tmp (.cons .tmp .nil)))) rfl rfl
  have hs8 : 8 ≤ numAt b 4 2 := by have := of_decide_eq_false h; omega
  rw [if_neg (by omega)] at hres
  clear h
  (refine rg ?_;(conv=>whnf))
  refine ⟨by decide, by decide, ?_⟩
  (conv=>whnf)
  refine ⟨fun h => ?_, fun h => ?_⟩
  · rw [if_pos (by have := of_decide_eq_true h; omega)] at hres
    subst hres
    (refine rg ?_;(conv=>whnf))
    refine G_nilsl 4 1 byteSV rfl ?_
    exact done0 rfl (.cons .tmp (.cons .tmp (.cons .tmp (.cons .tmp .nil)))) rfl rfl
  have hsl : numAt b 4 2 ≤ b.length := by have := of_decide_eq_false h; omega
  rw [if_neg (by omega)] at hres
  clear h
  (refine rg ?_;(conv=>whnf))
  refine ⟨by decide, by decide, ?_⟩
  (conv=>whnf)
  refine ⟨fun h => ?_, fun h => ?_⟩
  · rw [if_pos (by have : (numAt b 6 2 : Int) ≠ 0 := by simpa using h
                   omega)] at hres
    subst hres
    (refine rg ?_;(conv=>whnf))
    refine G_nilsl 4 1 byteSV rfl ?_
    exact done0 rfl (.cons .tmp (.cons .tmp (.cons .tmp (.cons .tmp .nil)))) rfl rfl
  rw [if_neg (by have : (numAt b 6 2 : Int) = 0 := by simpa using h
                 omega)] at hres
  subst hres
  clear h
  have qc := cloneByteS ((b.take (numAt b 4 2)).drop 8) (by rw [List.length_drop, List.length_take]; omega)
  (refine rg ?_;(conv=>whnf))
  refine ⟨by decide, by decide, ?_⟩
  (conv=>whnf)
  refine ⟨by decide, by decide, ?_⟩
  (conv=>whnf)
  refine ⟨by decide, by decide, ?_⟩
  (conv=>whnf)
  refine stepD (good_slice_sl (lo := 8) (hi := numAt b 4 2) Γ.toTy rfl rfl rfl rfl (.inr ⟨_, _, rfl, rfl⟩) (.inr ⟨_, _, rfl, rfl⟩) hs8 hsl) (by kernel_rfl) rfl ?_
  (refine rd (by kernel_rfl) ?_;(conv=>whnf))
  refine callD0 qc F63 rfl rfl rfl (by kernel_rfl) rfl ?_
  (refine rd (by kernel_rfl) ?_;(conv=>whnf))
  refine ⟨(by kernel_rfl), ?_⟩
  (conv=>whnf)
  exact done0 rfl (.cons .tmp (.cons .tmp (.cons .tmp (.cons .tmp .nil)))) rfl rfl
theorem udpPutS (src dst : Nat) (body : List UInt8) (h1 : src ≤ 65535) (h2 : dst ≤ 65535) (h3 : body.length ≤ 1472) : Sy.Spec Tryz.prog 310 [intSV src, intSV dst, .sl 1 byteSV body] [] (.tup [.sl 1 byteSV (udpT src dst body), intSV 0]) [] := contract Γ hm 100 F310 Tryz.ntmps310 rfl fun F hF => by
  ((conv=>whnf);refine aF ?_;refine rg ?_;(conv=>whnf))
  (refine ⟨fun h => False.elim (by simp at h; omega), fun _ => ?_⟩;refine rg ?_;(conv=>whnf);refine aF ?_;refine rg ?_;(conv=>whnf);refine ⟨fun h => False.elim (by simp at h; omega), fun _ => ?_⟩;refine rg ?_;(conv=>whnf);refine ⟨fun h => False.elim (by simp at h; omega), fun _ => ?_⟩;refine rg ?_;(conv=>whnf))
  refine ⟨by unfold I64; omega, ?_⟩
  (conv=>whnf)
  refine G_adopt 8 1000 1 byteSV rfl rfl ?_
  refine stepOp (good_buildA Γ.toTy rfl rfl rfl rfl rfl rfl) rfl rfl ?_
  (refine rg ?_;(conv=>whnf))
  have key : ∀ (x : Nat) (pre : List Nat), pre.length ≤ 4 → wordsL (pre ++ [x]) = wordsL pre ++ [UInt8.ofNat (x / 256), UInt8.ofNat x] := fun x pre _ => wordsL_snoc pre x
  have hwl : ∀ l : List Nat, (wordsL l).length = 2 * l.length := wordsL_length
  obtain ⟨ws, hws⟩ : ∃ ws : List Nat, ws = [src, dst, 8 + body.length, 0] := ⟨_, rfl⟩
  refine G_count 4 (fun j => [(2, .sl 1 byteSV body), (8, .osl 1000), (35, .agg [intSV src, intSV dst, intSV (8 + body.length : Nat), intSV 0]), (36, intSV j)]) (fun j => [(1000, .row 1 byteSV (wordsL (ws.take j)))]) [] ⟨⟨rfl, rfl, rfl, rfl, rfl, rfl, rfl, rfl, trivial⟩, ⟨.inl (congrArg (Ob.row 1 byteSV) (by simp [wordsL])), rfl, trivial⟩, rfl, rfl⟩ ?_
  intro j hj
  have hcase : j = 0 ∨ j = 1 ∨ j = 2 ∨ j = 3 ∨ j = 4 := by omega
  rcases hcase with rfl | rfl | rfl | rfl | rfl
  · have hs : wordsL (ws.take 1) = wordsL (ws.take 0) ++ [UInt8.ofNat (src / 256), UInt8.ofNat src] := by subst hws; exact wordsL_snoc [] src
    have hl := hwl (ws.take 0)
    have hl2 : (ws.take 0).length ≤ 4 := by rw [List.length_take]; omega
    have htb := two_bytes src
    (refine rg ?_;(conv=>whnf);refine aT ?_;refine rg ?_;(conv=>whnf))
    refine stepOp (good_index_arrV (k := .int .i64) Γ.toTy rfl rfl rfl Tryz.underlying3 rfl rfl (by decide) (by decide) rfl) rfl rfl ?_
    (refine rg ?_;(conv=>whnf))
    refine ⟨by decide, ?_⟩
    (conv=>whnf)
    refine stepOp (good_appendT Γ.toTy 46 rfl rfl rfl rfl rfl (.row rfl) (.lit (e := byteSV) (l := [UInt8.ofNat (src / 256), UInt8.ofNat src]) rfl htb) (by simp) (by rw [hl]; simp only [List.length_cons, List.length_nil]; omega) (by rw [hl]; simp only [List.length_cons, List.length_nil]; omega)) rfl rfl ?_
    (refine rg ?_;(conv=>whnf))
    refine ⟨by unfold I64; omega, ?_⟩
    (conv=>whnf)
    exact G_next [(1000, 46)] (by decide) ⟨⟨rfl, rfl, rfl, rfl, rfl, rfl, rfl, rfl, trivial⟩, ⟨.inl (congrArg (Ob.row 1 byteSV) hs), rfl, trivial⟩, rfl, rfl⟩
  · have hs : wordsL (ws.take 2) = wordsL (ws.take 1) ++ [UInt8.ofNat (dst / 256), UInt8.ofNat dst] := by subst hws; exact wordsL_snoc [src] dst
    have hl := hwl (ws.take 1)
    have hl2 : (ws.take 1).length ≤ 4 := by rw [List.length_take]; omega
    have htb := two_bytes dst
    (refine rg ?_;(conv=>whnf);refine aT ?_;refine rg ?_;(conv=>whnf))
    refine stepOp (good_index_arrV (k := .int .i64) Γ.toTy rfl rfl rfl Tryz.underlying3 rfl rfl (by decide) (by decide) rfl) rfl rfl ?_
    (refine rg ?_;(conv=>whnf))
    refine ⟨by decide, ?_⟩
    (conv=>whnf)
    refine stepOp (good_appendT Γ.toTy 46 rfl rfl rfl rfl rfl (.row rfl) (.lit (e := byteSV) (l := [UInt8.ofNat (dst / 256), UInt8.ofNat dst]) rfl htb) (by simp) (by rw [hl]; simp only [List.length_cons, List.length_nil]; omega) (by rw [hl]; simp only [List.length_cons, List.length_nil]; omega)) rfl rfl ?_
    (refine rg ?_;(conv=>whnf))
    refine ⟨by unfold I64; omega, ?_⟩
    (conv=>whnf)
    exact G_next [(1000, 46)] (by decide) ⟨⟨rfl, rfl, rfl, rfl, rfl, rfl, rfl, rfl, trivial⟩, ⟨.inl (congrArg (Ob.row 1 byteSV) hs), rfl, trivial⟩, rfl, rfl⟩
  · have hs : wordsL (ws.take 3) = wordsL (ws.take 2) ++ [UInt8.ofNat ((8 + body.length) / 256), UInt8.ofNat (8 + body.length)] := by subst hws; exact wordsL_snoc [src, dst] (8 + body.length)
    have hl := hwl (ws.take 2)
    have hl2 : (ws.take 2).length ≤ 4 := by rw [List.length_take]; omega
    have htb := two_bytes (8 + body.length)
    (refine rg ?_;(conv=>whnf);refine aT ?_;refine rg ?_;(conv=>whnf))
    refine stepOp (good_index_arrV (k := .int .i64) Γ.toTy rfl rfl rfl Tryz.underlying3 rfl rfl (by decide) (by decide) rfl) rfl rfl ?_
    (refine rg ?_;(conv=>whnf))
    refine ⟨by decide, ?_⟩
    (conv=>whnf)
    refine stepOp (good_appendT Γ.toTy 46 rfl rfl rfl rfl rfl (.row rfl) (.lit (e := byteSV) (l := [UInt8.ofNat ((8 + body.length) / 256), UInt8.ofNat (8 + body.length)]) rfl htb) (by simp) (by rw [hl]; simp only [List.length_cons, List.length_nil]; omega) (by rw [hl]; simp only [List.length_cons, List.length_nil]; omega)) rfl rfl ?_
    (refine rg ?_;(conv=>whnf))
    refine ⟨by unfold I64; omega, ?_⟩
    (conv=>whnf)
    exact G_next [(1000, 46)] (by decide) ⟨⟨rfl, rfl, rfl, rfl, rfl, rfl, rfl, rfl, trivial⟩, ⟨.inl (congrArg (Ob.row 1 byteSV) hs), rfl, trivial⟩, rfl, rfl⟩
  · have hs : wordsL (ws.take 4) = wordsL (ws.take 3) ++ [UInt8.ofNat (0 / 256), UInt8.ofNat 0] := by subst hws; exact wordsL_snoc [src, dst, 8 + body.length] 0
    have hl := hwl (ws.take 3)
    have hl2 : (ws.take 3).length ≤ 4 := by rw [List.length_take]; omega
    have htb := two_bytes 0
    (refine rg ?_;(conv=>whnf);refine aT ?_;refine rg ?_;(conv=>whnf))
    refine stepOp (good_index_arrV (k := .int .i64) Γ.toTy rfl rfl rfl Tryz.underlying3 rfl rfl (by decide) (by decide) rfl) rfl rfl ?_
    (refine rg ?_;(conv=>whnf))
    refine ⟨by decide, ?_⟩
    (conv=>whnf)
    refine stepOp (good_appendT Γ.toTy 46 rfl rfl rfl rfl rfl (.row rfl) (.lit (e := byteSV) (l := [UInt8.ofNat (0 / 256), UInt8.ofNat 0]) rfl htb) (by simp) (by rw [hl]; simp only [List.length_cons, List.length_nil]; omega) (by rw [hl]; simp only [List.length_cons, List.length_nil]; omega)) rfl rfl ?_
    (refine rg ?_;(conv=>whnf))
    refine ⟨by unfold I64; omega, ?_⟩
    (conv=>whnf)
    exact G_next [(1000, 46)] (by decide) ⟨⟨rfl, rfl, rfl, rfl, rfl, rfl, rfl, rfl, trivial⟩, ⟨.inl (congrArg (Ob.row 1 byteSV) hs), rfl, trivial⟩, rfl, rfl⟩
  have hl := hwl (ws.take 4)
  have e : ws.take 4 = [src, dst, 8 + body.length, 0] := by rw [hws]; rfl
  rw [e] at hl ⊢
  have hl3 : (wordsL [src, dst, 8 + body.length, 0]).length = 8 := hl
  (refine rg ?_;(conv=>whnf);refine aF ?_;refine rg ?_;(conv=>whnf))
  refine stepOp (good_appendT Γ.toTy 50 rfl rfl rfl rfl rfl (.row rfl) .sl (by simp) (by rw [hl3]; simp; omega) (by rw [hl3]; omega)) rfl rfl ?_
  refine G_data 50 rfl ?_
  (refine rg ?_;(conv=>whnf))
  exact done0 rfl (.cons .tmp (.cons .tmp .nil)) rfl rfl
end Go.Sy.YtmelpejjondedaaGreat

namespace Go.Sy.YtmelpejjondedaaGreat
open Go.Proofs
attribute [local irreducible] Go.Sy.G Go.Sy.DR
set_option maxRecDepth 100000
set_option maxHeartbeats 4000000
theorem udpPortS (a b : Nat) (ha : a < 18446744073709551616) (hb : b < 18446744073709551616) : Sy.Spec Tryz.prog 311 [u64SV a, u64SV b] [] (intSV (udpPort a b : Nat)) [] := contract Γ hm 100 F311 Tryz.ntmps311 rfl fun F hF => by
  have hx := bits_xor_u64_nat a b ha hb
  have hmd : ((a ^^^ b : Nat) : Int).tmod 16384 = (((a ^^^ b) % 16384 : Nat) : Int) := by rw [Int.tmod_eq_emod_of_nonneg (by omega)]; omega
  have hl := Nat.mod_lt (a ^^^ b) (show 0 < 16384 by decide)
  have hw : IntKind.i64.wrap (((a ^^^ b) % 16384 : Nat) : Int) = (((a ^^^ b) % 16384 : Nat) : Int) := by rw [IntKind.wrap_i64]; omega
  (conv=>whnf)
  refine ⟨by decide, ?_⟩
  rw [hx, hmd]
  (conv=>whnf)
  rw [hw]
  refine ⟨by unfold I64; omega, ?_⟩
  (conv=>whnf)
  refine done0 rfl (.cons .tmp .nil) ?_ rfl
  refine congrArg (fun z : Int => SV.val (.int .i64 z)) ?_
  rw [udpPort]
  omega
theorem headBad (v : Int) (h : vniBad v = true) : Sy.Spec Tryz.prog 309 [intSV v] [] (.tup [.sl 1 byteSV [], intSV 17]) [] := contract Γ hm 100 F309 Tryz.ntmps309 rfl fun F hF => by
  simp only [vniBad, Bool.or_eq_true, decide_eq_true_eq] at h
  (conv=>whnf)
  refine ⟨fun h1 => ?_, fun h1 => ?_⟩
  · (refine rg ?_;(conv=>whnf);refine aT ?_;refine rg ?_;(conv=>whnf))
    refine G_nilsl 2 1 byteSV rfl ?_
    exact done0 rfl (.cons .tmp (.cons .tmp .nil)) rfl rfl
  (refine rg ?_;(conv=>whnf))
  refine ⟨fun h2 => ?_, fun h2 => absurd (of_decide_eq_false h2) (by have := of_decide_eq_false h1; omega)⟩
  (refine rg ?_;(conv=>whnf))
  refine G_nilsl 2 1 byteSV rfl ?_
  exact done0 rfl (.cons .tmp (.cons .tmp .nil)) rfl rfl
theorem vni_good {v : Int} (h : vniBad v = false) : 1 ≤ v ∧ v ≤ 16777215 := by
  simp only [vniBad, Bool.or_eq_false_iff, decide_eq_false_iff_not] at h
  omega
theorem head_list (k : Nat) : (headB k).map byteSV = [SV.val (.int .u8 8), SV.val (.int .u8 0), SV.val (.int .u8 0), SV.val (.int .u8 0), SV.val (.int .u8 (IntKind.u8.wrap ((k : Int).fdiv (2 ^ (min (Int.toNat 16) IntKind.i64.bits))))),
    SV.val (.int .u8 (IntKind.u8.wrap ((k : Int).fdiv (2 ^ (min (Int.toNat 8) IntKind.i64.bits))))), SV.val (.int .u8 (IntKind.u8.wrap (k : Int))), SV.val (.int .u8 0)] := by
  have h1 : IntKind.u8.wrap ((k : Int).fdiv (2 ^ (min (Int.toNat 16) IntKind.i64.bits))) = ((UInt8.ofNat (k / 65536)).toNat : Int) := by
    show IntKind.u8.wrap ((k : Int).fdiv 65536) = _
    rw [Int.fdiv_eq_ediv_of_nonneg _ (by decide), IntKind.wrap_u8]
    simp
  have h2 : IntKind.u8.wrap ((k : Int).fdiv (2 ^ (min (Int.toNat 8) IntKind.i64.bits))) = ((UInt8.ofNat (k / 256)).toNat : Int) := by
    show IntKind.u8.wrap ((k : Int).fdiv 256) = _
    rw [Int.fdiv_eq_ediv_of_nonneg _ (by decide), IntKind.wrap_u8]
    simp
  have h3 := u8_of k
  rw [h1, h2, h3]
  rfl
theorem headOk (k : Nat) (h : 1 ≤ k ∧ k ≤ 16777215) : Sy.Spec Tryz.prog 309 [intSV k] [] (.tup [.osl 0, intSV 0]) [(0, .row 1 byteSV (headB k))] := contract Γ hm 100 F309 Tryz.ntmps309 rfl fun F hF => by
  have hl := head_list k
  (conv=>whnf)
  refine ⟨fun h1 => absurd (of_decide_eq_true h1) (by omega), fun _ => ?_⟩
  (refine rg ?_;(conv=>whnf))
  refine ⟨fun h1 => absurd (of_decide_eq_true h1) (by omega), fun _ => ?_⟩
  (refine rg ?_;(conv=>whnf))
  refine ⟨by decide, ?_⟩
  (conv=>whnf)
  refine ⟨by decide, ?_⟩
  (conv=>whnf)
  refine G_litR 18 byteSV (headB k) rfl hl ?_
  exact done rfl (.cons .tmp (.cons .tmp .nil)) [(0, 18)] [(0, .row 1 byteSV (headB k))] (fun _ h => h) rfl rfl ⟨trivial, ⟨.inl rfl, rfl, trivial⟩, rfl, rfl⟩
end Go.Sy.YtmelpejjondedaaGreat
