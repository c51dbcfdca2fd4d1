/-
  Contracts: what a domain learns, what goes out, what is lost (bridge, palingref31). Contracts: one frame, one step in one domain (bridge.Step). Printed by mkK44.py. Contracts: the machine's tables and queues (sim). Contracts: what comes into a queue, what is taken out of it (sim). Contracts: something goes where it goes (sim). Contracts: which links forward, found once (sync.Once). Contracts: sync.Once's slow road. Contracts: sync.Once; which links forward. Plain facts: what a bridge sends out; things that go in order. Contracts: a frame is picked; time goes on (sim). Contracts: time goes on (sim). Contracts: a machine does a step (sim). Contracts: a new machine (sim). Plain facts of runs; contract of sim.Run. Contracts: what was seen is like itself; tables, queues. Contracts: one frame, one step in one domain, by the document (palingref31.Step). Printed by mkK45.py. The symbolic layer, 39: a number at a place of a box that is reckoned. The document's machine in memory; what comes, what is taken (palingref33). The document's machine: what is taken, where something goes (palingref33). What forwards closes no ring, and joins what links that are up join. Contracts: join, places (palinglaw25). Contracts: the chapter's example of trees. Contracts: the chapter's example of trees, 2. Contracts: the laws of trees, 1: of one link alone. Contracts: the laws of trees, 3: what is cheap. What the document's devices know in the end: the roots and costs that no link betters, and the best ports. Contracts: the document's answer of layer 25 (palingref25), 1. Contracts: the document's answer of layer 25 (palingref25), 2: what devices know. Contracts: the document's answer of layer 25 (palingref25), 3. Contracts: the document's answer of layer 25 (palingref25), 4; what devices are told. The document's machine: a frame is picked (palingref33). (Printed by mkY3.py.) The document's machine does a step (palingref33). (Printed by mkY4.py.) The document's new machine (palingref33). (Printed by mkY5.py.) A script that is too great (palinglaw33.Great). The symbolic layer, 23: arguments that are data are opened, type by type.
-/
import Derived.Test.YtmelpejjondedaaGreatB9
import Derived.Test.YtmelpejjondedaaGreatB8
import Derived.Tactics
import Derived.Tactics2
import Derived.Defers
import Derived.Laws.Pointers
import Derived.Laws.LoneSync
import Derived.RegionTactic
import Derived.RegionCalls
import Derived.ChangeAlike
import Derived.Laws.NewBlocks
import Derived.Test.YtmelpejjondedaaGreatB3
import Derived.Test.YtmelpejjondedaaGreatB7
import Derived.Test.YtmelpejjondedaaGreatB5
import Derived.Test.YtmelpejjondedaaGreatB4
import Derived.Test.YtmelpejjondedaaGreatB6

namespace Go.Sy.YtmelpejjondedaaGreat
open Go.Proofs
attribute [local irreducible] Go.Sy.G Go.Sy.DR
set_option maxRecDepth 100000
set_option maxHeartbeats 4000000
theorem bridgeLearnS (t : List EntryM) (q : QueuedM) (now : Int) (ht : TabOK t) (hq : QueuedOK q) : Sy.Spec Tryz.prog 172 [.sl 3 entrySV t, queuedSV q, intSV now] [] (.sl 3 entrySV (learnQ t q now)) [] := contract Γ hm 100 F172 Tryz.ntmps172 rfl fun F hF => by
  have hres := learnQ.eq_1 t q now
  generalize learnQ t q now = res at *
  have hl := ht.short
  have hl2 := hl
  unfold Short at hl2
  have hs := hq.frame.src
  have h1 := hq.peer
  (conv=>whnf)
  refine ⟨fun h => ?_, fun h => ?_⟩
  · rw [if_pos (by simpa using h)] at hres
    subst hres
    (refine rg ?_;(conv=>whnf))
    refine stepOp (good_call [(0, 55)] rfl F48 (cloneEntryS res hl2) rfl trivial rfl ⟨.inr rfl, trivial⟩) rfl rfl ?_
    refine G_data 55 rfl ?_
    (refine rg ?_;(conv=>whnf))
    exact done0 rfl (.cons .tmp .nil) rfl rfl
  rw [if_neg (by simpa using h)] at hres
  clear h
  (refine rg ?_;(conv=>whnf))
  refine ⟨fun h => ?_, fun h => ?_⟩
  · rw [if_pos (by simpa using h)] at hres
    subst hres
    (refine rg ?_;(conv=>whnf))
    refine ⟨by unfold I64; omega, ?_⟩
    (conv=>whnf)
    refine call0 (tabLearnS t q.frame.src (-1 - q.peer) now hl ht.mac (by omega)) F243 rfl rfl rfl rfl rfl ?_
    (refine rg ?_;(conv=>whnf))
    exact done0 rfl (.cons .tmp .nil) rfl rfl
  rw [if_neg (by simpa using h)] at hres
  subst hres
  (refine rg ?_;(conv=>whnf))
  refine call0 (tabLearnS t q.frame.src q.from_ now hl ht.mac (by omega)) F243 rfl rfl rfl rfl rfl ?_
  (refine rg ?_;(conv=>whnf))
  exact done0 rfl (.cons .tmp .nil) rfl rfl
def outZ (k p d : Int) : OutM := ⟨k, p, d, [], noF, 0⟩
theorem lostT_z (k p d : Int) (b : List UInt8) (e : Int) : lostT (outZ k p d) (b, e) = if e ≠ 0 then ⟨5, p, d, [], noF, e⟩ else ⟨k, p, d, b, noF, 0⟩ := rfl
theorem bridgePutC (l : List OutM) (k p d : Int) (b : List UInt8) (e : Int) (hl : l.length < 100000000000) :
    Sy.Spec Tryz.prog 175 [outSV (outZ k p d), .sl 1 byteSV b, intSV e, .ptr 0 0] [(0, .box [.osl 1]), (1, .row 9 outSV l)] (.tup []) [(0, .box [.osl 2]), (1, .non), (2, .row 9 outSV (l ++ [lostT (outZ k p d) (b, e)]))] := contract Γ hm 100 F175 Tryz.ntmps175 rfl fun F hF => by
  have hres := lostT_z k p d b e
  generalize lostT (outZ k p d) (b, e) = res at *
  (conv=>whnf)
  refine ⟨fun h => ?_, fun h => ?_⟩
  · rw [if_pos (by simpa using h)] at hres
    (refine rg ?_;(conv=>whnf))
    refine G_litV 17 [outSV ⟨5, p, d, [], noF, e⟩] rfl (.cons (.agg (.cons (.refl _) (.cons (.refl _) (.cons (.refl _) (.cons .nil (.cons (.refl _) (.cons (.refl _) (.cons (.refl _) (.cons (.refl _) (.cons (.refl _) .nil)))))))))) .nil) rfl ?_
    refine stepOp (good_appendT Γ.toTy 18 rfl rfl rfl rfl rfl (.row rfl) (.lit (e := outSV) (l := [res]) rfl (by rw [hres]; rfl)) (by decide) (by simp; omega) (by simp; omega)) rfl rfl ?_
    (refine rg ?_;(conv=>whnf))
    exact done_end rfl .nil [(2, 18)] [(0, .box [.osl 2]), (1, .non), (2, .row 9 outSV (l ++ [res]))] (fun _ h => h) rfl rfl ⟨trivial, ⟨.inl rfl, rfl, .inl rfl, rfl, .inl rfl, rfl, trivial⟩, rfl, rfl⟩
  · rw [if_neg (by simpa using h)] at hres
    (refine rg ?_;(conv=>whnf))
    refine stepOp (good_appendT Γ.toTy 18 rfl rfl rfl rfl rfl (.row rfl) (.lit (e := outSV) (l := [res]) rfl (by rw [hres]; rfl)) (by decide) (by simp; omega) (by simp; omega)) rfl rfl ?_
    (refine rg ?_;(conv=>whnf))
    exact done_end rfl .nil [(2, 18)] [(0, .box [.osl 2]), (1, .non), (2, .row 9 outSV (l ++ [res]))] (fun _ h => h) rfl rfl ⟨trivial, ⟨.inl rfl, rfl, .inl rfl, rfl, .inl rfl, rfl, trivial⟩, rfl, rfl⟩
theorem find_wh {t : List EntryM} (ht : TabOK t) (m : Nat) : I64 (findE t m).1 := by
  unfold findE
  split
  · unfold I64; dsimp only; omega
  · rename_i h
    have hlt : indexE t m < t.length := idxI_lt _ _
    have hk : (indexE t m).toNat < t.length := by omega
    dsimp only
    rw [List.getElem?_eq_getElem hk]
    exact ht.wh _ (List.getElem_mem hk)
theorem portsOut_mem {n : Net} {fw : List Bool} {fr : Int} {l : List Int} {p : Int} (h : p ∈ portsOut n fw fr l) : p ∈ l := (List.mem_filter.1 h).1
theorem decide_ports {n : Net} (hb : netRightB n = true) (fw : List Bool) (t : List EntryM) (dom fr : Int) (m : Nat) : ∀ p ∈ (decideT n fw t dom fr m).1, 0 ≤ p ∧ p < n.ports.length := by
  intro p hp
  unfold decideT at hp
  split at hp
  · cases hp
  split at hp
  · exact members_ports p (portsOut_mem hp)
  split at hp
  · rename_i h1
    obtain ⟨hs1, hs2⟩ := static_there hb dom m
    have h2 := hs1.2 h1
    have h3 := static_port hb dom m h2
    have h4 := List.mem_singleton.1 (portsOut_mem hp)
    rw [h4, ← hs2 h1]
    exact ⟨h2, h3⟩
  split at hp
  · rename_i h1
    rw [List.mem_singleton.1 (portsOut_mem hp)]
    exact members_ports _ (inB_mem.1 h1.2.2)
  split at hp
  · cases hp
  · exact members_ports p (portsOut_mem hp)
theorem portsOut_few (n : Net) (fw : List Bool) (fr : Int) (l : List Int) : (portsOut n fw fr l).length ≤ l.length := List.length_filter_le _ _
theorem peersOut_few {n : Net} (hn : n.Fin) (dom fr : Int) (hd : placeB dom n.domains.length = true) : (peersOut n dom fr).length < 2147483648 := by
  unfold peersOut
  split
  · decide
  · have h := placeB_dom hd
    rw [nth_eq h.2]
    exact hn.peers _ (List.getElem_mem h.2)
theorem decide_few {n : Net} (hn : n.Fin) (fw : List Bool) (t : List EntryM) (dom fr : Int) (m : Nat) : (decideT n fw t dom fr m).1.length < 2147483648 ∧ (decideT n fw t dom fr m).2.1.length < 2147483648 := by
  have h1 := members_few n dom
  have h2 := hn.ports
  unfold Short at h2
  have h3 := fun l => portsOut_few n fw fr l
  unfold decideT
  split
  · decide
  rename_i h
  have hd : placeB dom n.domains.length = true := by
    cases hx : placeB dom n.domains.length
    · exact absurd (by rw [roomB, hx]; rfl) h
    · rfl
  have h4 := peersOut_few hn dom fr hd
  split
  · have := h3 (membersL n dom); exact ⟨by dsimp only; omega, h4⟩
  split
  · have := h3 [(nth n.statics (staticI n dom m)).port]; simp only [List.length_cons, List.length_nil] at this; exact ⟨by dsimp only; omega, by show (0 : Nat) < 2147483648; decide⟩
  split
  · have := h3 [(findE t m).1]; simp only [List.length_cons, List.length_nil] at this; exact ⟨by dsimp only; omega, by show (0 : Nat) < 2147483648; decide⟩
  split
  · refine ⟨by show (0 : Nat) < 2147483648; decide, ?_⟩
    dsimp only
    split <;> simp
  · have := h3 (membersL n dom); exact ⟨by dsimp only; omega, h4⟩
end Go.Sy.YtmelpejjondedaaGreat

namespace Go.Sy.YtmelpejjondedaaGreat
open Go.Proofs
attribute [local irreducible] Go.Sy.G Go.Sy.DR
set_option maxRecDepth 100000
set_option maxHeartbeats 4000000
theorem bridgeStepS (n : Net) (hn : n.Fin) (hm0 : n.Num) (fw : List Bool) (t : List EntryM) (dom : Int) (q : QueuedM) (now : Int) (ht : TabOK t) (hq : QueuedOK q) :
    Sy.Spec Tryz.prog 102 [netSV n, .sl 1 boolSV fw, .sl 3 entrySV t, intSV dom, queuedSV q, intSV now] [] (.tup [.sl 3 entrySV (bridgeT n fw t dom q now).1, .sl 9 outSV (bridgeT n fw t dom q now).2.1, intSV (bridgeT n fw t dom q now).2.2]) [] := contract Γ hm 100 F102 Tryz.ntmps102 rfl fun F hF => by
  have hres := bridgeT.eq_1 n fw t dom q now
  generalize bridgeT n fw t dom q now = res at *
  have qf := floodS n hn fw dom q.from_
  have qr := tabRightS t ht.short ht.mac
  (conv=>whnf)
  refine G_box 6 8 (netSV n) rfl rfl rfl ?_
  refine G_box 10 7 (queuedSV q) rfl rfl rfl ?_
  (refine rg ?_;(conv=>whnf))
  cases hroom : roomB n fw dom q.from_
  · rw [if_pos (.inl hroom)] at hres
    subst hres
    rw [floodT, if_pos hroom] at qf
    refine call0 qf F171 rfl rfl rfl rfl rfl ?_
    (refine rg ?_;(conv=>whnf);refine aT ?_;refine rg ?_;(conv=>whnf);refine aT ?_;refine rg ?_;(conv=>whnf))
    refine G_boxV 13 [.sl 9 outSV []] rfl (.cons .nil .nil) ?_
    refine G_nilsl 12 3 entrySV rfl ?_
    exact done0 rfl (.cons .tmp (.cons (.cell rfl rfl rfl rfl) (.cons .tmp .nil))) rfl rfl
  rw [floodT, if_neg (by rw [hroom]; decide)] at qf
  refine call0 qf F171 rfl rfl rfl rfl rfl ?_
  (refine rg ?_;(conv=>whnf);refine aF ?_;refine rg ?_;(conv=>whnf))
  refine call0 qr F47 rfl rfl rfl rfl rfl ?_
  cases htb : tableB t
  · rw [if_pos (.inr htb)] at hres
    subst hres
    (refine rg ?_;(conv=>whnf);refine aT ?_;refine rg ?_;(conv=>whnf))
    refine G_boxV 13 [.sl 9 outSV []] rfl (.cons .nil .nil) ?_
    refine G_nilsl 12 3 entrySV rfl ?_
    exact done0 rfl (.cons .tmp (.cons (.cell rfl rfl rfl rfl) (.cons .tmp .nil))) rfl rfl
  rw [if_neg (by simp [hroom, htb])] at hres
  have ql := bridgeLearnS t q now ht hq
  have hu := learnQ_ok ht hq now
  generalize learnQ t q now = u at *
  have qro := vrfsRouterS n hn hm0 dom q.frame.dst
  generalize routerT n dom q.frame.dst = ro at *
  obtain ⟨irb, ok⟩ := ro
  dsimp only at hres qro
  have hbn : netRightB n = true := by
    simp only [roomB, Bool.and_eq_true] at hroom
    exact hroom.1.2
  (refine rg ?_;(conv=>whnf);refine aF ?_;refine rg ?_;(conv=>whnf))
  refine call0 ql F172 rfl rfl rfl rfl rfl ?_
  (refine rg ?_;(conv=>whnf))
  refine call0 qro F173 rfl rfl rfl rfl rfl ?_
  cases ok
  rotate_left
  · rw [if_pos rfl] at hres
    have qh := routeHopS n hn hm0 irb q.frame hq.frame
    generalize hopT n irb q.frame = hp at *
    obtain ⟨to, g, e⟩ := hp
    dsimp only at hres qh
    (refine rg ?_;(conv=>whnf);refine aT ?_;refine rg ?_;(conv=>whnf))
    refine call0 qh F174 rfl rfl rfl rfl rfl ?_
    (refine rg ?_;(conv=>whnf))
    refine ⟨fun h => ?_, fun h => ?_⟩
    · rw [if_pos (by simpa using h)] at hres
      subst hres
      (refine rg ?_;(conv=>whnf))
      refine G_boxV 13 [.sl 9 outSV []] rfl (.cons .nil .nil) ?_
      exact done0 rfl (.cons .tmp (.cons (.cell rfl rfl rfl rfl) (.cons .tmp .nil))) rfl rfl
    · rw [if_neg (by simpa using h)] at hres
      subst hres
      (refine rg ?_;(conv=>whnf))
      refine ⟨(by kernel_rfl), ?_⟩
      (conv=>whnf)
      refine G_litV 84 [outSV ⟨4, 0, to, [], g, 0⟩] rfl (.cons (.agg (.cons (.refl _) (.cons (.refl _) (.cons (.refl _) (.cons .nil (.cons (.refl _) (.cons (.refl _) (.cons (.refl _) (.cons (.refl _) (.cons (.refl _) .nil)))))))))) .nil) rfl ?_
      refine G_litR 84 outSV [⟨4, 0, to, [], g, 0⟩] rfl rfl ?_
      refine G_data 84 rfl ?_
      exact done0 rfl (.cons .tmp (.cons (.cell rfl rfl rfl rfl) (.cons .tmp .nil))) rfl rfl
  rw [if_neg (by decide)] at hres
  have hs := hq.frame.src
  have hd2 := hq.frame.dst
  have hfw := find_wh hu q.frame.dst
  have qd := decideS n hn fw u dom q.from_ q.frame.dst hu.short (by unfold I64 at *; omega) (by omega)
  have hports := decide_ports hbn fw u dom q.from_ q.frame.dst
  have hfew := decide_few hn fw u dom q.from_ q.frame.dst
  generalize decideT n fw u dom q.from_ q.frame.dst = dc at *
  obtain ⟨ports, peers, e0⟩ := dc
  dsimp only at hres qd hports hfew
  obtain ⟨hf1, hf2⟩ := hfew
  (refine rg ?_;(conv=>whnf);refine aF ?_;refine rg ?_;(conv=>whnf))
  refine call0 qd F176 rfl rfl rfl rfl rfl ?_
  (refine rg ?_;(conv=>whnf))
  refine G_adoptB 13 0 1000 9 outSV rfl rfl rfl rfl ?_
  refine G_count ports.length (fun j => [(3, intSV dom), (6, .ref 8 (netSV n) 0), (10, .ref 7 (queuedSV q) 0), (12, .sl 3 entrySV u), (13, .ptr 13 0), (23, .clo (.func 175) [] [.ptr 13 0]), (25, .sl 1 intSV peers), (100, .sl 1 intSV ports), (101, intSV ports.length), (102, intSV j)])
    (fun j => [(13, .box [.osl 1000]), (1000, .row 9 outSV ((ports.take j).map (outP n dom q.frame)))]) [(13, 13), (1000, 1000)] ⟨⟨rfl, rfl, rfl, rfl, rfl, rfl, rfl, rfl, rfl, rfl, rfl, rfl, rfl, rfl, rfl, rfl, rfl, rfl, rfl, rfl, trivial⟩, ⟨.inl rfl, rfl, .inl rfl, rfl, trivial⟩, rfl, rfl⟩ ?_
  intro j hj
  (refine rg ?_;(conv=>whnf))
  refine ⟨fun h => ?_, fun h => ?_⟩
  · have hlt : j < ports.length := by have := of_decide_eq_true h; omega
    have hj0 : ((j : Nat) : Int).toNat < ports.length := by simpa using hlt
    obtain ⟨p, hp⟩ : ∃ p, ports[j] = p := ⟨_, rfl⟩
    have e1 : ports[((j : Nat) : Int).toNat]'hj0 = p := hp
    have hs : (ports.take (j + 1)).map (outP n dom q.frame) = (ports.take j).map (outP n dom q.frame) ++ [outP n dom q.frame p] := by
      rw [List.take_succ_eq_append_getElem hlt, List.map_append, hp]; rfl
    have hal : ((ports.take j).map (outP n dom q.frame)).length = j := by rw [List.length_map, List.length_take]; omega
    have hpi := hports p (by rw [← hp]; exact List.getElem_mem hlt)
    have hpk : p.toNat < n.ports.length := by omega
    have ql := leaveAtS n hn p dom q.frame hq.frame
    have hop : outP n dom q.frame p = lostT (outZ (if (nth n.ports p).link < 0 then 1 else 2) p 0) ((leaveT n p dom q.frame).1, (leaveT n p dom q.frame).2) := rfl
    rw [hop, nth_eq hpk] at hs
    clear hop
    obtain ⟨acc, hacc⟩ : ∃ acc, (ports.take j).map (outP n dom q.frame) = acc := ⟨_, rfl⟩
    rw [hacc] at hs hal ⊢
    obtain ⟨x, hx⟩ : ∃ x, n.ports[p.toNat]'hpk = x := ⟨_, rfl⟩
    rw [hx] at hs
    clear h
    (refine rg ?_;(conv=>whnf))
    refine ⟨rfl, by omega, hj0, ?_⟩
    rw [e1]
    (conv=>whnf)
    refine ⟨rfl, hpi.1, hpk, ?_⟩
    rw [hx]
    (conv=>whnf)
    refine ⟨fun h => ?_, fun h => ?_⟩
    · rw [if_neg (by have := of_decide_eq_true h; omega)] at hs
      (refine rg ?_;(conv=>whnf))
      refine call0 ql F177 rfl rfl rfl rfl rfl ?_
      (refine rg ?_;(conv=>whnf))
      refine stepOp (good_callVE [(0, 13), (1, 1000), (2, 1001)] [] (enters_clo rfl rfl F175) (bridgePutC acc 2 p 0 (leaveT n p dom q.frame).1 (leaveT n p dom q.frame).2 (by omega)) (.cons (.agg (.cons (.refl _) (.cons (.refl _) (.cons (.refl _) (.cons .nil (.cons (.refl _) (.cons (.refl _) (.cons (.refl _) (.cons .nil (.cons (.refl _) .nil)))))))))) (.cons (.refl _) (.cons (.refl _) (.cons (.refl _) .nil)))) ⟨rfl, rfl, trivial⟩ rfl ⟨.inl rfl, .inl rfl, .inr rfl, trivial⟩ rfl) rfl rfl ?_
      (refine rg ?_;(conv=>whnf))
      refine ⟨by unfold I64; omega, ?_⟩
      (conv=>whnf)
      exact G_next [(13, 13), (1000, 1001)] hlt ⟨⟨rfl, rfl, rfl, rfl, rfl, rfl, rfl, rfl, rfl, rfl, rfl, rfl, rfl, rfl, rfl, rfl, rfl, rfl, rfl, rfl, trivial⟩, ⟨.inl rfl, rfl, .inl (congrArg (Ob.row 9 outSV) hs), rfl, trivial⟩, rfl, rfl⟩
    · rw [if_pos (by have := of_decide_eq_false h; omega)] at hs
      (refine rg ?_;(conv=>whnf))
      refine call0 ql F177 rfl rfl rfl rfl rfl ?_
      (refine rg ?_;(conv=>whnf))
      refine stepOp (good_callVE [(0, 13), (1, 1000), (2, 1001)] [] (enters_clo rfl rfl F175) (bridgePutC acc 1 p 0 (leaveT n p dom q.frame).1 (leaveT n p dom q.frame).2 (by omega)) (.cons (.agg (.cons (.refl _) (.cons (.refl _) (.cons (.refl _) (.cons .nil (.cons (.refl _) (.cons (.refl _) (.cons (.refl _) (.cons .nil (.cons (.refl _) .nil)))))))))) (.cons (.refl _) (.cons (.refl _) (.cons (.refl _) .nil)))) ⟨rfl, rfl, trivial⟩ rfl ⟨.inl rfl, .inl rfl, .inr rfl, trivial⟩ rfl) rfl rfl ?_
      (refine rg ?_;(conv=>whnf))
      refine ⟨by unfold I64; omega, ?_⟩
      (conv=>whnf)
      exact G_next [(13, 13), (1000, 1001)] hlt ⟨⟨rfl, rfl, rfl, rfl, rfl, rfl, rfl, rfl, rfl, rfl, rfl, rfl, rfl, rfl, rfl, rfl, rfl, rfl, rfl, rfl, trivial⟩, ⟨.inl rfl, rfl, .inl (congrArg (Ob.row 9 outSV) hs), rfl, trivial⟩, rfl, rfl⟩
  have hjj : j = ports.length := by have := of_decide_eq_false h; omega
  subst hjj
  clear h
  rw [List.take_length]
  obtain ⟨acc0, hacc0⟩ : ∃ acc0, ports.map (outP n dom q.frame) = acc0 := ⟨_, rfl⟩
  have hal0 : acc0.length = ports.length := by rw [← hacc0, List.length_map]
  rw [hacc0] at hres ⊢
  (refine rg ?_;(conv=>whnf))
  refine G_count peers.length (fun j => [(3, intSV dom), (6, .ref 8 (netSV n) 0), (10, .ref 7 (queuedSV q) 0), (12, .sl 3 entrySV u), (13, .ptr 13 0), (23, .clo (.func 175) [] [.ptr 13 0]), (130, .sl 1 intSV peers), (131, intSV peers.length), (132, intSV j)])
    (fun j => [(13, .box [.osl 1000]), (1000, .row 9 outSV (acc0 ++ (peers.take j).map (outM n dom q.frame)))]) [(13, 13), (1000, 1000)] ⟨⟨rfl, rfl, rfl, rfl, rfl, rfl, rfl, rfl, rfl, rfl, rfl, rfl, rfl, rfl, rfl, rfl, rfl, rfl, trivial⟩, ⟨.inl rfl, rfl, .inl (congrArg (Ob.row 9 outSV) (by simp)), rfl, trivial⟩, rfl, rfl⟩ ?_
  intro j hj
  (refine rg ?_;(conv=>whnf))
  refine ⟨fun h => ?_, fun h => ?_⟩
  · have hlt : j < peers.length := by have := of_decide_eq_true h; omega
    have hj0 : ((j : Nat) : Int).toNat < peers.length := by simpa using hlt
    obtain ⟨p, hp⟩ : ∃ p, peers[j] = p := ⟨_, rfl⟩
    have e1 : peers[((j : Nat) : Int).toNat]'hj0 = p := hp
    have hs : acc0 ++ (peers.take (j + 1)).map (outM n dom q.frame) = (acc0 ++ (peers.take j).map (outM n dom q.frame)) ++ [outM n dom q.frame p] := by
      rw [List.take_succ_eq_append_getElem hlt, List.map_append, hp, List.append_assoc]; rfl
    have hal : (acc0 ++ (peers.take j).map (outM n dom q.frame)).length ≤ ports.length + j := by rw [List.length_append, List.length_map, List.length_take]; omega
    have ql := leaveMeshS n hn hm0 dom p q.frame hq.frame
    have hop : outM n dom q.frame p = lostT (outZ 3 0 p) ((meshT n dom p q.frame).1, (meshT n dom p q.frame).2) := rfl
    rw [hop] at hs
    clear hop
    obtain ⟨acc, hacc⟩ : ∃ acc, acc0 ++ (peers.take j).map (outM n dom q.frame) = acc := ⟨_, rfl⟩
    rw [hacc] at hs hal ⊢
    clear h
    (refine rg ?_;(conv=>whnf))
    refine ⟨rfl, by omega, hj0, ?_⟩
    rw [e1]
    (conv=>whnf)
    refine call0 ql F178 rfl rfl rfl rfl rfl ?_
    (refine rg ?_;(conv=>whnf))
    refine stepOp (good_callVE [(0, 13), (1, 1000), (2, 1001)] [] (enters_clo rfl rfl F175) (bridgePutC acc 3 0 p (meshT n dom p q.frame).1 (meshT n dom p q.frame).2 (by omega)) (.cons (.agg (.cons (.refl _) (.cons (.refl _) (.cons (.refl _) (.cons .nil (.cons (.refl _) (.cons (.refl _) (.cons (.refl _) (.cons .nil (.cons (.refl _) .nil)))))))))) (.cons (.refl _) (.cons (.refl _) (.cons (.refl _) .nil)))) ⟨rfl, rfl, trivial⟩ rfl ⟨.inl rfl, .inl rfl, .inr rfl, trivial⟩ rfl) rfl rfl ?_
    (refine rg ?_;(conv=>whnf))
    refine ⟨by unfold I64; omega, ?_⟩
    (conv=>whnf)
    exact G_next [(13, 13), (1000, 1001)] hlt ⟨⟨rfl, rfl, rfl, rfl, rfl, rfl, rfl, rfl, rfl, rfl, rfl, rfl, rfl, rfl, rfl, rfl, rfl, rfl, trivial⟩, ⟨.inl rfl, rfl, .inl (congrArg (Ob.row 9 outSV) hs), rfl, trivial⟩, rfl, rfl⟩
  have hjj : j = peers.length := by have := of_decide_eq_false h; omega
  subst hjj
  clear h
  rw [List.take_length]
  subst hres
  (refine rg ?_;(conv=>whnf))
  refine ⟨(by kernel_rfl), ?_⟩
  (conv=>whnf)
  refine G_data 1000 rfl ?_
  exact done0 rfl (.cons .tmp (.cons (.cell rfl rfl rfl rfl) (.cons .tmp .nil))) rfl rfl
end Go.Sy.YtmelpejjondedaaGreat

namespace Go.Sy.YtmelpejjondedaaGreat
open Go.Proofs
attribute [local irreducible] Go.Sy.G Go.Sy.DR
set_option maxRecDepth 100000
set_option maxHeartbeats 4000000
theorem queue_bodies {l : List QueuedM} (h : QueueOK l) : l.length < 1000000 ∧ BodiesOK l := ⟨by have := h.1; omega, fun q hq => by have := (h.2 q hq).frame.body; omega⟩
theorem getD_eq {α : Type} {l : List α} {i : Nat} (h : i < l.length) (d : α) : (l[i]?).getD d = l[i] := by
  rw [List.getElem?_eq_getElem h]; rfl
theorem placeB_iff {d : Int} {k : Nat} : placeB d k = true ↔ 0 ≤ d ∧ d.toNat < k := by
  simp only [placeB, Bool.and_eq_true, decide_eq_true_eq]; omega
end Go.Sy.YtmelpejjondedaaGreat

namespace Go.Sy.YtmelpejjondedaaGreat
open Go.Proofs
attribute [local irreducible] Go.Sy.G Go.Sy.DR
set_option maxRecDepth 100000
set_option maxHeartbeats 4000000
def DropsOK (m : MacM) : Prop := ∀ i, 0 ≤ m.drops i ∧ m.drops i ≤ 1000000000000
theorem simComeS (n : Net) (m : MacM) (d : Bool) (dom : Int) (q : QueuedM) (e : Int) (he : 0 ≤ e ∧ e < 64) (hd : e = 0 → 0 ≤ dom ∧ dom.toNat < m.queues.length) (hb : DropsOK m) (hl : QueueOK (queueL m dom)) (hq : QueuedOK q) :
    Sy.Spec Tryz.prog 101 [.ptr 0 0, intSV dom, queuedSV q, intSV e] (simH n m d) (.tup []) (simH n (comeM m dom q e) d) := contract Γ hm 100 F101 Tryz.ntmps101 rfl fun F hF => by
  have hqb := queue_bodies hl
  have hp := queuePushS2 _ q hqb.1 hqb.2 (by have := hq.frame.body; omega)
  have h1 := dropS n m d e he.1 he.2 (hb _)
  have h3 := dropS n m d 3 (by decide) (by decide) (hb _)
  have hres := comeM.eq_1 m dom q e
  generalize comeM m dom q e = res at *
  (conv=>whnf)
  refine ⟨fun h => ?_, fun h => ?_⟩
  · rw [if_pos (by simpa using h)] at hres
    subst hres
    (refine rg ?_;(conv=>whnf))
    refine stepOp (good_call [] rfl F104 h1 rfl ⟨rfl, rfl, rfl, rfl, trivial⟩ rfl ⟨.inl rfl, .inl rfl, .inl rfl, .inl rfl, trivial⟩) rfl rfl ?_
    (refine rg ?_;(conv=>whnf))
    exact done rfl .nil [] (simH n (dropT m e) d) (fun _ h => h) rfl rfl ⟨trivial, ⟨.inl rfl, rfl, .inl rfl, rfl, .inl rfl, rfl, .inl rfl, rfl, trivial⟩, rfl, rfl⟩
  have h0 : e = 0 := by simpa using h
  have hd := hd h0
  rw [if_neg (by rw [h0]; decide)] at hres
  clear h hqb h1 hl he
  have hq0 := queueL.eq_1 m dom
  rw [getD_eq hd.2] at hq0
  generalize queueL m dom = l at *
  generalize pushT l q = r at *
  obtain ⟨l2, ok⟩ := r
  subst hq0
  (refine rg ?_;(conv=>whnf))
  refine ⟨hd.1, hd.2, ?_⟩
  (conv=>whnf)
  refine ⟨rfl, hd.2, ?_⟩
  (conv=>whnf)
  refine callD0 hp F170 rfl rfl rfl (by kernel_rfl) rfl ?_
  (refine rd (by kernel_rfl) ?_;(conv=>whnf))
  refine ⟨(by kernel_rfl), ?_⟩
  (conv=>whnf)
  cases ok
  · rw [if_neg (by simp)] at hres
    subst hres
    (refine ⟨fun _ => ?_, fun h => False.elim (by simp at h)⟩;refine rg ?_;(conv=>whnf))
    refine stepOp (good_call [] rfl F104 h3 rfl ⟨rfl, rfl, rfl, rfl, trivial⟩ rfl ⟨.inl rfl, .inl rfl, .inl rfl, .inl rfl, trivial⟩) rfl rfl ?_
    (refine rg ?_;(conv=>whnf))
    exact done rfl .nil [] (simH n (dropT m 3) d) (fun _ h => h) rfl rfl ⟨trivial, ⟨.inl rfl, rfl, .inl rfl, rfl, .inl rfl, rfl, .inl rfl, rfl, trivial⟩, rfl, rfl⟩
  · rw [if_pos rfl] at hres
    subst hres
    (refine ⟨fun h => False.elim (by simp at h), fun _ => ?_⟩;refine rg ?_;(conv=>whnf))
    refine ⟨hd.1, hd.2, ?_⟩
    (conv=>whnf)
    refine ⟨rfl, hd.2, l2, rfl, rfl, ?_⟩
    (conv=>whnf)
    exact done_end rfl .nil [] (simH n (setQ m dom l2) d) (fun _ h => h) rfl rfl ⟨trivial, ⟨.inl rfl, rfl, .inl rfl, rfl, .inl rfl, rfl, .inl rfl, rfl, trivial⟩, rfl, rfl⟩
theorem simTakeS (n : Net) (m : MacM) (d : Bool) (dom at_ : Int) (hl : QueueOK (queueL m dom)) :
    Sy.Spec Tryz.prog 53 [.ptr 0 0, intSV dom, intSV at_] (simH n m d) (.tup [queuedSV (takeM m dom at_).2.1, boolSV (takeM m dom at_).2.2]) (simH n (takeM m dom at_).1 d) := contract Γ hm 100 F53 Tryz.ntmps53 rfl fun F hF => by
  have hqb := queue_bodies hl
  have hp := queueTakeS _ at_ hqb.1 hqb.2
  have h1 := simHasS n m d dom
  have hpl := placeB_iff (d := dom) (k := m.queues.length)
  have hres := takeM.eq_1 m dom at_
  generalize takeM m dom at_ = res at *
  generalize placeB dom m.queues.length = b at *
  have hq0 := queueL.eq_1 m dom
  clear hl hqb
  generalize queueL m dom = l at *
  generalize takeT l at_ = r at *
  obtain ⟨q, l2, ok⟩ := r
  (conv=>whnf)
  refine stepOp (good_call [] rfl F46 h1 rfl ⟨rfl, rfl, rfl, rfl, trivial⟩ rfl ⟨.inl rfl, .inl rfl, .inl rfl, .inl rfl, trivial⟩) rfl rfl ?_
  (refine rg ?_;(conv=>whnf))
  cases b
  · rw [if_pos rfl] at hres
    subst hres
    (refine ⟨fun _ => ?_, fun h => False.elim (absurd h (by decide))⟩;refine rg ?_;(conv=>whnf))
    refine G_boxV 6 [intSV 0, intSV 0, intSV 0, u64SV 0, u64SV 0, intSV 0, .sl 1 byteSV []] rfl (.cons (.refl _) (.cons (.refl _) (.cons (.refl _) (.cons (.refl _) (.cons (.refl _) (.cons (.refl _) (.cons .nil .nil))))))) ?_
    exact done rfl (.cons (.cell rfl rfl rfl rfl) (.cons .tmp .nil)) [] (simH n m d) (fun _ h => h) rfl rfl ⟨trivial, ⟨.inl rfl, rfl, .inl rfl, rfl, .inl rfl, rfl, .inl rfl, rfl, trivial⟩, rfl, rfl⟩
  have hd := hpl.1 rfl
  rw [getD_eq hd.2] at hq0
  subst hq0
  rw [if_neg (by simp)] at hres
  subst hres
  (refine ⟨fun h => False.elim (absurd h (by decide)), fun _ => ?_⟩;refine rg ?_;(conv=>whnf))
  refine ⟨hd.1, hd.2, ?_⟩
  (conv=>whnf)
  refine ⟨rfl, hd.2, ?_⟩
  (conv=>whnf)
  refine call0 hp F106 rfl rfl rfl rfl rfl ?_
  (refine rg ?_;(conv=>whnf))
  refine ⟨hd.1, hd.2, ?_⟩
  (conv=>whnf)
  refine ⟨rfl, hd.2, l2, rfl, rfl, ?_⟩
  (conv=>whnf)
  exact done rfl (.cons (.cell rfl rfl rfl rfl) (.cons .tmp .nil)) [] (simH n (setQ m dom l2) d) (fun _ h => h) rfl rfl ⟨trivial, ⟨.inl rfl, rfl, .inl rfl, rfl, .inl rfl, rfl, .inl rfl, rfl, trivial⟩, rfl, rfl⟩
theorem simInjectS (n : Net) (hn : n.Fin) (m : MacM) (d : Bool) (J D : Int) (hm0 : MacOK n m J D) (hJ : J < 1000000000000) (hD : D ≤ 1000000000000) (port : Int) (b : List UInt8) (hb : b.length < 100000) :
    Sy.Spec Tryz.prog 51 [.ptr 0 0, intSV port, .sl 1 byteSV b] (simH n m d) (.tup []) (simH n (injectT n m port b) d) := contract Γ hm 100 F51 Tryz.ntmps51 rfl fun F hF => by
  have hres := injectT.eq_1 n m port b
  generalize injectT n m port b = res at *
  have hpl := placeB_iff (d := port) (k := n.ports.length)
  have hinj := hm0.inj
  have hok : MacOK n ⟨m.up, m.tables, m.queues, m.now, m.injected + 1, m.drops⟩ (J + 1) D := ⟨hm0.up, hm0.tabs, hm0.ques, hm0.tab, hm0.que, hm0.now, ⟨by dsimp only; omega, by dsimp only; omega⟩, hm0.drp⟩
  have hdr : DropsOK ⟨m.up, m.tables, m.queues, m.now, m.injected + 1, m.drops⟩ := fun i => ⟨(hm0.drp i).1, by have := (hm0.drp i).2; dsimp only at *; omega⟩
  have he := enterT_err n port b
  have hdom := enterT_dom (n := n) (port := port) (b := b)
  have q1 := enterAtS n hn port b hb
  have hfr := enterT_ok n port b
  generalize enterT n port b = r at *
  have q2 := fun (hp : 0 ≤ port ∧ port.toNat < n.ports.length) => simComeS n ⟨m.up, m.tables, m.queues, m.now, m.injected + 1, m.drops⟩ d r.1 ⟨port, 0, m.injected + 1, r.2.1⟩ r.2.2 ⟨he.1, by have := he.2; omega⟩ (fun h => by
    have := hdom h
    exact ⟨this.1, by show r.1.toNat < m.queues.length; rw [hm0.ques]; exact this.2⟩) hdr (queueL_ok hok _) (queued_ok hfr _ ⟨by omega, by have := hn.ports; unfold Short at this; omega⟩ (by decide))
  (conv=>whnf)
  refine ⟨fun h => ?_, fun h => ?_⟩
  · have h := of_decide_eq_true h
    rw [if_pos (.inl (by cases hx : placeB port n.ports.length; rfl; exact absurd (hpl.1 hx) (by omega)))] at hres
    subst hres
    (refine rg ?_;(conv=>whnf);refine aT ?_;refine rg ?_;(conv=>whnf);refine aT ?_;refine rg ?_;(conv=>whnf))
    (skip)
    exact done rfl .nil [] (simH n res d) (fun _ h => h) rfl rfl ⟨trivial, ⟨.inl rfl, rfl, .inl rfl, rfl, .inl rfl, rfl, .inl rfl, rfl, trivial⟩, rfl, rfl⟩
  have h0 := of_decide_eq_false h
  clear h
  (refine rg ?_;(conv=>whnf))
  refine ⟨fun h => ?_, fun h => ?_⟩
  · have h := of_decide_eq_true h
    rw [if_pos (.inl (by cases hx : placeB port n.ports.length; rfl; exact absurd (hpl.1 hx) (by omega)))] at hres
    subst hres
    (refine rg ?_;(conv=>whnf);refine aT ?_;refine rg ?_;(conv=>whnf))
    (skip)
    exact done rfl .nil [] (simH n res d) (fun _ h => h) rfl rfl ⟨trivial, ⟨.inl rfl, rfl, .inl rfl, rfl, .inl rfl, rfl, .inl rfl, rfl, trivial⟩, rfl, rfl⟩
  have h1 := of_decide_eq_false h
  clear h
  have hp : 0 ≤ port ∧ port.toNat < n.ports.length := by omega
  rw [hpl.2 hp, nth_eq hp.2] at hres
  obtain ⟨p, hpp⟩ : ∃ p, n.ports[port.toNat]'hp.2 = p := ⟨_, rfl⟩
  rw [hpp] at hres
  (refine rg ?_;(conv=>whnf))
  refine ⟨rfl, hp.1, hp.2, ?_⟩
  rw [hpp]
  (conv=>whnf)
  refine ⟨fun h => ?_, fun h => ?_⟩
  · have h := of_decide_eq_true h
    rw [if_pos (.inr h)] at hres
    subst hres
    (refine rg ?_;(conv=>whnf))
    exact done rfl .nil [] (simH n res d) (fun _ h => h) rfl rfl ⟨trivial, ⟨.inl rfl, rfl, .inl rfl, rfl, .inl rfl, rfl, .inl rfl, rfl, trivial⟩, rfl, rfl⟩
  have h2 := of_decide_eq_false h
  clear h
  rw [if_neg (by simp; omega)] at hres
  subst hres
  (refine rg ?_;(conv=>whnf))
  refine ⟨by unfold I64; omega, ?_⟩
  (conv=>whnf)
  refine call0 q1 F100 rfl rfl rfl rfl rfl ?_
  (refine rg ?_;(conv=>whnf))
  refine stepD (good_call [] rfl F101 (q2 hp) rfl ⟨rfl, rfl, rfl, rfl, trivial⟩ rfl ⟨.inl rfl, .inl rfl, .inl rfl, .inl rfl, trivial⟩) (by kernel_rfl) rfl ?_
  (refine rd (by kernel_rfl) ?_;(conv=>whnf))
  refine ⟨(by kernel_rfl), ?_⟩
  (conv=>whnf)
  refine done_end rfl .nil [] (simH n (comeM _ _ _ _) d) (fun _ h => h) rfl rfl ⟨trivial, ⟨.inl rfl, rfl, .inl rfl, rfl, .inl rfl, rfl, .inl rfl, rfl, trivial⟩, rfl, rfl⟩
end Go.Sy.YtmelpejjondedaaGreat

namespace Go.Sy.YtmelpejjondedaaGreat
open Go.Proofs
attribute [local irreducible] Go.Sy.G Go.Sy.DR
set_option maxRecDepth 100000
set_option maxHeartbeats 4000000
theorem simGoesS (n : Net) (hn : n.Fin) (m : MacM) (d : Bool) (J D : Int) (hm0 : MacOK n m J D) (hD : D ≤ 1000000000000) (o : OutM) (ho : OutOK n o) (origin : Int) :
    Sy.Spec Tryz.prog 105 [.ptr 0 0, outSV o, intSV origin] (simH n m d) (.sl 3 seenSV (goesM n m o origin).2) (simH n (goesM n m o origin).1 d) := contract Γ hm 100 F105 Tryz.ntmps105 rfl fun F hF => by
  have hres := goesM.eq_1 n m o origin
  generalize goesM n m o origin = res at *
  have hdr : DropsOK m := fun i => ⟨(hm0.drp i).1, by have := (hm0.drp i).2; omega⟩
  have hbl : o.bytes.length < 100000 := by have := ho.bytes; omega
  have hin : ∀ {x : Int}, DomIn n x → 0 ≤ x ∧ x.toNat < m.queues.length := fun h => by rw [hm0.ques]; exact h
  (conv=>whnf)
  refine ⟨fun h => ?_, fun h => ?_⟩
  · have h1 : o.kind = 1 := by simpa using h
    rw [if_pos h1] at hres
    subst hres
    (refine rg ?_;(conv=>whnf))
    refine G_litR 34 seenSV [⟨o.port, origin, o.bytes⟩] rfl rfl ?_
    refine G_data 34 rfl ?_
    exact done rfl (.cons .tmp .nil) [] (simH n m d) (fun _ h => h) rfl rfl ⟨trivial, ⟨.inl rfl, rfl, .inl rfl, rfl, .inl rfl, rfl, .inl rfl, rfl, trivial⟩, rfl, rfl⟩
  have h1 : ¬ o.kind = 1 := by simpa using h
  rw [if_neg h1] at hres
  clear h
  (refine rg ?_;(conv=>whnf))
  refine ⟨fun h => ?_, fun h => ?_⟩
  · have h2 : o.kind = 2 := by simpa using h
    rw [if_pos h2] at hres
    have q1 := leaveLinkS n hn o.port o.bytes hbl
    have he := linkT_err n o.port o.bytes
    have hd := fun h => hin (linkT_dom (n := n) (port := o.port) (b := o.bytes) h)
    have hf := linkT_ok n o.port o.bytes
    have ht := linkT_to hn o.port o.bytes
    generalize linkT n o.port o.bytes = r at *
    have q2 := simComeS n m d r.2.1 ⟨r.1, 0, origin, r.2.2.1⟩ r.2.2.2 he hd hdr (queueL_ok hm0 _) (queued_ok hf _ (by omega) (by decide))
    subst hres
    (refine rg ?_;(conv=>whnf))
    refine callD0 q1 F182 rfl rfl rfl (by kernel_rfl) rfl ?_
    (refine rd (by kernel_rfl) ?_;(conv=>whnf))
    refine ⟨(by kernel_rfl), ?_⟩
    (conv=>whnf)
    refine ⟨(by kernel_rfl), ?_⟩
    (conv=>whnf)
    refine stepOp (good_call [] rfl F101 q2 rfl ⟨rfl, rfl, rfl, rfl, trivial⟩ rfl ⟨.inl rfl, .inl rfl, .inl rfl, .inl rfl, trivial⟩) rfl rfl ?_
    (refine rg ?_;(conv=>whnf))
    refine G_nilsl 6 3 seenSV rfl ?_
    exact done rfl (.cons .tmp .nil) [] (simH n (comeM _ _ _ _) d) (fun _ h => h) rfl rfl ⟨trivial, ⟨.inl rfl, rfl, .inl rfl, rfl, .inl rfl, rfl, .inl rfl, rfl, trivial⟩, rfl, rfl⟩
  have h2 : ¬ o.kind = 2 := by simpa using h
  rw [if_neg h2] at hres
  clear h
  (refine rg ?_;(conv=>whnf))
  refine ⟨fun h => ?_, fun h => ?_⟩
  · have h2 : o.kind = 3 := by simpa using h
    rw [if_pos h2] at hres
    have q1 := leaveComeS n hn o.bytes hbl
    have he := comeT_err n o.bytes
    have hd := fun h => hin (comeT_dom (n := n) (b := o.bytes) h).2
    have hf := comeT_ok n o.bytes
    have ht := comeT_from hn o.bytes
    generalize comeT n o.bytes = r at *
    have q2 := simComeS n m d r.2.1 ⟨-1, r.1, origin, r.2.2.1⟩ r.2.2.2 he hd hdr (queueL_ok hm0 _) (queued_ok hf _ (by decide) ht)
    subst hres
    (refine rg ?_;(conv=>whnf))
    refine callD0 q1 F183 rfl rfl rfl (by kernel_rfl) rfl ?_
    (refine rd (by kernel_rfl) ?_;(conv=>whnf))
    refine ⟨(by kernel_rfl), ?_⟩
    (conv=>whnf)
    refine ⟨(by kernel_rfl), ?_⟩
    (conv=>whnf)
    refine stepOp (good_call [] rfl F101 q2 rfl ⟨rfl, rfl, rfl, rfl, trivial⟩ rfl ⟨.inl rfl, .inl rfl, .inl rfl, .inl rfl, trivial⟩) rfl rfl ?_
    (refine rg ?_;(conv=>whnf))
    refine G_nilsl 6 3 seenSV rfl ?_
    exact done rfl (.cons .tmp .nil) [] (simH n (comeM _ _ _ _) d) (fun _ h => h) rfl rfl ⟨trivial, ⟨.inl rfl, rfl, .inl rfl, rfl, .inl rfl, rfl, .inl rfl, rfl, trivial⟩, rfl, rfl⟩
  have h3 : ¬ o.kind = 3 := by simpa using h
  rw [if_neg h3] at hres
  clear h
  (refine rg ?_;(conv=>whnf))
  refine ⟨fun h => ?_, fun h => ?_⟩
  · have h4 : o.kind = 4 := by simpa using h
    rw [if_pos h4] at hres
    have hf := ho.frame h4
    have q2 := simComeS n m d o.domain ⟨-2, 0, origin, o.frame⟩ 0 (by decide) (fun _ => hin hf.2) hdr (queueL_ok hm0 _) (queued_ok hf.1 _ (by decide) (by decide))
    subst hres
    (refine rg ?_;(conv=>whnf))
    refine stepOp (good_call [] rfl F101 q2 rfl ⟨rfl, rfl, rfl, rfl, trivial⟩ rfl ⟨.inl rfl, .inl rfl, .inl rfl, .inl rfl, trivial⟩) rfl rfl ?_
    (refine rg ?_;(conv=>whnf))
    refine G_nilsl 6 3 seenSV rfl ?_
    exact done rfl (.cons .tmp .nil) [] (simH n (comeM _ _ _ _) d) (fun _ h => h) rfl rfl ⟨trivial, ⟨.inl rfl, rfl, .inl rfl, rfl, .inl rfl, rfl, .inl rfl, rfl, trivial⟩, rfl, rfl⟩
  have h4 : ¬ o.kind = 4 := by simpa using h
  rw [if_neg h4] at hres
  have h5 : o.kind = 5 := by have := ho.kind; omega
  have he := ho.err h5
  have q2 := dropS n m d o.error he.1 he.2 (hdr _)
  subst hres
  clear h
  (refine rg ?_;(conv=>whnf))
  refine stepOp (good_call [] rfl F104 q2 rfl ⟨rfl, rfl, rfl, rfl, trivial⟩ rfl ⟨.inl rfl, .inl rfl, .inl rfl, .inl rfl, trivial⟩) rfl rfl ?_
  (refine rg ?_;(conv=>whnf))
  refine G_nilsl 6 3 seenSV rfl ?_
  exact done rfl (.cons .tmp .nil) [] (simH n (dropT m o.error) d) (fun _ h => h) rfl rfl ⟨trivial, ⟨.inl rfl, rfl, .inl rfl, rfl, .inl rfl, rfl, .inl rfl, rfl, trivial⟩, rfl, rfl⟩
end Go.Sy.YtmelpejjondedaaGreat

namespace Go.Sy.YtmelpejjondedaaGreat
open Go.Proofs
attribute [local irreducible] Go.Sy.G Go.Sy.DR
set_option maxRecDepth 100000
set_option maxHeartbeats 4000000
def onceK (up : List Bool) (dn lk : Int) (fw : List Bool) : List SV := [.sl 1 boolSV up, .val (.int .u32 dn), .val (.int .i32 lk), .val (.int .u32 0), .sl 1 boolSV fw]
def cloH (n : Net) (up : List Bool) (dn lk : Int) (fw : List Bool) : Obs := [(1, .box (onceK up dn lk fw)), (2, .box [.ptr 1 0]), (3, .box (netL n))]
theorem onceFindS (n : Net) (hn : n.Fin) (up fw : List Bool) (dn lk : Int) :
    Sy.Spec Tryz.prog 180 [.ptr 3 0, .ptr 2 0] (cloH n up dn lk fw) (.tup []) (cloH n up dn lk (fwOf n up)) := contract Γ hm 100 F180 Tryz.ntmps180 rfl fun F hF => by
  have hf : ∃ e, Sy.Spec Tryz.prog 44 [netSV n, .sl 1 boolSV up] [] (.tup [.sl 1 boolSV (fwOf n up), intSV e]) [] := by
    unfold fwOf
    split
    · rename_i h; exact ⟨0, forwardOK n up hn h⟩
    · rename_i h; exact ⟨2, forwardBad n up hn (by simpa using h)⟩
  obtain ⟨e, hf⟩ := hf
  generalize fwOf n up = r at *
  (conv=>whnf)
  refine callD0 hf F44 rfl rfl rfl (by kernel_rfl) rfl ?_
  (refine rd (by kernel_rfl) ?_;(conv=>whnf))
  refine ⟨(by kernel_rfl), ?_⟩
  (conv=>whnf)
  exact done_end rfl .nil [] (cloH n up dn lk r) (fun _ h => h) rfl rfl ⟨trivial, ⟨.inl rfl, rfl, .inl rfl, rfl, .inl rfl, rfl, trivial⟩, rfl, rfl⟩
theorem load32 (a : Addr) (x : Int) (w : World) (hc : w.cell? a = some (.int .u32 x)) : (callFunc 312 #[.pointer (some a)]).run Tryz.prog w = .ok (.value (.int .u32 x)) w :=
  run_call_load Tryz.func312 (by kernel_rfl) (by kernel_rfl) (by kernel_rfl) .u32 (by kernel_rfl) hc
theorem onceDoneS (n : Net) (up fw : List Bool) (dn lk : Int) : Sy.Spec Tryz.prog 255 [.ptr 1 1] (cloH n up dn lk fw) (boolSV (dn != 0)) (cloH n up dn lk fw) := contract Γ hm 100 F255 Tryz.ntmps255 rfl fun F hF => by
  (conv=>whnf)
  refine stepOp (good_ext_load load32 rfl rfl rfl rfl) rfl rfl ?_
  (refine rg ?_;(conv=>whnf))
  exact done rfl (.cons .tmp .nil) [] (cloH n up dn lk fw) (fun _ h => h) rfl rfl ⟨trivial, ⟨.inl rfl, rfl, .inl rfl, rfl, .inl rfl, rfl, trivial⟩, rfl, rfl⟩
theorem race_disable (w : World) : (callFunc 348 #[]).run Tryz.prog w = .ok (.value (.tuple #[])) w := run_call_mark0 Tryz.func348 (by kernel_rfl) (by kernel_rfl) (by kernel_rfl) .disable (by kernel_rfl) w
theorem race_enable (w : World) : (callFunc 350 #[]).run Tryz.prog w = .ok (.value (.tuple #[])) w := run_call_mark0 Tryz.func350 (by kernel_rfl) (by kernel_rfl) (by kernel_rfl) .enable (by kernel_rfl) w
theorem race_acquire (a : Addr) (w : World) : (callFunc 351 #[.pointer (some a)]).run Tryz.prog w = .ok (.value (.tuple #[])) w := run_call_marked Tryz.func351 (by kernel_rfl) (by kernel_rfl) (by kernel_rfl) .acquire (by kernel_rfl) a w
theorem race_release (a : Addr) (w : World) : (callFunc 353 #[.pointer (some a)]).run Tryz.prog w = .ok (.value (.tuple #[])) w := run_call_marked Tryz.func353 (by kernel_rfl) (by kernel_rfl) (by kernel_rfl) .releaseMerge (by kernel_rfl) a w
theorem store_deferred (a : Addr) (x : Value) (u : FrameMode) (w : World) (hc : w.cell? a = some x) (hz : w.frozen? a = false) :
    CallsD Tryz.prog 315 #[.pointer (some a), .bool true] u w fun e u' w' => u' = u ∧ (e = .returned (.tuple #[]) ∧ w' = w.drew.setCell a (.int .u32 1)) := by
  have hc' : w.drew.cell? a = some x := by go_simp
  have hz' : w.drew.frozen? a = false := by go_simp
  have hst := run_call_store (P := Tryz.prog) Tryz.func336 (by kernel_rfl) (by kernel_rfl) (by kernel_rfl) (by kernel_rfl) (k := .u32) (y := 1) hc' hz'
  go_enter_d Tryz.func315, Tryz.ntmps315
  go_wp2
  go_region_calls
  all_goals (go_end0; exact ⟨rfl, rfl⟩)
theorem unlock_deferred (a : Addr) (u : FrameMode) (w : World) (hc : w.cell? a = some (.int .i32 1)) (hz : w.frozen? a = false) :
    CallsD Tryz.prog 314 #[.pointer (some a)] u w fun e u' w' => u' = u ∧ (e = .returned (.tuple #[]) ∧ w' = w.setCell a (.int .i32 0)) := by
  have hd := race_disable
  have he := race_enable
  have hr := race_release
  have hadd := run_call_add (P := Tryz.prog) Tryz.func354 (by kernel_rfl) (by kernel_rfl) (by kernel_rfl) .i32 (by kernel_rfl) (y := -1) (s := 0) hc hz (by simp [go_sem]; rfl)
  have hcv := run_convert_to_unsafe (P := Tryz.prog) (src := 440) (dst := 444) Tryz.underlying440 Tryz.underlying444 (by kernel_rfl) hc
  go_enter_d Tryz.func314, Tryz.ntmps314
  go_wp2
  go_end0
  go_wp2
  go_end0
  exact ⟨rfl, rfl⟩
theorem lock_free (a : Addr) (w : World) (hc : w.cell? a = some (.int .i32 0)) (hz : w.frozen? a = false) :
    Calls Tryz.prog 313 #[.pointer (some a)] w fun e w' => e = .returned (.tuple #[]) ∧ w' = w.setCell a (.int .i32 1) := by
  have hd := race_disable
  have he := race_enable
  have ha := race_acquire
  have hcas := run_call_cas_hit (P := Tryz.prog) Tryz.func349 (by kernel_rfl) (by kernel_rfl) (by kernel_rfl) .i32 (by kernel_rfl) (y := 1) hc hz
  have hc' : (w.setCell a (.int .i32 1)).cell? a = some (.int .i32 1) := World.cell?_setCell_same w a _ hc
  have hcv := run_convert_to_unsafe (P := Tryz.prog) (src := 440) (dst := 444) Tryz.underlying440 Tryz.underlying444 (by kernel_rfl) hc'
  go_enter Tryz.func313, Tryz.ntmps313
  go_wp2
  first | go_end0 | (simp only [Exit.inBlock, Exit.then]; refine bodyPost_ret (results_none rfl _ _ _) rfl ?_) | refine bodyPost_ret (results_none rfl _ _ _) rfl ?_
  go_wp2
  go_end0
  exact ⟨rfl, rfl⟩
end Go.Sy.YtmelpejjondedaaGreat

namespace Go.Sy.YtmelpejjondedaaGreat
open Go.Proofs
set_option maxRecDepth 100000
set_option maxHeartbeats 4000000
theorem Ctx.behind {K : Nat → Prop} {κ κ2 : Ka} {w w1 w2 : World} (s : Step K κ w κ w1) (c : Ctx ⟨w1, κ⟩ κ2 w2) : Ctx ⟨w, κ⟩ κ2 w2 where
  size := Nat.le_trans s.size c.size
  os := c.os.trans s.os
  tape := c.tape.trans s.tape
  output := c.output.trans s.output
  M := c.M
  old := fun b hb h => by
    refine (c.old b (Nat.lt_of_lt_of_le hb s.size) h).trans ?_
    by_cases hm : κ.M b
    · exact s.mkeep b hm
    · exact s.blk b hb (fun ho => by
        rcases ho with ⟨k, hk⟩ | ho
        · exact h k hk
        · exact hm ho)
  own := fun k b hk => by
    rcases c.own k b hk with h | h
    · exact .inl (Nat.le_trans s.size h)
    · exact .inr h
  nam := c.nam
theorem drew_step {κ : Ka} {w : World} (hi : Inv κ w) : Step (fun _ => False) κ w κ w.drew ∧ Inv κ w.drew := by
  have g := Grew.drew w
  exact ⟨⟨g.size, g.os, g.tape, g.output, rfl, fun b _ => rfl, fun b _ _ => rfl, fun _ _ _ _ => rfl, fun _ _ => rfl, fun _ h => h.elim, fun _ h => .inl h⟩, ⟨hi.inj, hi.bnd, hi.apart, hi.mbnd⟩⟩
theorem onceSlowS (n : Net) (hn : n.Fin) (up fw : List Bool) :
    Sy.Spec Tryz.prog 256 [.ptr 1 1, .clo (.func 180) [] [.ptr 3 0, .ptr 2 0]] (cloH n up 0 0 fw) (.tup []) (cloH n up 1 0 (fwOf n up)) := by
  intro κ w vs hi hnew hvs hok
  have o1 := hok (1, .box (onceK up 0 0 fw)) (by simp [cloH])
  have o2 := hok (2, .box [.ptr 1 0]) (by simp [cloH])
  have o3 := hok (3, .box (netL n)) (by simp [cloH])
  obtain ⟨b, e1, c1, c2, st1, inv1, ob1⟩ := box_setCell (off := 2) (x := .val (.int .i32 1)) (v := .int .i32 1) hi o1 rfl (fun _ _ => by simp only [Rd]) rfl
  obtain ⟨b2, _, _, _, e2, _⟩ := id o2
  obtain ⟨b3, _, _, _, e3, _⟩ := id o3
  simp only [RdL, Rd, e1, e2, e3] at hvs
  obtain ⟨v0, r0, rfl, rfl, v1, r1, rfl, ⟨fs, cs, rfl, hfs, hcs⟩, rfl⟩ := hvs
  subst hfs
  obtain ⟨p3, q3, rfl, rfl, p2, q2, rfl, rfl, rfl⟩ := hcs
  have hcl := onceFindS n hn up fw 0 1 κ (w.setCell ⟨b, 2, none⟩ (.int .i32 1)) [.pointer (some ⟨b3, 0, none⟩), .pointer (some ⟨b2, 0, none⟩)] inv1 hnew (by simp only [RdL, Rd, e2, e3]; exact ⟨_, _, rfl, rfl, _, _, rfl, rfl, rfl⟩) (fun p hp => by
    simp only [cloH, List.mem_cons, List.not_mem_nil, or_false] at hp
    rcases hp with rfl | rfl | rfl
    · exact ob1
    · exact ObOK.step st1 (show ¬ (2 : Nat) = 1 by decide) _ o2
    · exact ObOK.step st1 (show ¬ (3 : Nat) = 1 by decide) _ o3)
  obtain ⟨u1, hu1, hr1⟩ := c1 1 (.val (.int .u32 0)) rfl
  obtain ⟨u2, hu2, hr2⟩ := c1 2 (.val (.int .i32 0)) rfl
  rw [hr1.val] at hu1
  rw [hr2.val] at hu2
  have f1 := c2 1 (show 1 < 5 by decide)
  have f2 := c2 2 (show 2 < 5 by decide)
  have hl := load32 ⟨b, 1, none⟩ 0 (w.setCell ⟨b, 2, none⟩ (.int .i32 1)) ((World.cell?_setCell_other _ ⟨b, 2, none⟩ ⟨b, 1, none⟩ _ (by simp)).trans hu1)
  have hnot : ∀ (x : Bool) (w : World), (Op.unary .not (.bool x)).run Tryz.prog w = .ok (.bool (!x)) w := fun _ _ => rfl
  go_enter_defers Tryz.func256, Tryz.ntmps256
  go_wp2_with (first | (go_at_call 313; refine (lock_free ⟨b, 2, none⟩ _ (by assumption) (by assumption)).mono ?_; rintro e w' ⟨rfl, rfl⟩) | (go_at_call 180; refine hcl.mono ?_; rintro e w' ⟨v, κ2, rfl, hc2, hi2, hv2, ok2⟩) | (go_at_call 255; go_in))
  have p1 := ok2 (1, .box (onceK up 0 1 (fwOf n up))) (by simp [cloH])
  have k1 : κ2 1 = .blk b := by
    obtain ⟨bb, _, _, _, q1, _⟩ := id p1
    rcases hc2.nam 1 (by rw [e1]; intro h; cases h) with h | h
    · rw [h]; exact e1
    · rw [h] at q1; cases q1
  obtain ⟨ba, a1, a2, a3, _, _, _⟩ := box_setCell (off := 1) (x := .val (.int .u32 1)) (v := .int .u32 1) hi2 p1 rfl (fun _ _ => by simp only [Rd]) rfl
  rw [k1] at a1
  cases a1
  obtain ⟨std, invd⟩ := drew_step hi2
  have p2 := ObOK.step std (k := 1) (fun h => h) _ p1
  obtain ⟨ba, a1, _, _, st3, inv3, ob3⟩ := box_setCell (off := 1) (x := .val (.int .u32 1)) (v := .int .u32 1) invd p2 rfl (fun _ _ => by simp only [Rd]) rfl
  rw [k1] at a1
  cases a1
  have ob3 : ObOK κ2 (w'.drew.setCell ⟨b, 1, none⟩ (.int .u32 1)) 1 (.box (onceK up 1 1 (fwOf n up))) := ob3
  obtain ⟨ba, a1, a4, a5, st4, inv4, ob4⟩ := box_setCell (off := 2) (x := .val (.int .i32 0)) (v := .int .i32 0) inv3 ob3 rfl (fun _ _ => by simp only [Rd]) rfl
  rw [k1] at a1
  cases a1
  have ob4 : ObOK κ2 ((w'.drew.setCell ⟨b, 1, none⟩ (.int .u32 1)).setCell ⟨b, 2, none⟩ (.int .i32 0)) 1 (.box (onceK up 1 0 (fwOf n up))) := ob4
  obtain ⟨v1, hv1, hr1⟩ := a2 1 (.val (.int .u32 0)) rfl
  rw [hr1.val] at hv1
  obtain ⟨v2, hv2, hr2⟩ := a4 2 (.val (.int .i32 1)) rfl
  rw [hr2.val] at hv2
  refine leaves_cons (f := 315) (args := #[.pointer (some ⟨b, 1, none⟩), .bool true]) (by simp) (by simp [go_sem]) ?_
  refine (store_deferred ⟨b, 1, none⟩ (.int .u32 0) .returning _ hv1 (a3 1 (show 1 < 5 by decide))).mono ?_
  rintro e u' w'' ⟨rfl, rfl, rfl⟩
  refine leaves_cons (f := 314) (args := #[.pointer (some ⟨b, 2, none⟩)]) (by simp [settle]) (by simp [go_sem]) ?_
  refine (unlock_deferred ⟨b, 2, none⟩ _ _ hv2 (a5 2 (show 2 < 5 by decide))).mono ?_
  rintro e u' w'' ⟨rfl, rfl, rfl⟩
  have hst : Step (· = 1) κ2 w' κ2 ((w'.drew.setCell ⟨b, 1, none⟩ (.int .u32 1)).setCell ⟨b, 2, none⟩ (.int .i32 0)) := (std.weaken (fun _ h => h.elim)).trans (st3.trans st4)
  refine ⟨.tuple #[], by simp [results, Tryz.results256], .tuple #[], κ2, rfl, Ctx.behind st1 (hc2.step inv4 hst), inv4, ⟨[], rfl, rfl⟩, fun p hp => ?_⟩
  simp only [cloH, List.mem_cons, List.not_mem_nil, or_false] at hp
  rcases hp with rfl | rfl | rfl
  · exact ob4
  · exact ObOK.step hst (show ¬ (2 : Nat) = 1 by decide) _ (ok2 (2, .box [.ptr 1 0]) (by simp [cloH]))
  · exact ObOK.step hst (show ¬ (3 : Nat) = 1 by decide) _ (ok2 (3, .box (netL n)) (by simp [cloH]))
end Go.Sy.YtmelpejjondedaaGreat

namespace Go.Sy.YtmelpejjondedaaGreat
open Go.Proofs
attribute [local irreducible] Go.Sy.G Go.Sy.DR
set_option maxRecDepth 100000
set_option maxHeartbeats 4000000
def cloX (n : Net) (up : List Bool) (d : Bool) : Obs := [(1, .box (onceX n up d)), (2, .box [.ptr 1 0]), (3, .box (netL n))]
theorem onceDo0 (n : Net) (hn : n.Fin) (up : List Bool) :
    Sy.Spec Tryz.prog 179 [.ptr 1 1, .clo (.func 180) [] [.ptr 3 0, .ptr 2 0]] (cloX n up false) (.tup []) (cloX n up true) := contract Γ hm 100 F179 Tryz.ntmps179 rfl fun F hF => by
  have q1 : Sy.Spec Tryz.prog 255 [.ptr 1 1] (cloX n up false) (boolSV false) (cloX n up false) := onceDoneS n up [] 0 0
  have q2 : Sy.Spec Tryz.prog 256 [.ptr 1 1, .clo (.func 180) [] [.ptr 3 0, .ptr 2 0]] (cloX n up false) (.tup []) (cloX n up true) := onceSlowS n hn up []
  (conv=>whnf)
  refine stepOp (good_call [] rfl F255 q1 rfl ⟨rfl, rfl, rfl, trivial⟩ rfl ⟨.inl rfl, .inl rfl, .inl rfl, trivial⟩) rfl rfl ?_
  (refine rg ?_;(conv=>whnf);refine aT ?_;refine rg ?_;(conv=>whnf))
  refine stepOp (good_call [] rfl F256 q2 rfl ⟨rfl, rfl, rfl, trivial⟩ rfl ⟨.inl rfl, .inl rfl, .inl rfl, trivial⟩) rfl rfl ?_
  (refine rg ?_;(conv=>whnf))
  exact done_end rfl .nil [] (cloX n up true) (fun _ h => h) rfl rfl ⟨trivial, ⟨.inl rfl, rfl, .inl rfl, rfl, .inl rfl, rfl, trivial⟩, rfl, rfl⟩
theorem onceDo1 (n : Net) (up : List Bool) :
    Sy.Spec Tryz.prog 179 [.ptr 1 1, .clo (.func 180) [] [.ptr 3 0, .ptr 2 0]] (cloX n up true) (.tup []) (cloX n up true) := contract Γ hm 100 F179 Tryz.ntmps179 rfl fun F hF => by
  have q1 : Sy.Spec Tryz.prog 255 [.ptr 1 1] (cloX n up true) (boolSV true) (cloX n up true) := onceDoneS n up (fwOf n up) 1 0
  (conv=>whnf)
  refine stepOp (good_call [] rfl F255 q1 rfl ⟨rfl, rfl, rfl, trivial⟩ rfl ⟨.inl rfl, .inl rfl, .inl rfl, trivial⟩) rfl rfl ?_
  (refine rg ?_;(conv=>whnf);refine aF ?_;refine rg ?_;(conv=>whnf))
  exact done_end rfl .nil [] (cloX n up true) (fun _ h => h) rfl rfl ⟨trivial, ⟨.inl rfl, rfl, .inl rfl, rfl, .inl rfl, rfl, trivial⟩, rfl, rfl⟩
theorem onceDoS (n : Net) (hn : n.Fin) (up : List Bool) (d : Bool) :
    Sy.Spec Tryz.prog 179 [.ptr 1 1, .clo (.func 180) [] [.ptr 3 0, .ptr 2 0]] (cloX n up d) (.tup []) (cloX n up true) := by
  cases d
  · exact onceDo0 n hn up
  · exact onceDo1 n up
theorem simLinksS (n : Net) (hn : n.Fin) (up : List Bool) (d : Bool) :
    Sy.Spec Tryz.prog 103 [.ptr 1 0, netSV n] [(1, .box (onceX n up d))] (.sl 1 boolSV (fwOf n up)) [(1, .box (onceX n up true))] := contract Γ hm 100 F103 Tryz.ntmps103 rfl fun F hF => by
  (conv=>whnf)
  refine stepOp (good_call [] rfl F179 (onceDoS n hn up d) rfl ⟨rfl, rfl, rfl, trivial⟩ rfl ⟨.inl rfl, .inl rfl, .inl rfl, trivial⟩) rfl rfl ?_
  (refine rg ?_;(conv=>whnf))
  exact done rfl (.cons .tmp .nil) [] [(1, .box (onceX n up true))] (fun _ h => h) rfl rfl ⟨trivial, ⟨.inl rfl, rfl, trivial⟩, rfl, rfl⟩
end Go.Sy.YtmelpejjondedaaGreat

namespace Go.Sy.YtmelpejjondedaaGreat
open Go.Proofs
theorem bridgeT_tab {n : Net} {fw : List Bool} {t : List EntryM} {dom : Int} {q : QueuedM} {now : Int} (ht : TabOK t) (hq : QueuedOK q) : TabOK (bridgeT n fw t dom q now).1 := by
  unfold bridgeT
  split
  · exact nil_tabOK
  split
  · split
    · exact learnQ_ok ht hq now
    · exact learnQ_ok ht hq now
  · exact learnQ_ok ht hq now
theorem bridgeT_out {n : Net} (hn : n.Fin) (hm0 : n.Num) {fw : List Bool} {t : List EntryM} {dom : Int} {q : QueuedM} {now : Int} (hq : QueuedOK q) : ∀ o ∈ (bridgeT n fw t dom q now).2.1, OutOK n o := by
  intro o ho
  unfold bridgeT at ho
  split at ho
  · cases ho
  rename_i h0
  have hb : netRightB n = true := by
    cases hx : netRightB n
    · exact absurd (.inl (by unfold roomB; rw [hx]; simp)) h0
    · rfl
  split at ho
  · split at ho
    · cases ho
    · rename_i h1
      have h1 := Decidable.not_not.1 h1
      have hin : ∀ (d : Int), (lookT n (routerT n dom q.frame.dst).1 d).2 = true → 0 ≤ (lookT n (routerT n dom q.frame.dst).1 d).1 ∧ (lookT n (routerT n dom q.frame.dst).1 d).1.toNat < n.irbs.length := fun d h => lookT_there h
      rw [List.mem_singleton.1 ho]
      exact ⟨by dsimp only; omega, by simp, fun _ => ⟨hopT_ok n hm0 _ _ hin, hopT_dom hin h1⟩, fun h => by dsimp only at h; omega⟩
  · rcases List.mem_append.1 ho with h | h
    · obtain ⟨p, _, rfl⟩ := List.mem_map.1 h
      unfold outP
      exact lostT_ok (by dsimp only; split <;> omega) (leaveT_length _ _ _ _ hq.frame) (leaveT_err _ _ _ _)
    · obtain ⟨p, _, rfl⟩ := List.mem_map.1 h
      unfold outM
      exact lostT_ok (by dsimp only; omega) (by have := meshT_length n dom p q.frame; omega) (meshT_err _ _ _ _)
theorem bridgeT_few {n : Net} (hn : n.Fin) (fw : List Bool) (t : List EntryM) (dom : Int) (q : QueuedM) (now : Int) : (bridgeT n fw t dom q now).2.1.length < 4294967296 := by
  unfold bridgeT
  split
  · show (0 : Nat) < 4294967296; decide
  split
  · split
    · show (0 : Nat) < 4294967296; decide
    · show (1 : Nat) < 4294967296; decide
  · have := decide_few hn fw (learnQ t q now) dom q.from_ q.frame.dst
    simp only [List.length_append, List.length_map]
    omega
theorem goesL_append (n : Net) (origin : Int) : ∀ (a b : List OutM) (m : MacM), goesL n m origin (a ++ b) = ((goesL n (goesL n m origin a).1 origin b).1, (goesL n m origin a).2 ++ (goesL n (goesL n m origin a).1 origin b).2)
  | [], b, m => by simp [goesL]
  | o :: a, b, m => by
    rw [List.cons_append, goesL, goesL, goesL_append n origin a b]
    simp
theorem goesL_step (n : Net) (m : MacM) (origin : Int) (l : List OutM) (j : Nat) (hj : j < l.length) :
    goesL n m origin (l.take (j + 1)) = ((goesM n (goesL n m origin (l.take j)).1 l[j] origin).1, (goesL n m origin (l.take j)).2 ++ (goesM n (goesL n m origin (l.take j)).1 l[j] origin).2) := by
  rw [List.take_succ_eq_append_getElem hj, goesL_append]
  simp [goesL]
theorem goesM_few (n : Net) (m : MacM) (o : OutM) (origin : Int) : (goesM n m o origin).2.length ≤ 1 := by
  unfold goesM
  split
  · simp
  split
  · simp
  split
  · simp
  split <;> simp
theorem goesL_few (n : Net) (origin : Int) : ∀ (l : List OutM) (m : MacM), (goesL n m origin l).2.length ≤ l.length
  | [], m => by simp [goesL]
  | o :: l, m => by
    rw [goesL]
    have h1 := goesL_few n origin l (goesM n m o origin).1
    have h2 := goesM_few n m o origin
    simp only [List.length_append, List.length_cons]
    omega
end Go.Sy.YtmelpejjondedaaGreat

namespace Go.Sy.YtmelpejjondedaaGreat
open Go.Proofs
attribute [local irreducible] Go.Sy.G Go.Sy.DR
set_option maxRecDepth 100000
set_option maxHeartbeats 4000000
theorem pickD_ok {n : Net} {m : MacM} {J D : Int} (h : MacOK n m J D) (hD : 0 ≤ D) (dom : Int) {r : List EntryM × List OutM × Int} (hr : TabOK r.1) : MacOK n (pickD m dom r) J (D + 1) := by
  unfold pickD
  split
  · exact dropT_ok h hD 2
  split
  · exact dropT_ok (setT_ok h dom hr) hD _
  · exact (setT_ok h dom hr).mono (Int.le_refl _) (by omega)
def queL (q : QueuedM) : List SV := [intSV q.from_, intSV q.peer, intSV q.origin, u64SV q.frame.dst, u64SV q.frame.src, intSV q.frame.typ, .sl 1 byteSV q.frame.body]
def pickO (n : Net) (m : MacM) (q : QueuedM) (l : List SeenM) : Obs := [(0, .box (simL n 1 m.now m.injected m.drops)), (1, .box (onceX n m.up true)), (2, .row 1 tabSV m.tables), (3, .row 1 queSV m.queues), (7, .box (queL q)), (1000, .row 3 seenSV l)]
theorem simPickS (n : Net) (hn : n.Fin) (hm1 : n.Num) (m : MacM) (d : Bool) (J D : Int) (hm0 : MacOK n m J D) (hD0 : 0 ≤ D) (hD : D ≤ 900000000000) (dom at_ : Int) :
    Sy.Spec Tryz.prog 52 [.ptr 0 0, intSV dom, intSV at_] (simH n m d) (.sl 3 seenSV (pickT n m dom at_).2) (simH n (pickT n m dom at_).1 (if (takeM m dom at_).2.2 then true else d)) := contract Γ hm 100 F52 Tryz.ntmps52 rfl fun F hF => by
  have hres := pickT.eq_1 n m dom at_
  generalize pickT n m dom at_ = res at *
  have q1 := simTakeS n m d dom at_ (queueL_ok hm0 dom)
  have hok := takeM_ok hm0 dom at_
  have hpl : (takeM m dom at_).2.2 = true → 0 ≤ dom ∧ dom.toNat < m.queues.length := fun h => by
    unfold takeM at h
    split at h
    · cases h
    · rename_i h2
      exact placeB_iff.1 (by cases hx : placeB dom m.queues.length; exact absurd hx h2; rfl)
  have htl : (takeM m dom at_).1.tables = m.tables := by unfold takeM; split <;> rfl
  generalize takeM m dom at_ = r at *
  obtain ⟨m1, q, ok⟩ := r
  have htq : m.queues.length = m.tables.length := by rw [hm0.ques, hm0.tabs]
  (conv=>whnf)
  refine stepOp (good_call [] rfl F53 q1 rfl ⟨rfl, rfl, rfl, rfl, trivial⟩ rfl ⟨.inl rfl, .inl rfl, .inl rfl, .inl rfl, trivial⟩) rfl rfl ?_
  (refine rg ?_;(conv=>whnf))
  cases ok
  · rw [if_pos rfl] at hres
    subst hres
    (refine ⟨fun _ => ?_, fun h => False.elim (by simp at h)⟩;refine rg ?_;(conv=>whnf))
    refine G_nilsl 6 3 seenSV rfl ?_
    exact done rfl (.cons .tmp .nil) [] (simH n m1 d) (fun _ h => h) rfl rfl ⟨trivial, ⟨.inl rfl, rfl, .inl rfl, rfl, .inl rfl, rfl, .inl rfl, rfl, trivial⟩, rfl, rfl⟩
  rw [if_neg (by simp)] at hres
  have hd := hpl rfl
  have hd2 : 0 ≤ dom ∧ dom.toNat < m1.tables.length := by rw [htl, ← htq]; exact hd
  dsimp only at hres hok
  have q2 := simLinksS n hn m1.up d
  have q3 := bridgeStepS n hn hm1 (fwOf n m1.up) (tableL m1 dom) dom q m1.now (tableL_ok hok.1 dom) hok.2
  have hb1 := bridgeT_tab (n := n) (fw := fwOf n m1.up) (dom := dom) (now := m1.now) (tableL_ok hok.1 dom) hok.2
  have hb2 := bridgeT_out (fw := fwOf n m1.up) (t := tableL m1 dom) (dom := dom) (now := m1.now) hn hm1 hok.2
  have hb3 := bridgeT_few hn (fwOf n m1.up) (tableL m1 dom) dom q m1.now
  have hb4 := bridgeT_err n (fwOf n m1.up) (tableL m1 dom) dom q m1.now
  rw [pickB] at hres
  have hz := pickD_ok hok.1 hD0 dom hb1
  generalize bridgeT n (fwOf n m1.up) (tableL m1 dom) dom q m1.now = b at *
  obtain ⟨t, out, e⟩ := b
  have hb2 : ∀ o ∈ out, OutOK n o := hb2
  have hb3 : out.length < 4294967296 := hb3
  have hb4 : ErrOK e := hb4
  have ht0 := tableL.eq_1 m1 dom
  rw [getD_eq hd2.2] at ht0
  generalize tableL m1 dom = t0 at *
  subst ht0
  (refine ⟨fun h => False.elim (by simp at h), fun _ => ?_⟩;refine rg ?_;(conv=>whnf))
  refine stepD (good_call [] rfl F103 q2 rfl ⟨rfl, trivial⟩ rfl ⟨.inl rfl, trivial⟩) (by kernel_rfl) rfl ?_
  (refine rd (by kernel_rfl) ?_;(conv=>whnf))
  refine ⟨hd2.1, hd2.2, ?_⟩
  (conv=>whnf)
  refine ⟨rfl, hd2.2, ?_⟩
  (conv=>whnf)
  refine callD0 q3 F102 rfl rfl rfl (by kernel_rfl) rfl ?_
  (refine rd (by kernel_rfl) ?_;(conv=>whnf))
  refine ⟨(by kernel_rfl), ?_⟩
  (conv=>whnf)
  refine ⟨fun h => ?_, fun h => ?_⟩
  · have h2 : ¬ e = 2 := by simpa using h
    clear h
    (refine rg ?_;(conv=>whnf))
    refine ⟨hd2.1, hd2.2, ?_⟩
    (conv=>whnf)
    refine ⟨rfl, hd2.2, t, rfl, rfl, ?_⟩
    (conv=>whnf)
    refine ⟨fun h => ?_, fun h => ?_⟩
    · have h3 : ¬ e = 0 := by simpa using h
      clear h
      have hpd : pickD m1 dom (t, out, e) = dropT (setT m1 dom t) e := by
        unfold pickD
        rw [if_neg h2, if_pos h3]
      rw [hpd] at hres hz
      subst hres
      have q4 := dropS n (setT m1 dom t) true e hb4.1 hb4.2 ⟨(hok.1.drp _).1, by have := (hok.1.drp e.toNat).2; show m1.drops e.toNat ≤ 1000000000000; omega⟩
      (refine rg ?_;(conv=>whnf))
      refine stepOp (good_call [] rfl F104 q4 rfl ⟨rfl, rfl, rfl, rfl, trivial⟩ rfl ⟨.inl rfl, .inl rfl, .inl rfl, .inl rfl, trivial⟩) rfl rfl ?_
      (refine rg ?_;(conv=>whnf))
      have hdr : DropsOK (dropT (setT m1 dom t) e) := fun i => ⟨(hz.drp i).1, by have := (hz.drp i).2; omega⟩
      refine G_adopt 12 1000 3 seenSV rfl rfl ?_
      refine G_count out.length (fun j => [(0, .ptr 0 0), (7, .ptr 7 0), (12, .osl 1000), (69, .sl 9 outSV out), (70, intSV out.length), (71, intSV j)]) (fun j => pickO n (goesL n (dropT (setT m1 dom t) e) q.origin (out.take j)).1 q (goesL n (dropT (setT m1 dom t) e) q.origin (out.take j)).2) [] ⟨⟨rfl, rfl, rfl, rfl, rfl, rfl, rfl, rfl, rfl, rfl, rfl, rfl, trivial⟩, ⟨.inl rfl, rfl, .inl rfl, rfl, .inl rfl, rfl, .inl rfl, rfl, .inl rfl, rfl, .inl rfl, rfl, trivial⟩, rfl, rfl⟩ ?_
      intro j hj
      (refine rg ?_;(conv=>whnf))
      refine ⟨fun h => ?_, fun h => ?_⟩
      · have hlt : j < out.length := by have := of_decide_eq_true h; omega
        have hj0 : ((j : Nat) : Int).toNat < out.length := by simpa using hlt
        obtain ⟨o, hoo⟩ : ∃ o, out[j] = o := ⟨_, rfl⟩
        have e1 : out[((j : Nat) : Int).toNat]'hj0 = o := hoo
        have hs := goesL_step n (dropT (setT m1 dom t) e) q.origin out j hlt
        rw [hoo] at hs
        have hjo := goesL_ok hn q.origin (out.take j) hz (by omega) (fun x hx => hb2 x (List.mem_of_mem_take hx))
        have hlen : (out.take j).length = j := by rw [List.length_take]; omega
        rw [hlen] at hjo
        have hsl := goesL_few n q.origin (out.take j) (dropT (setT m1 dom t) e)
        rw [hlen] at hsl
        have q5 := simGoesS n hn (goesL n (dropT (setT m1 dom t) e) q.origin (out.take j)).1 true J _ hjo (by omega) o (hb2 o (by rw [← hoo]; exact List.getElem_mem hlt)) q.origin
        have hfw := goesM_few n (goesL n (dropT (setT m1 dom t) e) q.origin (out.take j)).1 o q.origin
        clear h
        (refine rg ?_;(conv=>whnf))
        refine ⟨rfl, by omega, hj0, ?_⟩
        rw [e1]
        (conv=>whnf)
        refine stepOp (good_call [] rfl F105 q5 rfl ⟨rfl, rfl, rfl, rfl, trivial⟩ rfl ⟨.inl rfl, .inl rfl, .inl rfl, .inl rfl, trivial⟩) rfl rfl ?_
        (refine rg ?_;(conv=>whnf))
        refine stepOp (good_appendT Γ.toTy 81 rfl rfl rfl rfl rfl (.row rfl) .sl (by simp) (by omega) (by omega)) rfl rfl ?_
        (refine rg ?_;(conv=>whnf))
        refine ⟨by unfold I64; omega, ?_⟩
        (conv=>whnf)
        have g1 : (goesL n (dropT (setT m1 dom t) e) q.origin (out.take (j + 1))).1 = (goesM n (goesL n (dropT (setT m1 dom t) e) q.origin (out.take j)).1 o q.origin).1 := by rw [hs]
        have g2 : (goesL n (dropT (setT m1 dom t) e) q.origin (out.take (j + 1))).2 = (goesL n (dropT (setT m1 dom t) e) q.origin (out.take j)).2 ++ (goesM n (goesL n (dropT (setT m1 dom t) e) q.origin (out.take j)).1 o q.origin).2 := by rw [hs]
        refine G_next [(1000, 81)] hlt ⟨⟨rfl, rfl, rfl, rfl, rfl, rfl, rfl, rfl, rfl, rfl, rfl, rfl, trivial⟩, ?_, rfl, rfl⟩
        dsimp only
        rw [g1, g2]
        exact ⟨.inl rfl, rfl, .inl rfl, rfl, .inl rfl, rfl, .inl rfl, rfl, .inl rfl, rfl, .inl rfl, rfl, trivial⟩
      · have hjj : j = out.length := by have := of_decide_eq_false h; omega
        subst hjj
        rw [List.take_length]
        clear h
        (refine rg ?_;(conv=>whnf))
        refine G_data 1000 rfl ?_
        exact done rfl (.cons .tmp .nil) [] (simH n (goesL n (dropT (setT m1 dom t) e) q.origin out).1 true) (fun _ h => h) rfl rfl ⟨trivial, ⟨.inl rfl, rfl, .inl rfl, rfl, .inl rfl, rfl, .inl rfl, rfl, trivial⟩, rfl, rfl⟩
    · have h3 : e = 0 := by simpa using h
      clear h
      have hpd : pickD m1 dom (t, out, e) = setT m1 dom t := by
        unfold pickD
        rw [if_neg h2, if_neg (fun h => h h3)]
      rw [hpd] at hres hz
      subst hres
      (refine rg ?_;(conv=>whnf))
      have hdr : DropsOK (setT m1 dom t) := fun i => ⟨(hz.drp i).1, by have := (hz.drp i).2; omega⟩
      refine G_adopt 12 1000 3 seenSV rfl rfl ?_
      refine G_count out.length (fun j => [(0, .ptr 0 0), (7, .ptr 7 0), (12, .osl 1000), (69, .sl 9 outSV out), (70, intSV out.length), (71, intSV j)]) (fun j => pickO n (goesL n (setT m1 dom t) q.origin (out.take j)).1 q (goesL n (setT m1 dom t) q.origin (out.take j)).2) [] ⟨⟨rfl, rfl, rfl, rfl, rfl, rfl, rfl, rfl, rfl, rfl, rfl, rfl, trivial⟩, ⟨.inl rfl, rfl, .inl rfl, rfl, .inl rfl, rfl, .inl rfl, rfl, .inl rfl, rfl, .inl rfl, rfl, trivial⟩, rfl, rfl⟩ ?_
      intro j hj
      (refine rg ?_;(conv=>whnf))
      refine ⟨fun h => ?_, fun h => ?_⟩
      · have hlt : j < out.length := by have := of_decide_eq_true h; omega
        have hj0 : ((j : Nat) : Int).toNat < out.length := by simpa using hlt
        obtain ⟨o, hoo⟩ : ∃ o, out[j] = o := ⟨_, rfl⟩
        have e1 : out[((j : Nat) : Int).toNat]'hj0 = o := hoo
        have hs := goesL_step n (setT m1 dom t) q.origin out j hlt
        rw [hoo] at hs
        have hjo := goesL_ok hn q.origin (out.take j) hz (by omega) (fun x hx => hb2 x (List.mem_of_mem_take hx))
        have hlen : (out.take j).length = j := by rw [List.length_take]; omega
        rw [hlen] at hjo
        have hsl := goesL_few n q.origin (out.take j) (setT m1 dom t)
        rw [hlen] at hsl
        have q5 := simGoesS n hn (goesL n (setT m1 dom t) q.origin (out.take j)).1 true J _ hjo (by omega) o (hb2 o (by rw [← hoo]; exact List.getElem_mem hlt)) q.origin
        have hfw := goesM_few n (goesL n (setT m1 dom t) q.origin (out.take j)).1 o q.origin
        clear h
        (refine rg ?_;(conv=>whnf))
        refine ⟨rfl, by omega, hj0, ?_⟩
        rw [e1]
        (conv=>whnf)
        refine stepOp (good_call [] rfl F105 q5 rfl ⟨rfl, rfl, rfl, rfl, trivial⟩ rfl ⟨.inl rfl, .inl rfl, .inl rfl, .inl rfl, trivial⟩) rfl rfl ?_
        (refine rg ?_;(conv=>whnf))
        refine stepOp (good_appendT Γ.toTy 81 rfl rfl rfl rfl rfl (.row rfl) .sl (by simp) (by omega) (by omega)) rfl rfl ?_
        (refine rg ?_;(conv=>whnf))
        refine ⟨by unfold I64; omega, ?_⟩
        (conv=>whnf)
        have g1 : (goesL n (setT m1 dom t) q.origin (out.take (j + 1))).1 = (goesM n (goesL n (setT m1 dom t) q.origin (out.take j)).1 o q.origin).1 := by rw [hs]
        have g2 : (goesL n (setT m1 dom t) q.origin (out.take (j + 1))).2 = (goesL n (setT m1 dom t) q.origin (out.take j)).2 ++ (goesM n (goesL n (setT m1 dom t) q.origin (out.take j)).1 o q.origin).2 := by rw [hs]
        refine G_next [(1000, 81)] hlt ⟨⟨rfl, rfl, rfl, rfl, rfl, rfl, rfl, rfl, rfl, rfl, rfl, rfl, trivial⟩, ?_, rfl, rfl⟩
        dsimp only
        rw [g1, g2]
        exact ⟨.inl rfl, rfl, .inl rfl, rfl, .inl rfl, rfl, .inl rfl, rfl, .inl rfl, rfl, .inl rfl, rfl, trivial⟩
      · have hjj : j = out.length := by have := of_decide_eq_false h; omega
        subst hjj
        rw [List.take_length]
        clear h
        (refine rg ?_;(conv=>whnf))
        refine G_data 1000 rfl ?_
        exact done rfl (.cons .tmp .nil) [] (simH n (goesL n (setT m1 dom t) q.origin out).1 true) (fun _ h => h) rfl rfl ⟨trivial, ⟨.inl rfl, rfl, .inl rfl, rfl, .inl rfl, rfl, .inl rfl, rfl, trivial⟩, rfl, rfl⟩
  · have h2 : e = 2 := by simpa using h
    clear h
    subst h2
    have hpd : pickD m1 dom (t, out, 2) = dropT m1 2 := by
      unfold pickD
      rw [if_pos rfl]
    rw [hpd] at hres hz
    subst hres
    have q4 := dropS n m1 true 2 (by decide) (by decide) ⟨(hok.1.drp _).1, by have := (hok.1.drp (Int.toNat 2)).2; omega⟩
    (refine rg ?_;(conv=>whnf);refine aT ?_;refine rg ?_;(conv=>whnf))
    refine stepOp (good_call [] rfl F104 q4 rfl ⟨rfl, rfl, rfl, rfl, trivial⟩ rfl ⟨.inl rfl, .inl rfl, .inl rfl, .inl rfl, trivial⟩) rfl rfl ?_
    (refine rg ?_;(conv=>whnf))
    have hdr : DropsOK (dropT m1 2) := fun i => ⟨(hz.drp i).1, by have := (hz.drp i).2; omega⟩
    refine G_adopt 12 1000 3 seenSV rfl rfl ?_
    refine G_count out.length (fun j => [(0, .ptr 0 0), (7, .ptr 7 0), (12, .osl 1000), (69, .sl 9 outSV out), (70, intSV out.length), (71, intSV j)]) (fun j => pickO n (goesL n (dropT m1 2) q.origin (out.take j)).1 q (goesL n (dropT m1 2) q.origin (out.take j)).2) [] ⟨⟨rfl, rfl, rfl, rfl, rfl, rfl, rfl, rfl, rfl, rfl, rfl, rfl, trivial⟩, ⟨.inl rfl, rfl, .inl rfl, rfl, .inl rfl, rfl, .inl rfl, rfl, .inl rfl, rfl, .inl rfl, rfl, trivial⟩, rfl, rfl⟩ ?_
    intro j hj
    (refine rg ?_;(conv=>whnf))
    refine ⟨fun h => ?_, fun h => ?_⟩
    · have hlt : j < out.length := by have := of_decide_eq_true h; omega
      have hj0 : ((j : Nat) : Int).toNat < out.length := by simpa using hlt
      obtain ⟨o, hoo⟩ : ∃ o, out[j] = o := ⟨_, rfl⟩
      have e1 : out[((j : Nat) : Int).toNat]'hj0 = o := hoo
      have hs := goesL_step n (dropT m1 2) q.origin out j hlt
      rw [hoo] at hs
      have hjo := goesL_ok hn q.origin (out.take j) hz (by omega) (fun x hx => hb2 x (List.mem_of_mem_take hx))
      have hlen : (out.take j).length = j := by rw [List.length_take]; omega
      rw [hlen] at hjo
      have hsl := goesL_few n q.origin (out.take j) (dropT m1 2)
      rw [hlen] at hsl
      have q5 := simGoesS n hn (goesL n (dropT m1 2) q.origin (out.take j)).1 true J _ hjo (by omega) o (hb2 o (by rw [← hoo]; exact List.getElem_mem hlt)) q.origin
      have hfw := goesM_few n (goesL n (dropT m1 2) q.origin (out.take j)).1 o q.origin
      clear h
      (refine rg ?_;(conv=>whnf))
      refine ⟨rfl, by omega, hj0, ?_⟩
      rw [e1]
      (conv=>whnf)
      refine stepOp (good_call [] rfl F105 q5 rfl ⟨rfl, rfl, rfl, rfl, trivial⟩ rfl ⟨.inl rfl, .inl rfl, .inl rfl, .inl rfl, trivial⟩) rfl rfl ?_
      (refine rg ?_;(conv=>whnf))
      refine stepOp (good_appendT Γ.toTy 81 rfl rfl rfl rfl rfl (.row rfl) .sl (by simp) (by omega) (by omega)) rfl rfl ?_
      (refine rg ?_;(conv=>whnf))
      refine ⟨by unfold I64; omega, ?_⟩
      (conv=>whnf)
      have g1 : (goesL n (dropT m1 2) q.origin (out.take (j + 1))).1 = (goesM n (goesL n (dropT m1 2) q.origin (out.take j)).1 o q.origin).1 := by rw [hs]
      have g2 : (goesL n (dropT m1 2) q.origin (out.take (j + 1))).2 = (goesL n (dropT m1 2) q.origin (out.take j)).2 ++ (goesM n (goesL n (dropT m1 2) q.origin (out.take j)).1 o q.origin).2 := by rw [hs]
      refine G_next [(1000, 81)] hlt ⟨⟨rfl, rfl, rfl, rfl, rfl, rfl, rfl, rfl, rfl, rfl, rfl, rfl, trivial⟩, ?_, rfl, rfl⟩
      dsimp only
      rw [g1, g2]
      exact ⟨.inl rfl, rfl, .inl rfl, rfl, .inl rfl, rfl, .inl rfl, rfl, .inl rfl, rfl, .inl rfl, rfl, trivial⟩
    · have hjj : j = out.length := by have := of_decide_eq_false h; omega
      subst hjj
      rw [List.take_length]
      clear h
      (refine rg ?_;(conv=>whnf))
      refine G_data 1000 rfl ?_
      exact done rfl (.cons .tmp .nil) [] (simH n (goesL n (dropT m1 2) q.origin out).1 true) (fun _ h => h) rfl rfl ⟨trivial, ⟨.inl rfl, rfl, .inl rfl, rfl, .inl rfl, rfl, .inl rfl, rfl, trivial⟩, rfl, rfl⟩
end Go.Sy.YtmelpejjondedaaGreat

namespace Go.Sy.YtmelpejjondedaaGreat
open Go.Proofs
attribute [local irreducible] Go.Sy.G Go.Sy.DR
set_option maxRecDepth 100000
set_option maxHeartbeats 4000000
theorem tick_step (l : List (List EntryM)) (now : Int) (j : Nat) (hj : j < l.length) :
    ((l.take j).map (fun t => ageT t now) ++ l.drop j).set j (ageT l[j] now) = (l.take (j + 1)).map (fun t => ageT t now) ++ l.drop (j + 1) := by
  apply List.ext_getElem
  · simp only [List.length_set, List.length_append, List.length_map, List.length_take, List.length_drop]; omega
  intro i h1 h2
  simp only [List.length_set, List.length_append, List.length_map, List.length_take, List.length_drop] at h1
  rw [List.getElem_set]
  by_cases hi : j = i
  · subst hi
    rw [if_pos rfl, List.getElem_append_left (by simp; omega)]
    simp
  · rw [if_neg hi]
    by_cases hlt : i < j
    · rw [List.getElem_append_left (by simp; omega), List.getElem_append_left (by simp; omega)]
      simp
    · rw [List.getElem_append_right (by simp; omega), List.getElem_append_right (by simp; omega)]
      simp only [List.getElem_drop, List.length_map, List.length_take]
      congr 1
      omega
theorem good_minE {P : Program} {o : Oper} {s : SS} {x y : Operand} {at_ : Array TypeId} {k k' : IntKind} {m n r : Int} (hr : (if n < m then n else m) = r) (h : o.op = .call ⟨.builtin .min, #[x, y], at_⟩)
    (hx : ev s x = .val (.int k m)) (hy : ev s y = .val (.int k' n)) : Good P o s ⟨.val (.int k r), [], []⟩ := by
  have := good_min (P := P) h hx hy
  rwa [hr] at this
def ageL (l : List (List EntryM)) (now : Int) (j : Nat) : List (List EntryM) := (l.take j).map (fun t => ageT t now) ++ l.drop j
theorem ageL_get (l : List (List EntryM)) (now : Int) (j : Nat) (hj : j < l.length) (h2 : j < (ageL l now j).length) : (ageL l now j)[j] = l[j] := by
  have h : (ageL l now j)[j]? = l[j]? := by
    unfold ageL
    have hm : min j l.length = j := by omega
    rw [List.getElem?_append_right (by simp; omega), List.getElem?_drop, List.length_map, List.length_take, hm, Nat.sub_self, Nat.add_zero]
  rw [List.getElem?_eq_getElem hj, List.getElem?_eq_getElem h2] at h
  exact Option.some.inj h
theorem ageL_length (l : List (List EntryM)) (now : Int) (j : Nat) : (ageL l now j).length = l.length := by
  unfold ageL
  simp only [List.length_append, List.length_map, List.length_take, List.length_drop]
  omega
def tickO (n : Net) (m : MacM) (d : Bool) (now : Int) (j : Nat) : Obs := [(0, .box (simL n 1 now m.injected m.drops)), (1, .box (onceX n m.up d)), (2, .row 1 tabSV (ageL m.tables now j)), (3, .row 1 queSV m.queues)]
theorem simTickS (n : Net) (m : MacM) (d : Bool) (J D : Int) (hm0 : MacOK n m J D) (hs : Short n.domains) :
    Sy.Spec Tryz.prog 54 [.ptr 0 0] (simH n m d) (.tup []) (simH n (tickT m) d) := contract Γ hm 100 F54 Tryz.ntmps54 rfl fun F hF => by
  unfold Short at hs
  have hnow := hm0.now
  have htl : m.tables.length < 2147483648 := by rw [hm0.tabs]; exact hs
  have hto := hm0.tab
  obtain ⟨nw, hnw⟩ : ∃ nw, (if 1099511627776 < m.now + 1 then 1099511627776 else m.now + 1) = nw := ⟨_, rfl⟩
  have hti : tickT m = ⟨m.up, ageL m.tables nw m.tables.length, m.queues, nw, m.injected, m.drops⟩ := by
    have : min (m.now + 1) 1099511627776 = nw := by rw [← hnw]; split <;> omega
    unfold tickT ageL
    rw [this, List.take_length, List.drop_length, List.append_nil]
  rw [hti]
  (conv=>whnf)
  refine ⟨by unfold I64; omega, ?_⟩
  (conv=>whnf)
  refine stepOp (good_minE hnw rfl rfl rfl) rfl rfl ?_
  (refine rg ?_;(conv=>whnf))
  refine G_count m.tables.length (fun j => [(0, .ptr 0 0), (16, .osl 2), (17, intSV m.tables.length), (18, intSV j)]) (fun j => tickO n m d nw j) [] ⟨⟨rfl, rfl, rfl, rfl, rfl, rfl, rfl, rfl, trivial⟩, ⟨.inl rfl, rfl, .inl rfl, rfl, .inl rfl, rfl, .inl rfl, rfl, trivial⟩, rfl, rfl⟩ ?_
  intro j hj
  (refine rg ?_;(conv=>whnf))
  refine ⟨fun h => ?_, fun h => ?_⟩
  · have hlt : j < m.tables.length := by have := of_decide_eq_true h; omega
    have hal := ageL_length m.tables nw j
    have hj0 : ((j : Nat) : Int).toNat < (ageL m.tables nw j).length := by rw [hal]; simpa using hlt
    obtain ⟨t, hoo⟩ : ∃ t, m.tables[j] = t := ⟨_, rfl⟩
    have e1 : (ageL m.tables nw j)[((j : Nat) : Int).toNat]'hj0 = t := (ageL_get m.tables nw j hlt (by rw [hal]; exact hlt)).trans hoo
    have hs := tick_step m.tables nw j hlt
    rw [hoo] at hs
    have ht := hto t (by rw [← hoo]; exact List.getElem_mem hlt)
    clear h
    (refine rg ?_;(conv=>whnf))
    refine ⟨by omega, hj0, ?_⟩
    (conv=>whnf)
    refine ⟨rfl, hj0, ?_⟩
    rw [e1]
    (conv=>whnf)
    refine callD0 (tabAgeS t nw ht.short ht.mac) F107 rfl rfl rfl (by kernel_rfl) rfl ?_
    (refine rd (by kernel_rfl) ?_;(conv=>whnf))
    refine ⟨by omega, hj0, ?_⟩
    (conv=>whnf)
    refine ⟨rfl, hj0, ageT t nw, rfl, rfl, ?_⟩
    (conv=>whnf)
    refine ⟨(by kernel_rfl), ?_⟩
    (conv=>whnf)
    refine ⟨by unfold I64; omega, ?_⟩
    (conv=>whnf)
    exact G_next [] hlt ⟨⟨rfl, rfl, rfl, rfl, rfl, rfl, rfl, rfl, trivial⟩, ⟨.inl rfl, rfl, .inl rfl, rfl, .inl (congrArg (Ob.row 1 tabSV) hs.symm), rfl, .inl rfl, rfl, trivial⟩, rfl, rfl⟩
  · have hjj : j = m.tables.length := by have := of_decide_eq_false h; omega
    subst hjj
    clear h
    (refine rg ?_;(conv=>whnf))
    exact done_end rfl .nil [] (simH n ⟨m.up, ageL m.tables nw m.tables.length, m.queues, nw, m.injected, m.drops⟩ d) (fun _ h => h) rfl rfl ⟨trivial, ⟨.inl rfl, rfl, .inl rfl, rfl, .inl rfl, rfl, .inl rfl, rfl, trivial⟩, rfl, rfl⟩
end Go.Sy.YtmelpejjondedaaGreat

namespace Go.Sy.YtmelpejjondedaaGreat
open Go.Proofs
attribute [local irreducible] Go.Sy.G Go.Sy.DR
set_option maxRecDepth 100000
set_option maxHeartbeats 4000000
def simN (n : Net) (m : MacM) (d : Bool) : Obs := [(0, .box (simL n 4 m.now m.injected m.drops)), (1, .non), (2, .row 1 tabSV m.tables), (3, .row 1 queSV m.queues), (4, .box (onceX n m.up d))]
def upT (m : MacM) (up : List Bool) : MacM := ⟨up, m.tables, m.queues, m.now, m.injected, m.drops⟩
def doD (n : Net) (m : MacM) (d : Bool) (x : StepM) : Bool :=
  if x.kind = 1 then d else if x.kind = 2 then (if (takeM m x.domain x.at_).2.2 then true else d) else if x.kind = 3 then d else if x.kind = 4 then d else if x.kind = 5 then (if x.up.length = n.links.length then false else d) else d
theorem simDoS (n : Net) (hn : n.Fin) (hm1 : n.Num) (m : MacM) (d : Bool) (J D : Int) (hm0 : MacOK n m J D) (hJ : J < 900000000000) (hD0 : 0 ≤ D) (hD : D ≤ 900000000000) (x : StepM) (hb : x.bytes.length < 100000) :
    Sy.Spec Tryz.prog 21 [.ptr 0 0, stepSV x] (simH n m d) (.tup [.sl 3 seenSV (doT n m x).2, intSV 0]) (simN n (doT n m x).1 (doD n m d x)) := contract Γ hm 100 F21 Tryz.ntmps21 rfl fun F hF => by
  have hres := doT.eq_1 n m x
  generalize doT n m x = res at *
  have hdd := doD.eq_1 n m d x
  generalize doD n m d x = dd at *
  (conv=>whnf)
  refine stepOp (good_box (d := 900) rfl rfl rfl) rfl rfl ?_
  (refine rg ?_;(conv=>whnf);refine aF ?_;refine rg ?_;(conv=>whnf))
  refine ⟨fun h => ?_, fun h => ?_⟩
  · have h1 : x.kind = 1 := by simpa using h
    rw [if_pos h1] at hres hdd
    subst hres
    subst hdd
    have q1 := simInjectS n hn m dd J D hm0 (by omega) (by omega) x.port x.bytes hb
    (refine rg ?_;(conv=>whnf))
    refine stepOp (good_call [] rfl F51 q1 rfl ⟨rfl, rfl, rfl, rfl, trivial⟩ rfl ⟨.inl rfl, .inl rfl, .inl rfl, .inl rfl, trivial⟩) rfl rfl ?_
    (refine rg ?_;(conv=>whnf))
    refine G_nilsl 4 3 seenSV rfl ?_
    refine G_renameB 1 4 rfl rfl (by decide) ?_
    exact done rfl (.cons .tmp (.cons .tmp .nil)) [] (simN n (injectT n m x.port x.bytes) dd) (fun _ h => h) rfl rfl ⟨trivial, ⟨.inl rfl, rfl, .inl rfl, rfl, .inl rfl, rfl, .inl rfl, rfl, .inl rfl, rfl, trivial⟩, rfl, rfl⟩
  have h1 : ¬ x.kind = 1 := by simpa using h
  rw [if_neg h1] at hres hdd
  clear h
  (refine rg ?_;(conv=>whnf))
  refine ⟨fun h => ?_, fun h => ?_⟩
  · have h1 : x.kind = 2 := by simpa using h
    rw [if_pos h1] at hres hdd
    subst hres
    have q1 := simPickS n hn hm1 m d J D hm0 hD0 hD x.domain x.at_
    rw [← hdd] at q1
    (refine rg ?_;(conv=>whnf))
    refine stepOp (good_call [] rfl F52 q1 rfl ⟨rfl, rfl, rfl, rfl, trivial⟩ rfl ⟨.inl rfl, .inl rfl, .inl rfl, .inl rfl, trivial⟩) rfl rfl ?_
    (refine rg ?_;(conv=>whnf))
    refine G_renameB 1 4 rfl rfl (by decide) ?_
    exact done rfl (.cons .tmp (.cons .tmp .nil)) [] (simN n (pickT n m x.domain x.at_).1 dd) (fun _ h => h) rfl rfl ⟨trivial, ⟨.inl rfl, rfl, .inl rfl, rfl, .inl rfl, rfl, .inl rfl, rfl, .inl rfl, rfl, trivial⟩, rfl, rfl⟩
  have h1 : ¬ x.kind = 2 := by simpa using h
  rw [if_neg h1] at hres hdd
  clear h
  (refine rg ?_;(conv=>whnf))
  refine ⟨fun h => ?_, fun h => ?_⟩
  · have h1 : x.kind = 3 := by simpa using h
    rw [if_pos h1] at hres hdd
    subst hres
    subst hdd
    have q1 := simTakeS n m dd x.domain x.at_ (queueL_ok hm0 _)
    (refine rg ?_;(conv=>whnf))
    refine stepOp (good_call [] rfl F53 q1 rfl ⟨rfl, rfl, rfl, rfl, trivial⟩ rfl ⟨.inl rfl, .inl rfl, .inl rfl, .inl rfl, trivial⟩) rfl rfl ?_
    (refine rg ?_;(conv=>whnf))
    refine G_nilsl 4 3 seenSV rfl ?_
    refine G_renameB 1 4 rfl rfl (by decide) ?_
    exact done rfl (.cons .tmp (.cons .tmp .nil)) [] (simN n (takeM m x.domain x.at_).1 dd) (fun _ h => h) rfl rfl ⟨trivial, ⟨.inl rfl, rfl, .inl rfl, rfl, .inl rfl, rfl, .inl rfl, rfl, .inl rfl, rfl, trivial⟩, rfl, rfl⟩
  have h1 : ¬ x.kind = 3 := by simpa using h
  rw [if_neg h1] at hres hdd
  clear h
  (refine rg ?_;(conv=>whnf))
  refine ⟨fun h => ?_, fun h => ?_⟩
  · have h1 : x.kind = 4 := by simpa using h
    rw [if_pos h1] at hres hdd
    subst hres
    subst hdd
    have q1 := simTickS n m dd J D hm0 hn.domains
    (refine rg ?_;(conv=>whnf))
    refine stepOp (good_call [] rfl F54 q1 rfl ⟨rfl, rfl, rfl, rfl, trivial⟩ rfl ⟨.inl rfl, .inl rfl, .inl rfl, .inl rfl, trivial⟩) rfl rfl ?_
    (refine rg ?_;(conv=>whnf))
    refine G_nilsl 4 3 seenSV rfl ?_
    refine G_renameB 1 4 rfl rfl (by decide) ?_
    exact done rfl (.cons .tmp (.cons .tmp .nil)) [] (simN n (tickT m) dd) (fun _ h => h) rfl rfl ⟨trivial, ⟨.inl rfl, rfl, .inl rfl, rfl, .inl rfl, rfl, .inl rfl, rfl, .inl rfl, rfl, trivial⟩, rfl, rfl⟩
  have h1 : ¬ x.kind = 4 := by simpa using h
  rw [if_neg h1] at hres hdd
  clear h
  (refine rg ?_;(conv=>whnf))
  refine ⟨fun h => ?_, fun h => ?_⟩
  · have h1 : x.kind = 5 := by simpa using h
    rw [if_pos h1] at hres hdd
    clear h
    (refine rg ?_;(conv=>whnf))
    refine ⟨(by kernel_rfl), ?_⟩
    (conv=>whnf)
    refine ⟨fun h => ?_, fun h => ?_⟩
    · have h2 : x.up.length = n.links.length := by have := of_decide_eq_true h; omega
      rw [if_pos h2] at hres hdd
      subst hres
      subst hdd
      clear h
      have hls := hn.links
      unfold Short at hls
      (refine rg ?_;(conv=>whnf))
      refine call0 (cloneBoolS x.up (by omega)) F55 rfl rfl rfl rfl rfl ?_
      (refine rg ?_;(conv=>whnf))
      refine G_nilsl 4 3 seenSV rfl ?_
      refine G_boxV 55 (onceX n x.up false) rfl (.cons (.refl _) (.cons (.refl _) (.cons (.refl _) (.cons (.refl _) (.cons .nil .nil))))) ?_
      exact done rfl (.cons .tmp (.cons .tmp .nil)) [(4, 55)] (simN n (upT m x.up) false) (fun _ h => h) rfl rfl ⟨trivial, ⟨.inl rfl, rfl, .inr rfl, rfl, .inl rfl, rfl, .inl rfl, rfl, .inl rfl, rfl, trivial⟩, rfl, rfl⟩
    · have h2 : ¬ x.up.length = n.links.length := by have := of_decide_eq_false h; omega
      rw [if_neg h2] at hres hdd
      subst hres
      subst hdd
      clear h
      (refine rg ?_;(conv=>whnf))
      refine G_nilsl 4 3 seenSV rfl ?_
      refine G_renameB 1 4 rfl rfl (by decide) ?_
      exact done rfl (.cons .tmp (.cons .tmp .nil)) [] (simN n m dd) (fun _ h => h) rfl rfl ⟨trivial, ⟨.inl rfl, rfl, .inl rfl, rfl, .inl rfl, rfl, .inl rfl, rfl, .inl rfl, rfl, trivial⟩, rfl, rfl⟩
  have h1 : ¬ x.kind = 5 := by simpa using h
  rw [if_neg h1] at hres hdd
  subst hres
  subst hdd
  clear h
  (refine rg ?_;(conv=>whnf))
  refine G_nilsl 4 3 seenSV rfl ?_
  refine G_renameB 1 4 rfl rfl (by decide) ?_
  exact done rfl (.cons .tmp (.cons .tmp .nil)) [] (simN n m dd) (fun _ h => h) rfl rfl ⟨trivial, ⟨.inl rfl, rfl, .inl rfl, rfl, .inl rfl, rfl, .inl rfl, rfl, .inl rfl, rfl, trivial⟩, rfl, rfl⟩
end Go.Sy.YtmelpejjondedaaGreat

namespace Go.Sy.YtmelpejjondedaaGreat
open Go.Proofs
attribute [local irreducible] Go.Sy.G Go.Sy.DR
set_option maxRecDepth 100000
set_option maxHeartbeats 4000000
theorem simNewBadS (n : Net) (hn : n.Fin) (hb : okB n (List.replicate n.links.length true) = false) :
    Sy.Spec Tryz.prog 18 [netSV n] [] (.tup [.val (.pointer none), intSV 2]) [] := contract Γ hm 100 F18 Tryz.ntmps18 rfl fun F hF => by
  have hls := hn.links
  unfold Short at hls
  have q1 := repeatS n.links.length (by omega)
  have q2 := forwardBad n (List.replicate n.links.length true) hn hb
  generalize List.replicate n.links.length true = up at *
  (conv=>whnf)
  refine G_litR 7 boolSV [true] rfl rfl ?_
  refine G_data 7 rfl ?_
  (refine rg ?_;(conv=>whnf))
  refine call0 q1 F43 rfl rfl rfl rfl rfl ?_
  (refine rg ?_;(conv=>whnf))
  refine call0 q2 F44 rfl rfl rfl rfl rfl ?_
  (refine rg ?_;(conv=>whnf);refine aT ?_;refine rg ?_;(conv=>whnf))
  exact done0 rfl (.cons .tmp (.cons .tmp .nil)) rfl rfl
theorem simNewS (n : Net) (hn : n.Fin) (hb : okB n (List.replicate n.links.length true) = true) :
    Sy.Spec Tryz.prog 18 [netSV n] [] (.tup [.ptr 0 0, intSV 0]) (simH n (newT n) false) := contract Γ hm 100 F18 Tryz.ntmps18 rfl fun F hF => by
  have hls := hn.links
  have hds := hn.domains
  unfold Short at hls hds
  have q1 := repeatS n.links.length (by omega)
  have q2 := forwardOK n (List.replicate n.links.length true) hn hb
  have hnt := newT.eq_1 n
  generalize newT n = m at *
  generalize List.replicate n.links.length true = up at *
  (conv=>whnf)
  refine G_litR 7 boolSV [true] rfl rfl ?_
  refine G_data 7 rfl ?_
  (refine rg ?_;(conv=>whnf))
  refine call0 q1 F43 rfl rfl rfl rfl rfl ?_
  (refine rg ?_;(conv=>whnf))
  refine call0 q2 F44 rfl rfl rfl rfl rfl ?_
  (refine rg ?_;(conv=>whnf);refine aF ?_;refine rg ?_;(conv=>whnf))
  refine callD0 (copyS n hn) F45 rfl rfl rfl (by kernel_rfl) rfl ?_
  (refine rd (by kernel_rfl) ?_;(conv=>whnf))
  refine stepD (good_makeSlice Γ.toTy (d := 28) (n := n.domains.length) (fun _ : Unit => .val (.slice none 0 0)) () rfl rfl rfl rfl rfl rfl rfl rfl (by omega) (by omega) rfl rfl rfl) (by kernel_rfl) rfl ?_
  (refine rd (by kernel_rfl) ?_;(conv=>whnf))
  refine stepD (good_makeSlice Γ.toTy (d := 32) (n := n.domains.length) (fun _ : Unit => .val (.slice none 0 0)) () rfl rfl rfl rfl rfl rfl rfl rfl (by omega) (by omega) rfl rfl rfl) (by kernel_rfl) rfl ?_
  (refine rd (by kernel_rfl) ?_;(conv=>whnf))
  refine ⟨(by kernel_rfl), ?_⟩
  refine G_recode 28 (e' := tabSV) (l' := List.replicate n.domains.length []) rfl (by simp) (fun M w i h1 h2 v hv => ?_) ?_
  · rw [List.getElem_replicate]
    simp only [RdD] at hv
    exact RdD_nil_sl hv
  refine G_recode 32 (e' := queSV) (l' := List.replicate n.domains.length []) rfl (by simp) (fun M w i h1 h2 v hv => ?_) ?_
  · rw [List.getElem_replicate]
    simp only [RdD] at hv
    exact RdD_nil_sl hv
  refine G_boxV 24 (onceX n up false) rfl (.cons (.refl _) (.cons (.refl _) (.cons (.refl _) (.cons (.refl _) (.cons .nil .nil))))) ?_
  (refine rg ?_;(conv=>whnf))
  subst hnt
  exact done rfl (.cons .tmp (.cons .tmp .nil)) [(0, 34), (1, 24), (2, 28), (3, 32)] (simH n ⟨up, List.replicate n.domains.length [], List.replicate n.domains.length [], 0, 0, fun _ => 0⟩ false) (fun _ h => h) rfl rfl ⟨trivial, ⟨.inl rfl, rfl, .inl rfl, rfl, .inl rfl, rfl, .inl rfl, rfl, trivial⟩, rfl, rfl⟩
theorem simDoNilS (x : StepM) :
    Sy.Spec Tryz.prog 21 [.val (.pointer none), stepSV x] [] (.tup [.sl 3 seenSV [], intSV 1]) [] := contract Γ hm 100 F21 Tryz.ntmps21 rfl fun F hF => by
  (conv=>whnf)
  refine stepOp (good_eq_nil Γ.toTy rfl (.inl rfl) rfl rfl rfl (.inr ⟨rfl, rfl, rfl⟩)) rfl rfl ?_
  (refine rg ?_;(conv=>whnf);refine aT ?_;refine rg ?_;(conv=>whnf))
  refine G_nilsl 4 3 seenSV rfl ?_
  exact done0 rfl (.cons .tmp (.cons .tmp .nil)) rfl rfl
end Go.Sy.YtmelpejjondedaaGreat

namespace Go.Sy.YtmelpejjondedaaGreat
open Go.Proofs
theorem runL_append (n : Net) : ∀ (a b : List StepM) (m : MacM), runL n m (a ++ b) = ((runL n (runL n m a).1 b).1, (runL n m a).2 ++ (runL n (runL n m a).1 b).2)
  | [], b, m => by simp [runL]
  | o :: a, b, m => by
    rw [List.cons_append, runL, runL, runL_append n a b]
    simp
theorem runL_step (n : Net) (m : MacM) (l : List StepM) (j : Nat) (hj : j < l.length) :
    runL n m (l.take (j + 1)) = ((doT n (runL n m (l.take j)).1 l[j]).1, (runL n m (l.take j)).2 ++ (doT n (runL n m (l.take j)).1 l[j]).2) := by
  rw [List.take_succ_eq_append_getElem hj, runL_append]
  simp [runL]
def runF (n : Net) (s : MacM × Bool) (l : List StepM) : MacM × Bool := l.foldl (fun s x => ((doT n s.1 x).1, doD n s.1 s.2 x)) s
theorem runF_fst (n : Net) : ∀ (l : List StepM) (s : MacM × Bool), (runF n s l).1 = (runL n s.1 l).1
  | [], s => rfl
  | x :: l, s => by
    have := runF_fst n l ((doT n s.1 x).1, doD n s.1 s.2 x)
    rw [runL]
    exact this
def runD (n : Net) (m : MacM) (d : Bool) (l : List StepM) : Bool := (runF n (m, d) l).2
theorem runD_step (n : Net) (m : MacM) (d : Bool) (l : List StepM) (j : Nat) (hj : j < l.length) :
    runD n m d (l.take (j + 1)) = doD n (runL n m (l.take j)).1 (runD n m d (l.take j)) l[j] := by
  unfold runD
  rw [List.take_succ_eq_append_getElem hj]
  have := runF_fst n (l.take j) (m, d)
  unfold runF at this ⊢
  rw [List.foldl_append]
  show doD n (List.foldl _ (m, d) (l.take j)).1 _ l[j] = _
  rw [this]
theorem doT_ok {n : Net} (hn : n.Fin) (hm1 : n.Num) {m : MacM} {J D : Int} (h : MacOK n m J D) (hJ : 0 ≤ J) (hD : 0 ≤ D) (x : StepM) : MacOK n (doT n m x).1 (J + 1) (D + 4294967298) := by
  unfold doT
  split
  · exact (injectT_ok hn h hJ hD _ _).mono (by omega) (by omega)
  split
  · have hok := takeM_ok h x.domain x.at_
    unfold pickT
    split
    · exact hok.1.mono (by omega) (by omega)
    · have hb := bridgeT_few hn (fwOf n (takeM m x.domain x.at_).1.up) (tableL (takeM m x.domain x.at_).1 x.domain) x.domain (takeM m x.domain x.at_).2.1 (takeM m x.domain x.at_).1.now
      have h1 := pickD_ok hok.1 hD x.domain (bridgeT_tab (n := n) (fw := fwOf n (takeM m x.domain x.at_).1.up) (dom := x.domain) (now := (takeM m x.domain x.at_).1.now) (tableL_ok hok.1 x.domain) hok.2)
      have h2 := goesL_ok hn (takeM m x.domain x.at_).2.1.origin (pickB n (takeM m x.domain x.at_).1 x.domain (takeM m x.domain x.at_).2.1).2.1 h1 (by omega) (bridgeT_out hn hm1 hok.2)
      refine h2.mono (by omega) ?_
      unfold pickB
      omega
  split
  · exact (takeM_ok h x.domain x.at_).1.mono (by omega) (by omega)
  split
  · have h1 := h.now
    refine ⟨h.up, by unfold tickT; simp only [List.length_map]; exact h.tabs, h.ques, fun t ht => ?_, h.que, ?_, ?_, fun i => ?_⟩
    · unfold tickT at ht
      obtain ⟨t0, ht0, rfl⟩ := List.mem_map.1 ht
      exact ageT_ok (h.tab t0 ht0) _
    · unfold tickT
      dsimp only
      omega
    · have := h.inj
      unfold tickT
      dsimp only
      omega
    · have := h.drp i
      unfold tickT
      dsimp only
      omega
  split
  · split
    · rename_i h2
      exact MacOK.mono (n := n) (m := ⟨x.up, m.tables, m.queues, m.now, m.injected, m.drops⟩) ⟨h2, h.tabs, h.ques, h.tab, h.que, h.now, h.inj, h.drp⟩ (by omega) (by omega)
    · exact h.mono (by omega) (by omega)
  · exact h.mono (by omega) (by omega)
theorem doT_few {n : Net} (hn : n.Fin) (m : MacM) (x : StepM) : (doT n m x).2.length < 4294967296 := by
  unfold doT
  split
  · show (0 : Nat) < 4294967296; decide
  split
  · unfold pickT
    split
    · show (0 : Nat) < 4294967296; decide
    · have hb := bridgeT_few hn (fwOf n (takeM m x.domain x.at_).1.up) (tableL (takeM m x.domain x.at_).1 x.domain) x.domain (takeM m x.domain x.at_).2.1 (takeM m x.domain x.at_).1.now
      have h2 := goesL_few n (takeM m x.domain x.at_).2.1.origin (pickB n (takeM m x.domain x.at_).1 x.domain (takeM m x.domain x.at_).2.1).2.1 (pickD (takeM m x.domain x.at_).1 x.domain (pickB n (takeM m x.domain x.at_).1 x.domain (takeM m x.domain x.at_).2.1))
      unfold pickB at h2 ⊢
      omega
  split
  · show (0 : Nat) < 4294967296; decide
  split
  · show (0 : Nat) < 4294967296; decide
  split
  · show (0 : Nat) < 4294967296; decide
  · show (0 : Nat) < 4294967296; decide
theorem runL_ok {n : Net} (hn : n.Fin) (hm1 : n.Num) : ∀ (l : List StepM) {m : MacM} {J D : Int}, MacOK n m J D → 0 ≤ J → 0 ≤ D → MacOK n (runL n m l).1 (J + l.length) (D + l.length * 4294967298)
  | [], m, J, D, h, _, _ => by
    rw [runL]
    exact h.mono (by simp) (by simp)
  | x :: l, m, J, D, h, hJ, hD => by
    rw [runL]
    have := runL_ok hn hm1 l (doT_ok hn hm1 h hJ hD x) (by omega) (by omega)
    exact this.mono (by simp only [List.length_cons]; omega) (by simp only [List.length_cons]; omega)
theorem runL_few {n : Net} (hn : n.Fin) : ∀ (l : List StepM) (m : MacM), (runL n m l).2.length ≤ l.length * 4294967296
  | [], m => by simp [runL]
  | x :: l, m => by
    rw [runL]
    have h1 := runL_few hn l (doT n m x).1
    have h2 := doT_few hn m x
    simp only [List.length_append, List.length_cons]
    omega
theorem newT_ok (n : Net) : MacOK n (newT n) 0 0 := by
  refine ⟨by simp [newT], by simp [newT], by simp [newT], fun t ht => ?_, fun l hl => ?_, by simp [newT], by simp [newT], fun i => by simp [newT]⟩
  · have : t = [] := (List.mem_replicate.1 ht).2
    rw [this]; exact nil_tabOK
  · have : l = [] := (List.mem_replicate.1 hl).2
    rw [this]; exact nil_queueOK
def upsT (n : Net) : List Bool := List.replicate n.links.length true
def runT (n : Net) (l : List StepM) : List SeenM × Int := if okB n (upsT n) = true then ((runL n (newT n) l).2, 0) else ([], 2)
structure ScriptOK (l : List StepM) : Prop where
  few : l.length ≤ 60
  bytes : ∀ x ∈ l, x.bytes.length ≤ 2000
attribute [local irreducible] Go.Sy.G Go.Sy.DR
set_option maxRecDepth 100000
set_option maxHeartbeats 4000000
def runO (n : Net) (m : MacM) (d : Bool) (l : List SeenM) : Obs := [(0, .box (simL n 1 m.now m.injected m.drops)), (1, .box (onceX n m.up d)), (2, .row 1 tabSV m.tables), (3, .row 1 queSV m.queues), (1000, .row 3 seenSV l)]
theorem simRunS (n : Net) (hn : n.Fin) (hm1 : n.Num) (l : List StepM) (hl : ScriptOK l) :
    Sy.Spec Tryz.prog 13 [netSV n, .sl 6 stepSV l] [] (.tup [.sl 3 seenSV (runT n l).1, intSV (runT n l).2]) [] := contract Γ hm 100 F13 Tryz.ntmps13 rfl fun F hF => by
  have hres := runT.eq_1 n l
  generalize runT n l = res at *
  have hlen := hl.few
  cases hok : okB n (upsT n)
  · rw [if_neg (by rw [hok]; simp)] at hres
    subst hres
    have q1 := simNewBadS n hn hok
    (conv=>whnf)
    refine call0 q1 F18 rfl rfl rfl rfl rfl ?_
    (refine rg ?_;(conv=>whnf);refine aT ?_;refine rg ?_;(conv=>whnf))
    refine G_nilsl 4 3 seenSV rfl ?_
    exact done0 rfl (.cons .tmp (.cons .tmp .nil)) rfl rfl
  · rw [if_pos hok] at hres
    subst hres
    have q1 := simNewS n hn hok
    have hn0 := newT_ok n
    generalize newT n = m0 at *
    (conv=>whnf)
    refine stepOp (good_call [(0, 800), (1, 801), (2, 802), (3, 803)] rfl F18 q1 rfl trivial rfl ⟨.inr rfl, .inr rfl, .inr rfl, .inr rfl, trivial⟩) rfl rfl ?_
    (refine rg ?_;(conv=>whnf);refine aF ?_;refine rg ?_;(conv=>whnf))
    refine G_adopt 8 1000 3 seenSV rfl rfl ?_
    refine G_count l.length (fun j => [(6, .ptr 0 0), (8, .osl 1000), (21, .sl 6 stepSV l), (22, intSV l.length), (23, intSV j)]) (fun j => runO n (runL n m0 (l.take j)).1 (runD n m0 false (l.take j)) (runL n m0 (l.take j)).2) [(0, 800), (1, 801), (2, 802), (3, 803)] ⟨⟨rfl, rfl, rfl, rfl, rfl, rfl, rfl, rfl, rfl, rfl, trivial⟩, ⟨.inl rfl, rfl, .inl rfl, rfl, .inl rfl, rfl, .inl rfl, rfl, .inl rfl, rfl, trivial⟩, rfl, rfl⟩ ?_
    intro j hj
    (refine rg ?_;(conv=>whnf))
    refine ⟨fun h => ?_, fun h => ?_⟩
    · have hlt : j < l.length := by have := of_decide_eq_true h; omega
      have hj0 : ((j : Nat) : Int).toNat < l.length := by simpa using hlt
      obtain ⟨x, hoo⟩ : ∃ x, l[j] = x := ⟨_, rfl⟩
      have e1 : l[((j : Nat) : Int).toNat]'hj0 = x := hoo
      have hs := runL_step n m0 l j hlt
      have hds := runD_step n m0 false l j hlt
      rw [hoo] at hs hds
      have hxb := hl.bytes x (by rw [← hoo]; exact List.getElem_mem hlt)
      have hjo := runL_ok hn hm1 (l.take j) hn0 (Int.le_refl _) (Int.le_refl _)
      have hjl : (l.take j).length = j := by rw [List.length_take]; omega
      have hjf := runL_few hn (l.take j) m0
      rw [hjl] at hjo hjf
      have q5 := simDoS n hn hm1 (runL n m0 (l.take j)).1 (runD n m0 false (l.take j)) _ _ hjo (by omega) (by omega) (by omega) x (by omega)
      have hfw := doT_few hn (runL n m0 (l.take j)).1 x
      clear h
      (refine rg ?_;(conv=>whnf))
      refine ⟨rfl, by omega, hj0, ?_⟩
      rw [e1]
      (conv=>whnf)
      refine stepOp (good_call [(4, 30)] rfl F21 q5 rfl ⟨rfl, rfl, rfl, rfl, trivial⟩ rfl ⟨.inl rfl, .inl rfl, .inl rfl, .inl rfl, .inr rfl, trivial⟩) rfl rfl ?_
      (refine rg ?_;(conv=>whnf))
      refine stepOp (good_appendT Γ.toTy 35 rfl rfl rfl rfl rfl (.row rfl) .sl (by simp) (by omega) (by omega)) rfl rfl ?_
      (refine rg ?_;(conv=>whnf))
      refine ⟨by unfold I64; omega, ?_⟩
      (conv=>whnf)
      have g1 : (runL n m0 (l.take (j + 1))).1 = (doT n (runL n m0 (l.take j)).1 x).1 := by rw [hs]
      have g2 : (runL n m0 (l.take (j + 1))).2 = (runL n m0 (l.take j)).2 ++ (doT n (runL n m0 (l.take j)).1 x).2 := by rw [hs]
      refine G_next [(1, 30), (1000, 35)] hlt ⟨⟨rfl, rfl, rfl, rfl, rfl, rfl, rfl, rfl, rfl, rfl, trivial⟩, ?_, rfl, rfl⟩
      dsimp only
      rw [g1, g2, hds]
      exact ⟨.inl rfl, rfl, .inl rfl, rfl, .inl rfl, rfl, .inl rfl, rfl, .inl rfl, rfl, trivial⟩
    · have hjj : j = l.length := by have := of_decide_eq_false h; omega
      subst hjj
      rw [List.take_length]
      clear h
      (refine rg ?_;(conv=>whnf))
      refine G_data 1000 rfl ?_
      exact done0 rfl (.cons .tmp (.cons .tmp .nil)) rfl rfl
end Go.Sy.YtmelpejjondedaaGreat

namespace Go.Sy.YtmelpejjondedaaGreat
open Go.Proofs
attribute [local irreducible] Go.Sy.G Go.Sy.DR
set_option maxRecDepth 100000
set_option maxHeartbeats 4000000
theorem bytesB_refl (b : ByteArray) : (b == b) = true := by
  show (b.data == b.data) = true
  simp
theorem simSame1S (x : SeenM) : Sy.Spec Tryz.prog 42 [seenSV x, seenSV x] [] (boolSV true) [] := contract Γ hm 100 F42 Tryz.ntmps42 rfl fun F hF => by
  (conv=>whnf)
  (refine ⟨fun _ => ?_, fun h => False.elim (by simp at h)⟩;refine rg ?_;(conv=>whnf))
  (refine ⟨fun _ => ?_, fun h => False.elim (by simp at h)⟩;refine rg ?_;(conv=>whnf))
  refine stepOp (good_stringT Γ.toTy (bs := x.bytes) rfl rfl rfl rfl rfl rfl rfl .sl) rfl rfl ?_
  (refine rg ?_;(conv=>whnf))
  refine stepOp (good_stringT Γ.toTy (bs := x.bytes) rfl rfl rfl rfl rfl rfl rfl .sl) rfl rfl ?_
  (refine rg ?_;(conv=>whnf))
  refine done0 rfl (.cons .tmp .nil) ?_ rfl
  exact congrArg boolSV (bytesB_refl _).symm
theorem equalSeenS (l : List SeenM) (hl : l.length < 1000000000000) :
    Sy.Spec Tryz.prog 41 [.sl 3 seenSV l, .sl 3 seenSV l, .clo (.func 42) [] []] [] (boolSV true) [] := contract Γ hm 100 F41 Tryz.ntmps41 rfl fun F hF => by
  (conv=>whnf)
  (refine ⟨fun h => False.elim (by simp at h), fun _ => ?_⟩;refine rg ?_;(conv=>whnf))
  refine G_count l.length (fun j => [(1, .sl 3 seenSV l), (2, .clo (.func 42) [] []), (15, .sl 3 seenSV l), (16, intSV l.length), (17, intSV j)]) (fun _ => []) [] ⟨⟨rfl, rfl, rfl, rfl, rfl, rfl, rfl, rfl, rfl, rfl, trivial⟩, trivial, rfl, rfl⟩ ?_
  intro j hj
  (refine rg ?_;(conv=>whnf))
  refine ⟨fun h => ?_, fun h => ?_⟩
  · have hlt : j < l.length := by have := of_decide_eq_true h; omega
    have hj0 : ((j : Nat) : Int).toNat < l.length := by simpa using hlt
    obtain ⟨x, hoo⟩ : ∃ x, l[j] = x := ⟨_, rfl⟩
    have e1 : l[((j : Nat) : Int).toNat]'hj0 = x := hoo
    clear h
    (refine rg ?_;(conv=>whnf))
    refine ⟨rfl, by omega, hj0, ?_⟩
    rw [e1]
    (conv=>whnf)
    refine ⟨rfl, by omega, hj0, ?_⟩
    rw [e1]
    (conv=>whnf)
    refine callC ⟨⟨_, _, F42⟩, simSame1S x⟩ rfl rfl rfl rfl rfl rfl ?_
    (refine rg ?_;(conv=>whnf);refine aF ?_;refine rg ?_;(conv=>whnf))
    (skip)
    refine ⟨by unfold I64; omega, ?_⟩
    (conv=>whnf)
    exact G_next [] hlt ⟨⟨rfl, rfl, rfl, rfl, rfl, rfl, rfl, rfl, rfl, rfl, trivial⟩, trivial, rfl, rfl⟩
  · (refine rg ?_;(conv=>whnf))
    exact done0 rfl (.cons .tmp .nil) rfl rfl
theorem simSameS (l : List SeenM) (hl : l.length < 1000000000000) : Sy.Spec Tryz.prog 17 [.sl 3 seenSV l, .sl 3 seenSV l] [] (boolSV true) [] := contract Γ hm 100 F17 Tryz.ntmps17 rfl fun F hF => by
  (conv=>whnf)
  refine call0 (equalSeenS l hl) F41 rfl rfl rfl rfl rfl ?_
  (refine rg ?_;(conv=>whnf))
  exact done0 rfl (.cons .tmp .nil) rfl rfl
end Go.Sy.YtmelpejjondedaaGreat

namespace Go.Sy.YtmelpejjondedaaGreat
open Go.Proofs
attribute [local irreducible] Go.Sy.G Go.Sy.DR
set_option maxRecDepth 100000
set_option maxHeartbeats 4000000
end Go.Sy.YtmelpejjondedaaGreat

namespace Go.Sy
end Go.Sy

namespace Go.Sy.YtmelpejjondedaaGreat
open Go.Proofs
attribute [local irreducible] Go.Sy.G Go.Sy.DR
set_option maxRecDepth 100000
set_option maxHeartbeats 4000000
end Go.Sy.YtmelpejjondedaaGreat

namespace Go.Sy.YtmelpejjondedaaGreat
open Go.Proofs
attribute [local irreducible] Go.Sy.G Go.Sy.DR
set_option maxRecDepth 100000
set_option maxHeartbeats 4000000
end Go.Sy.YtmelpejjondedaaGreat

namespace Go.Sy.YtmelpejjondedaaGreat
section
variable {n : Net} {up : List Bool} {ranks roots costs : List Int}
end
end Go.Sy.YtmelpejjondedaaGreat

namespace Go.Sy.YtmelpejjondedaaGreat
open Go.Proofs
attribute [local irreducible] Go.Sy.G Go.Sy.DR
set_option maxRecDepth 100000
set_option maxHeartbeats 4000000
end Go.Sy.YtmelpejjondedaaGreat

namespace Go.Sy.YtmelpejjondedaaGreat
open Go.Proofs
attribute [local irreducible] Go.Sy.G Go.Sy.DR
set_option maxRecDepth 100000
set_option maxHeartbeats 4000000
end Go.Sy.YtmelpejjondedaaGreat

namespace Go.Sy.YtmelpejjondedaaGreat
open Go.Proofs
attribute [local irreducible] Go.Sy.G Go.Sy.DR
set_option maxRecDepth 100000
set_option maxHeartbeats 4000000
end Go.Sy.YtmelpejjondedaaGreat

namespace Go.Sy.YtmelpejjondedaaGreat
open Go.Proofs
attribute [local irreducible] Go.Sy.G Go.Sy.DR
set_option maxRecDepth 100000
set_option maxHeartbeats 4000000
end Go.Sy.YtmelpejjondedaaGreat

namespace Go.Sy.YtmelpejjondedaaGreat
open Go.Proofs
attribute [local irreducible] Go.Sy.G Go.Sy.DR
set_option maxRecDepth 100000
set_option maxHeartbeats 4000000
end Go.Sy.YtmelpejjondedaaGreat

namespace Go.Sy.YtmelpejjondedaaGreat
instance : Inhabited Vec := ⟨⟨0, 0, 0, 0, 0⟩⟩
section
variable {n : Net} {up : List Bool} {ranks roots costs : List Int}
end
end Go.Sy.YtmelpejjondedaaGreat

namespace Go.Sy.YtmelpejjondedaaGreat
open Go.Proofs
attribute [local irreducible] Go.Sy.G Go.Sy.DR
set_option maxRecDepth 100000
set_option maxHeartbeats 4000000
end Go.Sy.YtmelpejjondedaaGreat

namespace Go.Sy.YtmelpejjondedaaGreat
open Go.Proofs
attribute [local irreducible] Go.Sy.G Go.Sy.DR
set_option maxRecDepth 100000
set_option maxHeartbeats 4000000
end Go.Sy.YtmelpejjondedaaGreat

namespace Go.Sy.YtmelpejjondedaaGreat
open Go.Proofs
attribute [local irreducible] Go.Sy.G Go.Sy.DR
set_option maxRecDepth 100000
set_option maxHeartbeats 4000000
end Go.Sy.YtmelpejjondedaaGreat

namespace Go.Sy.YtmelpejjondedaaGreat
open Go.Proofs
attribute [local irreducible] Go.Sy.G Go.Sy.DR
set_option maxRecDepth 100000
set_option maxHeartbeats 4000000
end Go.Sy.YtmelpejjondedaaGreat

namespace Go.Sy.YtmelpejjondedaaGreat
open Go.Proofs
attribute [local irreducible] Go.Sy.G Go.Sy.DR
set_option maxRecDepth 100000
set_option maxHeartbeats 4000000
end Go.Sy.YtmelpejjondedaaGreat

namespace Go.Sy.YtmelpejjondedaaGreat
open Go.Proofs
attribute [local irreducible] Go.Sy.G Go.Sy.DR
set_option maxRecDepth 100000
set_option maxHeartbeats 4000000
end Go.Sy.YtmelpejjondedaaGreat

namespace Go.Sy.YtmelpejjondedaaGreat
open Go.Proofs
attribute [local irreducible] Go.Sy.G Go.Sy.DR
set_option maxRecDepth 100000
set_option maxHeartbeats 4000000
end Go.Sy.YtmelpejjondedaaGreat

namespace Go.Sy.YtmelpejjondedaaGreat
open Go.Proofs
attribute [local irreducible] Go.Sy.G Go.Sy.DR
set_option maxRecDepth 100000
set_option maxHeartbeats 4000000
theorem any_at3 {α : Type} {p : α → Bool} {l : List α} {j : Nat} (hj : j < l.length) (h : p l[j] = true) : l.any p = true := List.any_eq_true.2 ⟨_, List.getElem_mem hj, h⟩
theorem any_upto3 {α : Type} {p : α → Bool} {l : List α} {j : Nat} (hI : Upto (fun _ x => !(p x)) l j) (hj : l.length ≤ j) : l.any p = false := by
  rw [List.any_eq_false]
  intro x hx
  obtain ⟨i, hi, rfl⟩ := List.getElem_of_mem hx
  have := hI i hi (by omega)
  simpa using this
def great33X (x : StepM) : Bool := decide (2000 < x.bytes.length) || decide (60 < x.up.length)
def great33B (l : List StepM) : Bool := decide (60 < l.length) || l.any great33X
theorem great33S (l : List StepM) : Sy.Spec Tryz.prog 11 [.sl 6 stepSV l] [] (boolSV (great33B l)) [] := contract Γ hm 100 F11 Tryz.ntmps11 rfl fun F hF => by
  have hres := great33B.eq_1 l
  generalize great33B l = res at *
  (conv=>whnf)
  refine ⟨fun h => ?_, fun h => ?_⟩
  · rw [decide_eq_true (by have := of_decide_eq_true h; omega), Bool.true_or] at hres
    subst hres
    (refine rg ?_;(conv=>whnf))
    exact done0 rfl (.cons .tmp .nil) rfl rfl
  have hl : l.length ≤ 60 := by have := of_decide_eq_false h; omega
  rw [decide_eq_false (by omega), Bool.false_or] at hres
  (refine rg ?_;(conv=>whnf))
  refine G_countP l.length (fun j => Upto (fun _ x => !(great33X x)) l j) (fun j => [(0, .sl 6 stepSV l), (3, intSV j)]) (fun _ => []) [] (upto_zero _ _) ⟨⟨rfl, rfl, rfl, rfl, trivial⟩, trivial, rfl, rfl⟩ ?_
  intro j hj hI
  (refine rg ?_;(conv=>whnf))
  refine ⟨fun h => ?_, fun h => ?_⟩
  · have hlt : j < l.length := by have := of_decide_eq_true h; omega
    have hj0 : ((j : Nat) : Int).toNat < l.length := by simpa using hlt
    have hat := fun h => @any_at3 _ great33X l j hlt h
    have hnx := fun h => upto_next (p := fun _ x => !(great33X x)) hI hlt h
    obtain ⟨x, hx⟩ : ∃ x, l[((j : Nat) : Int).toNat]'hj0 = x := ⟨_, rfl⟩
    have hx' : l[j] = x := hx
    rw [hx'] at hat hnx
    (refine rg ?_;(conv=>whnf))
    refine ⟨rfl, by omega, hj0, ?_⟩
    rw [hx]
    (conv=>whnf)
    refine ⟨fun h => ?_, fun h => ?_⟩
    · rw [hat (by rw [great33X, decide_eq_true (by have := of_decide_eq_true h; omega), Bool.true_or])] at hres
      subst hres
      (refine rg ?_;(conv=>whnf);refine aT ?_;refine rg ?_;(conv=>whnf))
      exact done0 rfl (.cons .tmp .nil) rfl rfl
    have h1 := of_decide_eq_false h
    (refine rg ?_;(conv=>whnf))
    refine ⟨rfl, by omega, hj0, ?_⟩
    rw [hx]
    (conv=>whnf)
    refine ⟨fun h => ?_, fun h => ?_⟩
    · rw [hat (by rw [great33X, decide_eq_true (by have := of_decide_eq_true h; omega : 60 < x.up.length), Bool.or_true])] at hres
      subst hres
      (refine rg ?_;(conv=>whnf))
      exact done0 rfl (.cons .tmp .nil) rfl rfl
    have h2 := of_decide_eq_false h
    (refine rg ?_;(conv=>whnf))
    refine ⟨by unfold I64; omega, ?_⟩
    (conv=>whnf)
    exact G_nextP [] hI (by omega) (hnx (by rw [great33X, decide_eq_false (by omega), decide_eq_false (by omega)]; rfl)) ⟨⟨rfl, rfl, rfl, rfl, trivial⟩, trivial, rfl, rfl⟩
  · have hje : j = l.length := by have := of_decide_eq_false h; omega
    subst hje
    rw [any_upto3 hI (Nat.le_refl _)] at hres
    subst hres
    (refine rg ?_;(conv=>whnf))
    exact done0 rfl (.cons .tmp .nil) rfl rfl
theorem great33_facts {l : List StepM} (h : great33B l = false) : l.length ≤ 60 ∧ ∀ x ∈ l, x.bytes.length ≤ 2000 ∧ x.up.length ≤ 60 := by
  simp only [great33B, great33X, Bool.or_eq_false_iff, decide_eq_false_iff_not, List.any_eq_false, Bool.or_eq_true, decide_eq_true_eq] at h
  refine ⟨by omega, fun x hx => ?_⟩
  have := h.2 x hx
  omega
end Go.Sy.YtmelpejjondedaaGreat

namespace Go.Sy
open Go.ChangeShapes Go.WideShapes Go.ChangeAt Go.RowKit
section
variable {H : Type} (enc : TypeId × Value → H) (P : Program) (W : World)
def Op1 (t : TypeId) {α : Type} (e : α → SV) (p : α → Prop) : Prop :=
  ∀ n c y, DataW.trod enc P W 0 (fun _ => true) true n t [c] = some y → ∃ x, p x ∧ Rd κ0 W (e x) c ∧ c.oneCell' = true
def OpN (t : TypeId) {α : Type} (e : α → SV) (p : α → Prop) (sz : Nat) : Prop :=
  ∀ n cs y, DataW.trod enc P W 0 (fun _ => true) true n t cs = some y → ∃ x, p x ∧ cs.length = sz ∧ Ones cs ∧ RdL κ0 W (cellsOf (e x)) cs
variable {enc P W}
theorem op_int {t : TypeId} {k : IntKind} (ht : P.underlying t = some (.int k)) : Op1 enc P W t (fun z => .val (.int k z)) (fun z => (Lit.int k z).wf = true) := fun n c y h => by
  obtain ⟨z, e, _, hw⟩ := DataW.trod_int ht h
  have e : c = .int k z := by simpa using e
  subst e
  exact ⟨z, hw, by simp [Rd], rfl⟩
theorem op_str {t : TypeId} (ht : P.underlying t = some .string) : Op1 enc P W t strSV (fun s => s.size ≤ maxLen) := fun n c y h => by
  obtain ⟨z, e, _, hw⟩ := DataW.trod_string ht h
  have e : c = .string z := by simpa using e
  subst e
  exact ⟨z, hw, by simp [strSV, Rd], rfl⟩
theorem opN_int {t : TypeId} {k : IntKind} (ht : P.underlying t = some (.int k)) : OpN enc P W t (fun z => .val (.int k z)) (fun z => (Lit.int k z).wf = true) 1 := fun n cs y h => by
  obtain ⟨z, rfl, _, hw⟩ := DataW.trod_int ht h
  refine ⟨z, hw, rfl, fun c hc => by simp at hc; subst hc; rfl, ?_⟩
  simp [cellsOf, RdL, Rd]
theorem opN_bool {t : TypeId} (ht : P.underlying t = some .bool) : OpN enc P W t boolSV (fun _ => True) 1 := fun n cs y h => by
  obtain ⟨z, rfl, _⟩ := DataW.trod_bool ht h
  refine ⟨z, trivial, rfl, fun c hc => by simp at hc; subst hc; rfl, ?_⟩
  simp [boolSV, cellsOf, RdL, Rd]
theorem cells_get {base : Nat} {a : Addr} {n : Nat} {cs : List Value} (h : W.cells? base a n = some cs) : cs.length = n ∧ ∀ j (_ : j < n), W.cell? (a.add j) = cs[j]? := by
  unfold World.cells? at h
  split at h
  · refine ⟨by simpa using mapM_some_length h, fun j hj => ?_⟩
    exact mapM_some_get h j j (by simp [hj])
  · cases h
theorem op_slice {t et : TypeId} {α : Type} {e : α → SV} {p : α → Prop} {sz : Nat} (ht : P.underlying t = some (.slice et)) (hsz : P.cellsOf et = sz) (h0 : 0 < sz) (hb : ∀ x, (e x).boxed = true) (hd : ∀ x, (e x).data = true) (hO : OpN enc P W et e p sz) :
    Op1 enc P W t (fun l : List α => .sl sz e l) (fun l => (∀ x ∈ l, p x) ∧ l.length ≤ maxLen) := fun n c y h => by
  rcases DataW.trod_slice ht h with ⟨hcs, _⟩ | ⟨a, len, cap, elems, rest, m, rfl, hcs, _, _, hlc, hcm, hel, hget, _⟩
  · have hc : c = .slice none 0 0 := by simpa using hcs
    subst hc
    refine ⟨[], ⟨by simp, Nat.zero_le _⟩, ?_, rfl⟩
    simp only [Rd, RdD]
    exact .inl ⟨trivial, none, 0, rfl⟩
  · have hc : c = .slice (some a) len cap := by simpa using hcs
    subst hc
    rw [hsz] at hget
    have hall : ∀ i : Fin len, ∃ x, p x ∧ ∃ cs, W.cells? 0 (a.add (i * sz)) sz = some cs ∧ cs.length = sz ∧ Ones cs ∧ RdL κ0 W (cellsOf (e x)) cs := fun i => by
      have h1 := hget i.1 i.2
      rw [List.getElem?_eq_getElem (by omega)] at h1
      obtain ⟨cs, h2, h3⟩ := Option.bind_eq_some_iff.1 h1
      obtain ⟨x, h4, h5, h6, h7⟩ := hO _ _ _ h3
      exact ⟨x, h4, cs, h2, h5, h6, h7⟩
    let xs : Fin len → α := fun i => Classical.choose (hall i)
    have hxs : ∀ i, p (xs i) ∧ ∃ cs, W.cells? 0 (a.add (i.1 * sz)) sz = some cs ∧ cs.length = sz ∧ Ones cs ∧ RdL κ0 W (cellsOf (e (xs i))) cs := fun i => Classical.choose_spec (hall i)
    refine ⟨List.ofFn xs, ⟨fun x hx => ?_, by simp; omega⟩, ?_, rfl⟩
    · obtain ⟨i, rfl⟩ := List.mem_ofFn.1 hx
      exact (hxs i).1
    · simp only [Rd, RdD]
      by_cases hl : len = 0
      · subst hl
        exact .inl ⟨by simp, _, _, rfl⟩
      · have hcell : ∀ i : Fin len, ∀ j, j < sz → ∃ v, W.cell? ((a.add (i.1 * sz)).add j) = some v := fun i j hj => by
          obtain ⟨_, cs, h1, h2, _⟩ := hxs i
          have := (cells_get h1).2 j hj
          rw [List.getElem?_eq_getElem (by omega)] at this
          exact ⟨_, this⟩
        obtain ⟨b, off, spot⟩ := a
        have hspot : spot = none := by
          obtain ⟨v, hv⟩ := hcell ⟨0, by omega⟩ 0 h0
          simpa [Addr.add] using World.cell?_spot hv
        subst hspot
        have hadd : ∀ i j, ((⟨b, off, none⟩ : Addr).add i).add j = ⟨b, off + i + j, none⟩ := fun i j => by rw [Addr.add_lit, Addr.add_lit]
        refine .inr ⟨b, off, cap, by simp, by simpa using hlc, ?_, ?_, fun i hi => ?_⟩
        · rintro (⟨k, hk⟩ | hk)
          · cases hk
          · exact hk
        · obtain ⟨v, hv⟩ := hcell ⟨0, by omega⟩ 0 h0
          rw [hadd] at hv
          rcases Nat.lt_or_ge b W.heap.size with h | h
          · exact h
          · simp [World.cell?, Array.getElem?_eq_none h] at hv
        · simp only [List.length_ofFn] at hi
          obtain ⟨_, cs, h1, h2, h3, h4⟩ := hxs ⟨i, hi⟩
          obtain ⟨u, g1, g2⟩ := Rd.of_cells (hb _) h3 h4
          refine ⟨u, ?_, ?_, by rw [g2]; exact h3, fun j hj => ?_⟩
          · rw [List.getElem_ofFn]
            exact Rd.data _ _ (hd _) g1
          · have : u.cells.toList.length = sz := by rw [g2, h2]
            simpa using this
          · have := (cells_get h1).2 j hj
            rw [hadd] at this
            rw [this, ← g2]
            simp
end
end Go.Sy
