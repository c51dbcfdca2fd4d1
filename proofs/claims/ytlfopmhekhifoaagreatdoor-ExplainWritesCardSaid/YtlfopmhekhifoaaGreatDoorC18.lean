/-
  The iterator of strings.SplitSeq.
-/
import Derived.Test.YtlfopmhekhifoaaGreatDoorC17
import Derived.Test.YtlfopmhekhifoaaGreatDoorC11

namespace Go.Proofs
open Go.RowKit Go.Shelf Go.Sy Go.Sy.YtlfopmhekhifoaaGreatDoor
attribute [local go_sem] Oper.semAt_some

/-- The iterator's own variables: the separator, what is left, and 0. -/
structure SeqBox (W : World) (bp bs bv : Nat) (t : ByteArray) : Prop where
  p : W.cell? ⟨bp, 0, none⟩ = some (.string ⟨#[46]⟩)
  s : W.cell? ⟨bs, 0, none⟩ = some (.string t)
  v : W.cell? ⟨bv, 0, none⟩ = some (.int .i64 0)
  f : W.frozen? ⟨bs, 0, none⟩ = false

def SameAt (bp bs bv : Nat) (W W' : World) : Prop := W'.heap[bp]? = W.heap[bp]? ∧ W'.heap[bs]? = W.heap[bs]? ∧ W'.heap[bv]? = W.heap[bv]?

theorem SeqBox.keep {W W' : World} {bp bs bv : Nat} {t : ByteArray} (h : SeqBox W bp bs bv t) (k : SameAt bp bs bv W W') : SeqBox W' bp bs bv t :=
  ⟨(World.cell?_of_block k.1).trans h.p, (World.cell?_of_block k.2.1).trans h.s, (World.cell?_of_block k.2.2).trans h.v, by
    have : W'.frozen? ⟨bs, 0, none⟩ = W.frozen? ⟨bs, 0, none⟩ := by unfold World.frozen?; rw [k.2.1]
    rw [this]; exact h.f⟩

theorem idx_none : ∀ {l : List UInt8} {c : UInt8}, c ∉ l → Lib.indexByte l c = -1
  | [], _, _ => rfl
  | b :: l, c, h => by
    simp only [List.mem_cons, not_or] at h
    rw [Lib.indexByte, if_neg (by simpa using Ne.symm h.1), idx_none h.2]
    rfl

def leftAt (bs : Nat) (W : World) : Nat := match W.cell? ⟨bs, 0, none⟩ with | some (.string t) => t.size | _ => 0

set_option maxRecDepth 100000 in
set_option maxHeartbeats 4000000 in
theorem Tryz.split_stops (s : ByteArray) (hs : s.size < 100000) (n : Nat) (hn : 1 ≤ n) (bp bs bv : Nat) (hd : bp ≠ bs ∧ bv ≠ bs) (w : World) (hw : SeqBox w bp bs bv s) (hlt : bp < w.heap.size ∧ bs < w.heap.size ∧ bv < w.heap.size) :
    SeqStopsT Fence.wide n Tryz.prog 172 #[.pointer (some ⟨bp, 0, none⟩), .pointer (some ⟨bs, 0, none⟩), .pointer (some ⟨bv, 0, none⟩)] (fun x : ByteArray => #[.string x]) (fun b => b = bs) (SameAt bp bs bv)
      (fun xs => xs = splitT 46 s) (fun pre => pre <+: splitT 46 s) (splitT 46 s).length w := fun l J Jx W hW hJ hJx hY h0 => by
  refine callsIn_of_wp Tryz.func172 rfl trivial ?_ rfl
  simp only [Tryz.ntmps172, List.size_toArray, List.length_cons, List.length_nil, Nat.reduceAdd, Nat.reduceSub, Array.replicate_succ, Array.replicate_zero, List.push_toArray, List.append_toArray, List.nil_append, List.cons_append]
  have hW0 : SeqBox W bp bs bv s := hw.keep ⟨hW.block _ hlt.1, hW.block _ hlt.2.1, hW.block _ hlt.2.2⟩
  have c1 := hW0.p
  have c2 := hW0.s
  have c3 := hW0.v
  gi_wp2
  gi_loopw [] (fun wr => ∃ j : Nat, j ≤ cntT 46 s ∧ SeqBox wr bp bs bv (mkT (restL 46 s.data.toList j)) ∧ J ((splitT 46 s).take j) wr) (fun wr => leftAt bs wr)
  case atStart =>
    exact ⟨0, Nat.zero_le _, by rw [restL, mkT_self]; exact hW0, h0⟩
  case round =>
    obtain ⟨j, hj, hb, hJj⟩ := hrel
    have d1 := hb.p
    have d2 := hb.s
    have d3 := hb.v
    have hlr := restL_le 46 s.data.toList j
    have hsz : s.data.toList.length = s.size := rfl
    have hwl := splitT_length 46 s
    have hsm := mkT_size (restL 46 s.data.toList j)
    by_cases hlt : j < cntT 46 s
    · have hi := index_there (rest_there hlt)
      obtain ⟨m, hm'⟩ : ∃ m : Nat, Lib.indexByte (restL 46 s.data.toList j) 46 = m := ⟨(Lib.indexByte (restL 46 s.data.toList j) 46).toNat, by omega⟩
      have q := Tryz.strings_Index_one (mkT (restL 46 s.data.toList j)) 46 wr
      rw [mkT_list, hm'] at q
      rw [hm', Int.toNat_natCast] at hi
      have hpm := piece_eq (c := 46) (s := s) (j := j) hm'
      have hqm := rest_eq (c := 46) (s := s) (j := j) hm'
      have hget : (splitT 46 s)[j]? = some (mkT (pieceL 46 s.data.toList j)) := by
        have hlt' : j < s.data.toList.count 46 := hlt
        rw [splitT, List.getElem?_append_left (by rw [List.length_map, List.length_range]; exact hlt'), List.getElem?_map, List.getElem?_range hlt']
        rfl
      have hx : (mkT (restL 46 s.data.toList j)).extract 0 m = mkT (pieceL 46 s.data.toList j) := by
        rw [mkT_extract, hpm]; simp
      have hx2 : (mkT (restL 46 s.data.toList j)).extract (m + 1) (mkT (restL 46 s.data.toList j)).size = mkT (restL 46 s.data.toList (j + 1)) := by
        rw [mkT_extract, hqm, hsm, List.take_length]
      have htk : (splitT 46 s).take j ++ [mkT ((restL 46 s.data.toList j).take m)] = (splitT 46 s).take (j + 1) := by
        rw [List.take_add_one, hget, hpm]; rfl
      obtain ⟨fn, tmps, assign, body, hy, hR⟩ := hY _ (mkT ((restL 46 s.data.toList j).take m)) wr hJj (by rw [List.length_take]; omega)
      rw [htk] at hR
      gi_wp2
      refine ⟨trivial, ?_⟩
      refine (callsIn_wide.2 q).mono ?_
      rintro e w' ⟨rfl, rfl⟩
      gi_wp2
      refine hR.mono ?_
      rintro e W' (⟨rfl, hJ', hk⟩ | ⟨rfl, hJx'⟩)
      · have hb' := hb.keep hk
        have d1 := hb'.p
        have d2 := hb'.s
        have d3 := hb'.v
        have d4 := hb'.f
        have hsm1 : (mkT (restL 46 s.data.toList (j + 1))).size + (m + 1) = (mkT (restL 46 s.data.toList j)).size := by
          rw [hsm, mkT_size, hqm, List.length_drop]; omega
        rw [hsm] at hx2
        gi_wp2
        rw [← hqm]
        have e2 : (W'.setCell ⟨bs, 0, none⟩ (.string (mkT (restL 46 s.data.toList (j + 1))))).cell? ⟨bs, 0, none⟩ = some (.string (mkT (restL 46 s.data.toList (j + 1)))) := World.cell?_setCell_same' _ _ _ (by rw [d2]; rfl)
        refine ⟨⟨j + 1, hlt, ⟨?_, e2, ?_, ?_⟩, hJ _ _ _ (some bs) hJ' (grownBy_setCell' _ _ _) (fun r e => by cases e; rfl)⟩, ?_⟩
        · rw [World.cell?_setCell_other _ _ _ _ (by intro e; cases e; exact hd.1 rfl)]; exact d1
        · rw [World.cell?_setCell_other _ _ _ _ (by intro e; cases e; exact hd.2 rfl)]; exact d3
        · rw [World.frozen?_setCell]; exact d4
        · unfold leftAt
          rw [e2, hb.s]
          simp only
          omega
      · gi_wp2
        refine bodyPost_ret (results_none rfl _ _ _) rfl ?_
        exact ⟨⟨_, rfl⟩, .inr ⟨_, List.take_prefix _ _, hJx'⟩⟩
    · have hje : j = cntT 46 s := by omega
      have hno : (46 : UInt8) ∉ restL 46 s.data.toList j := by
        have := count_rest 46 s.data.toList j hj
        have e : cntT 46 s = s.data.toList.count 46 := rfl
        exact List.count_eq_zero.1 (by omega)
      have q := Tryz.strings_Index_one (mkT (restL 46 s.data.toList j)) 46 wr
      rw [mkT_list, idx_none hno] at q
      have hget : (splitT 46 s)[j]? = some (mkT (restL 46 s.data.toList j)) := by
        rw [hje, splitT, List.getElem?_append_right (by simp [cntT])]
        simp [cntT]
      have htk : (splitT 46 s).take j ++ [mkT (restL 46 s.data.toList j)] = splitT 46 s := by
        have : (splitT 46 s).take (j + 1) = splitT 46 s := List.take_of_length_le (by omega)
        rw [List.take_add_one, hget] at this
        exact this
      have hlen : ((splitT 46 s).take j).length < (splitT 46 s).length := by rw [List.length_take]; omega
      clear hje
      obtain ⟨fn, tmps, assign, body, hy, hR⟩ := hY _ (mkT (restL 46 s.data.toList j)) wr hJj hlen
      rw [htk] at hR
      gi_wp2
      refine ⟨trivial, ?_⟩
      refine (callsIn_wide.2 q).mono ?_
      rintro e w' ⟨rfl, rfl⟩
      gi_wp2
      refine hR.mono ?_
      rintro e W' (⟨rfl, hJ', hk⟩ | ⟨rfl, hJx'⟩)
      · gi_wp2
        go_end0
        exact ⟨⟨_, rfl⟩, .inl ⟨_, rfl, hJ'⟩⟩
      · gi_wp2
        go_end0
        exact ⟨⟨_, rfl⟩, .inr ⟨_, List.prefix_rfl, hJx'⟩⟩

end Go.Proofs
