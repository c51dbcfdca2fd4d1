/-
  Contracts: vectors (package vector, palingref24), 2: sorting. Contracts: vectors (package vector, palingref24), 3: ranks. The plain law of ranks: the program's are the document's. Contracts: vectors, 4: costs, great nets, lists of numbers, the least vector. What nets that may be are; a link's other end; rows that are made with nil in them. The document's texts of addresses, domains, ports. The machine's model: tables, queues, what goes out, steps. The machine's model, 2: packets, what goes through a mesh, routes, steps of a domain, the machine. The symbolic layer, 30: a new row that is seen as data at once. The symbolic layer, 20: a constant string's bytes. The symbolic layer, 21: a law's contract, as the row asks for it. The symbolic layer, 31: package variables that nobody writes. The symbolic layer, 32: a text is appended to bytes. The symbolic layer, 33: an array that is held as a value is asked for a member. Contracts: slices that are cloned; a net's copy. Frames taken, tags off: by the program and by the document. Frames taken by the document; tags off; groups; VLANs of what comes in. Tags off and on; frames put, as data. What comes in at a port. What comes in at a port, by the document. The document's members. What goes out at a port. What goes out at a port, by the document; links. Plain facts: packets, frames within packets.
-/
import Derived.Test.YtmelpejjondedaaGreatB5
import Derived.Test.YtmelpejjondedaaGreatB4
import Derived.Test.YtmelpejjondedaaGreatB3
import Derived.ProofKit
import Derived.OpenShut

namespace Go.Sy.YtmelpejjondedaaGreat
open Go.Proofs
attribute [local irreducible] Go.Sy.G Go.Sy.DR
set_option maxRecDepth 20000
set_option maxHeartbeats 4000000
def insR (lt : Int → Int → Bool) (x : Int) : List Int → List Int
  | [] => [x]
  | y :: r => if lt x y then y :: insR lt x r else x :: y :: r
def isortR (lt : Int → Int → Bool) (l : List Int) : List Int := l.foldl (fun r x => insR lt x r) []
def isort (lt : Int → Int → Bool) (l : List Int) : List Int := (isortR lt l).reverse
theorem insR_perm (lt : Int → Int → Bool) (x : Int) : ∀ r, (insR lt x r).Perm (x :: r)
  | [] => .refl _
  | y :: r => by
    rw [insR]
    split
    · exact ((insR_perm lt x r).cons y).trans (.swap x y r)
    · exact .refl _
theorem foldl_insR_perm (lt : Int → Int → Bool) : ∀ (l r : List Int), (l.foldl (fun r x => insR lt x r) r).Perm (l ++ r)
  | [], r => .refl _
  | x :: l, r => by
    rw [List.foldl_cons]
    refine (foldl_insR_perm lt l _).trans ?_
    refine ((insR_perm lt x r).append_left l).trans ?_
    simp
theorem isortR_perm (lt : Int → Int → Bool) (l : List Int) : (isortR lt l).Perm l := by
  have := foldl_insR_perm lt l []
  simpa [isortR] using this
theorem isort_perm (lt : Int → Int → Bool) (l : List Int) : (isort lt l).Perm l := (List.reverse_perm _).trans (isortR_perm lt l)
theorem isortR_take (lt : Int → Int → Bool) (l : List Int) (i : Nat) (h : i < l.length) : isortR lt (l.take (i + 1)) = insR lt l[i] (isortR lt (l.take i)) := by
  rw [List.take_succ_eq_append_getElem h, isortR, List.foldl_append]
  rfl
mutual
theorem inn_nil {K : List Nat} : ∀ x : SV, x.inn [] = true → x.inn K = true
  | .ptr _ _, h => by simp [SV.inn, memN] at h
  | .rpt _ _ _ _, h => by simp [SV.inn, memN] at h
  | .osl _, h => by simp [SV.inn, memN] at h
  | .agg l, h => by simp only [SV.inn] at h ⊢; exact innL_nil l h
  | .tup l, h => by simp only [SV.inn] at h ⊢; exact innL_nil l h
  | .ifc _ x, h => by simp only [SV.inn] at h ⊢; exact inn_nil x h
  | .clo _ f l, h => by simp only [SV.inn, Bool.and_eq_true] at h ⊢; exact ⟨innL_nil f h.1, innL_nil l h.2⟩
  | .top, _ => rfl
  | .val _, _ => rfl
  | .sl _ _ _, _ => rfl
  | .ref _ _ _, _ => rfl
theorem innL_nil {K : List Nat} : ∀ l : List SV, innL [] l = true → innL K l = true
  | [], _ => rfl
  | x :: l, h => by simp only [innL, Bool.and_eq_true] at h ⊢; exact ⟨inn_nil x h.1, innL_nil l h.2⟩
end
theorem insertionSortS (l : List Int) (c : Int → Int → Int) (Q : Int → Prop) (f : FuncId) (first cap : List SV) (hc : (SV.clo (.func f) first cap).inn [] = true) (hf : ∀ a b, Q a → Q b → FunS Tryz.prog f (first ++ [intSV a, intSV b] ++ cap) (intSV (c a b))) (hQ : ∀ a ∈ l, Q a) (hl : Short l) :
    Sy.Spec Tryz.prog 327 [.osl 0, intSV 0, intSV l.length, .clo (.func f) first cap] [(0, .row 1 intSV l)] (.tup []) [(0, .row 1 intSV (isort (fun a b => decide (c a b < 0)) l))] := contract Γ hm 100 F327 Tryz.ntmps327 rfl fun F hF => by
  unfold Short at hl
  have hin : ∀ x y : Int, innL [] (first ++ [intSV x, intSV y] ++ cap) = true := fun x y => clo_inn hc rfl
  have hc' : (SV.clo (.func f) first cap).inn [0] = true := inn_nil _ hc
  generalize hlt : (fun a b => decide (c a b < 0)) = lt
  (conv=>whnf)
  (repeat' (refine ⟨by (unfold I64; omega), ?_⟩; ((conv=>whnf))))
  refine G_countP l.length (fun _ => True) (fun j => [(0, .osl 0), (1, intSV 0), (2, intSV l.length), (3, .clo (.func f) first cap), (8, intSV ((j : Int) + 1))]) (fun j => [(0, .row 1 intSV ((isortR lt (l.take (j + 1))).reverse ++ l.drop (j + 1)))]) [] trivial ⟨⟨rfl, rfl, rfl, rfl, rfl, rfl, ren_id _, hc', rfl, rfl, trivial⟩, ⟨.inl (congrArg (Ob.row 1 intSV) ?_), rfl, trivial⟩, rfl, rfl⟩ ?_
  · cases l with
    | nil => rfl
    | cons a l => simp [isortR, insR]
  intro j hj _
  (refine rg ?_;(conv=>whnf))
  refine ⟨fun h => ?_, fun h => ?_⟩
  · have hjl : j + 1 < l.length := by have := of_decide_eq_true h; omega
    have hdrop : l.drop (j + 1) = l[j + 1] :: l.drop (j + 1 + 1) := List.drop_eq_getElem_cons hjl
    have htake := isortR_take lt l (j + 1) hjl
    have hr : (isortR lt (l.take (j + 1))).length = j + 1 := by rw [(isortR_perm lt _).length_eq]; simp; omega
    have hQx : Q l[j + 1] := hQ _ (List.getElem_mem hjl)
    have hQr : ∀ z ∈ isortR lt (l.take (j + 1)), Q z := fun z hz => hQ z (List.mem_of_mem_take ((isortR_perm lt _).mem_iff.1 hz))
    rw [hdrop]
    generalize l[j + 1] = x at htake hQx
    generalize isortR lt (l.take (j + 1)) = r at htake hr hQr
    generalize hR : l.drop (j + 1 + 1) = R at *
    (refine rg ?_;(conv=>whnf))
    refine G_loop (α := {p : List Int × List Int // insR lt x r = p.2.reverse ++ insR lt x p.1 ∧ p.1.length + p.2.length = j + 1 ∧ ∀ z ∈ p.1, Q z}) (fun p => [(0, .osl 0), (1, intSV 0), (2, intSV l.length), (3, .clo (.func f) first cap), (8, intSV ((j : Int) + 1)), (9, intSV p.1.1.length)]) (fun p => [(0, .row 1 intSV (p.1.1.reverse ++ x :: (p.1.2 ++ R)))]) (fun p => p.1.1.length) ⟨(r, []), by simp, by simpa using hr, hQr⟩ []
      ⟨⟨rfl, rfl, rfl, rfl, rfl, rfl, ren_id _, hc', rfl, rfl, congrArg intSV (by rw [hr]; omega), rfl, trivial⟩, ⟨.inl rfl, rfl, trivial⟩, rfl, rfl⟩ ?_
    rintro ⟨⟨A, B⟩, hp1, hp2, hp3⟩
    simp only at hp1 hp2 hp3
    dsimp only
    cases A with
    | nil =>
      simp only [insR] at hp1
      (refine rg ?_;(conv=>whnf);refine aF ?_;refine rd (by kernel_rfl) ?_;(conv=>whnf))
      refine ⟨(by kernel_rfl), ?_⟩
      ((conv=>whnf);refine aF ?_;refine rg ?_;(conv=>whnf))
      refine ⟨by unfold I64; omega, ?_⟩
      (conv=>whnf)
      refine G_nextP [] trivial (by omega) trivial ⟨⟨rfl, rfl, rfl, rfl, rfl, rfl, ren_id _, hc', congrArg intSV (by omega), rfl, trivial⟩, ⟨.inl (congrArg (Ob.row 1 intSV) ?_), rfl, trivial⟩, rfl, rfl⟩
      show (isortR lt (l.take (j + 1 + 1))).reverse ++ l.drop (j + 1 + 1) = [].reverse ++ x :: (B ++ R)
      rw [htake, hp1, hR]
      simp
    | cons y A =>
      have hQy := hp3 y (by simp)
      (refine rg ?_;(conv=>whnf))
      refine ⟨fun _ => ?_, fun h => absurd (of_decide_eq_false h) (by simp)⟩
      (refine rd (by kernel_rfl) ?_;(conv=>whnf))
      have e1 : ((y :: A).reverse ++ x :: (B ++ R))[(((y :: A).length : Nat) : Int).toNat]'(by simp) = x := by simp
      have e2 : ((y :: A).reverse ++ x :: (B ++ R))[((((y :: A).length : Nat) : Int) - 1).toNat]'(by simp) = y := by simp
      refine ⟨by omega, by simp, ?_⟩
      (conv=>whnf)
      refine ⟨rfl, by simp, ?_⟩
      rw [e1]
      (conv=>whnf)
      refine ⟨by unfold I64; simp at hp2; simp; omega, ?_⟩
      (conv=>whnf)
      refine ⟨by simp, by simp, ?_⟩
      (conv=>whnf)
      refine ⟨rfl, by simp, ?_⟩
      rw [e2]
      (conv=>whnf)
      refine callDC (hf x y hQx hQy) rfl rfl rfl (by simp only [hin]; rfl) (by kernel_rfl) rfl ?_
      (refine rd (by kernel_rfl) ?_;(conv=>whnf))
      refine ⟨(by kernel_rfl), ?_⟩
      (conv=>whnf)
      refine ⟨fun h2 => ?_, fun h2 => ?_⟩
      · (refine rg ?_;(conv=>whnf))
        refine ⟨by unfold I64; simp at hp2; simp; omega, ?_⟩
        (conv=>whnf)
        refine ⟨by unfold I64; simp at hp2; simp; omega, ?_⟩
        (conv=>whnf)
        refine ⟨by simp, by simp, ?_⟩
        (conv=>whnf)
        refine ⟨rfl, by simp, ?_⟩
        rw [e2]
        (conv=>whnf)
        refine ⟨by omega, by simp, ?_⟩
        (conv=>whnf)
        refine ⟨rfl, by simp, ?_⟩
        rw [e1]
        (conv=>whnf)
        refine ⟨by omega, by simp, ?_⟩
        (conv=>whnf)
        refine ⟨rfl, by simp, y, rfl, rfl, ?_⟩
        (conv=>whnf)
        refine ⟨by simp, by simp, ?_⟩
        (conv=>whnf)
        refine ⟨rfl, by simp, x, rfl, rfl, ?_⟩
        (conv=>whnf)
        refine ⟨(by kernel_rfl), ?_⟩
        (conv=>whnf)
        refine ⟨by unfold I64; simp at hp2; simp; omega, ?_⟩
        (conv=>whnf)
        have hxy : lt x y = true := by rw [← hlt]; exact h2
        refine G_inv (α := {p : List Int × List Int // insR lt x r = p.2.reverse ++ insR lt x p.1 ∧ p.1.length + p.2.length = j + 1 ∧ ∀ z ∈ p.1, Q z}) (L := fun p => [(0, .osl 0), (1, intSV 0), (2, intSV l.length), (3, .clo (.func f) first cap), (8, intSV ((j : Int) + 1)), (9, intSV p.1.1.length)]) (O := fun p => [(0, .row 1 intSV (p.1.1.reverse ++ x :: (p.1.2 ++ R)))]) (μ := fun p => p.1.1.length) (x := ⟨(y :: A, B), hp1, hp2, hp3⟩)
          ⟨(A, y :: B), by simp only [hp1, insR, hxy, if_true]; simp, by simp at hp2 ⊢; omega, fun z hz => hp3 z (by simp [hz])⟩ [] (by simp)
          ⟨⟨rfl, rfl, rfl, rfl, rfl, rfl, ren_id _, hc', rfl, rfl, congrArg intSV (by simp), rfl, trivial⟩, ⟨.inl (congrArg (Ob.row 1 intSV) ?_), rfl, trivial⟩, rfl, rfl⟩
        simp
      · (refine rg ?_;(conv=>whnf))
        have hxy : lt x y = false := by rw [← hlt]; exact h2
        refine ⟨by unfold I64; omega, ?_⟩
        (conv=>whnf)
        refine G_nextP [] trivial (by omega) trivial ⟨⟨rfl, rfl, rfl, rfl, rfl, rfl, ren_id _, hc', congrArg intSV (by omega), rfl, trivial⟩, ⟨.inl (congrArg (Ob.row 1 intSV) ?_), rfl, trivial⟩, rfl, rfl⟩
        show (isortR lt (l.take (j + 1 + 1))).reverse ++ l.drop (j + 1 + 1) = (y :: A).reverse ++ x :: (B ++ R)
        rw [htake, hp1, hR, insR, hxy]
        simp
  · have h := of_decide_eq_false h
    have e : (isortR lt (l.take (j + 1))).reverse ++ l.drop (j + 1) = isort lt l := by
      rw [List.take_of_length_le (by omega), List.drop_of_length_le (by omega), List.append_nil]
      rfl
    rw [e]
    (refine rg ?_;(conv=>whnf))
    exact done_end rfl .nil [] [(0, .row 1 intSV (isort lt l))] (fun _ h => h) rfl rfl ⟨trivial, ⟨.inl rfl, rfl, trivial⟩, rfl, rfl⟩
theorem stableS (l : List Int) (c : Int → Int → Int) (Q : Int → Prop) (f : FuncId) (first cap : List SV) (hc : (SV.clo (.func f) first cap).inn [] = true) (hf : ∀ a b, Q a → Q b → FunS Tryz.prog f (first ++ [intSV a, intSV b] ++ cap) (intSV (c a b))) (hQ : ∀ a ∈ l, Q a) (hl : l.length < 20) :
    Sy.Spec Tryz.prog 282 [.osl 0, intSV l.length, .clo (.func f) first cap] [(0, .row 1 intSV l)] (.tup []) [(0, .row 1 intSV (isort (fun a b => decide (c a b < 0)) l))] := contract Γ hm 100 F282 Tryz.ntmps282 rfl fun F hF => by
  have hc' : (SV.clo (.func f) first cap).inn [0] = true := inn_nil _ hc
  have hins := insertionSortS l c Q f first cap hc hf hQ (by unfold Short; omega)
  generalize isort (fun a b => decide (c a b < 0)) l = l' at hins
  (conv=>whnf)
  refine G_count 0 (fun j => [(0, .osl 0), (1, intSV l.length), (2, .clo (.func f) first cap), (6, intSV 20), (7, intSV 0), (8, intSV 20)]) (fun _ => [(0, .row 1 intSV l)]) [] ⟨⟨rfl, rfl, rfl, rfl, ren_id _, hc', rfl, rfl, rfl, rfl, rfl, rfl, trivial⟩, ⟨.inl rfl, rfl, trivial⟩, rfl, rfl⟩ ?_
  intro j hj
  (refine rg ?_;(conv=>whnf))
  refine ⟨fun h => absurd (of_decide_eq_true h) (by omega), fun _ => ?_⟩
  (refine rg ?_;(conv=>whnf))
  refine stepOp (good_call [] rfl F327 hins (renL_id _) ⟨rfl, trivial⟩ (by
    have h0 : innL [0] [.osl 0, intSV 0, intSV l.length, .clo (.func f) first cap] = true := by simp only [innL, hc']; rfl
    simp only [callOK, Obs.keys, List.map_cons, List.map_nil, h0]; rfl) ⟨.inl rfl, trivial⟩) rfl rfl ?_
  (refine rg ?_;(conv=>whnf))
  refine G_count 0 (fun j => [(1, intSV l.length), (6, intSV 20)]) (fun _ => [(0, .row 1 intSV l')]) [] ⟨⟨rfl, rfl, rfl, rfl, trivial⟩, ⟨.inl rfl, rfl, trivial⟩, rfl, rfl⟩ ?_
  clear hj
  intro j hj
  (refine rg ?_;(conv=>whnf))
  refine ⟨fun h => absurd (of_decide_eq_true h) (by omega), fun _ => ?_⟩
  (refine rg ?_;(conv=>whnf))
  exact done_end rfl .nil [] [(0, .row 1 intSV l')] (fun _ h => h) rfl rfl ⟨trivial, ⟨.inl rfl, rfl, trivial⟩, rfl, rfl⟩
theorem sortStableS (l : List Int) (c : Int → Int → Int) (Q : Int → Prop) (f : FuncId) (first cap : List SV) (hc : (SV.clo (.func f) first cap).inn [] = true) (hf : ∀ a b, Q a → Q b → FunS Tryz.prog f (first ++ [intSV a, intSV b] ++ cap) (intSV (c a b))) (hQ : ∀ a ∈ l, Q a) (hl : l.length < 20) :
    Sy.Spec Tryz.prog 228 [.osl 0, .clo (.func f) first cap] [(0, .row 1 intSV l)] (.tup []) [(0, .row 1 intSV (isort (fun a b => decide (c a b < 0)) l))] := contract Γ hm 100 F228 Tryz.ntmps228 rfl fun F hF => by
  have hc' : (SV.clo (.func f) first cap).inn [0] = true := inn_nil _ hc
  have hst := stableS l c Q f first cap hc hf hQ hl
  generalize isort (fun a b => decide (c a b < 0)) l = l' at hst
  (conv=>whnf)
  refine stepOp (good_call [] rfl F282 hst (renL_id _) ⟨rfl, trivial⟩ (by
    have h0 : innL [0] [.osl 0, intSV l.length, .clo (.func f) first cap] = true := by simp only [innL, hc']; rfl
    simp only [callOK, Obs.keys, List.map_cons, List.map_nil, h0]; rfl) ⟨.inl rfl, trivial⟩) rfl rfl ?_
  (refine rg ?_;(conv=>whnf))
  exact done_end rfl .nil [] [(0, .row 1 intSV l')] (fun _ h => h) rfl rfl ⟨trivial, ⟨.inl rfl, rfl, trivial⟩, rfl, rfl⟩
end Go.Sy.YtmelpejjondedaaGreat

namespace Go.Sy.YtmelpejjondedaaGreat
open Go.Proofs
attribute [local irreducible] Go.Sy.G Go.Sy.DR
set_option maxRecDepth 20000
set_option maxHeartbeats 4000000
def keyC (n : Net) (a b : Int) : Int := orI [cmpI (nth n.devices a).prio (nth n.devices b).prio, cmpI (nth n.devices a).mac (nth n.devices b).mac]
theorem ranks1 (n : Net) (a b : Int) (ha : 0 ≤ a ∧ a < n.devices.length) (hb : 0 ≤ b ∧ b < n.devices.length) : Sy.Spec Tryz.prog 229 [intSV a, intSV b, .ref 8 (netSV n) 0] [] (intSV (keyC n a b)) [] := contract Γ hm 100 F229 Tryz.ntmps229 rfl fun F hF => by
  have e1 : keyC n a b = orI [cmpI (n.devices[a.toNat]'(by omega)).prio (n.devices[b.toNat]'(by omega)).prio, cmpI (n.devices[a.toNat]'(by omega)).mac (n.devices[b.toNat]'(by omega)).mac] := by
    rw [keyC, nth_eq (by omega), nth_eq (by omega)]
  rw [e1]
  (conv=>whnf)
  (repeat' (first | (refine done0 rfl (.cons .tmp .nil) ?_ rfl) | (refine ⟨(by kernel_rfl), ?_⟩; ((conv=>whnf))) | (refine ⟨by (omega), by (omega), ?_⟩; ((conv=>whnf))) | (refine callD0 (compareIntS (n.devices[a.toNat]'(by omega)).prio (n.devices[b.toNat]'(by omega)).prio) F231 rfl rfl rfl (by kernel_rfl) rfl ?_; ((refine rd (by kernel_rfl) ?_);(conv=>whnf))) | (refine callD0 (compareU64S (n.devices[a.toNat]'(by omega)).mac (n.devices[b.toNat]'(by omega)).mac) F232 rfl rfl rfl (by kernel_rfl) rfl ?_; ((refine rd (by kernel_rfl) ?_);(conv=>whnf))) | (refine callDK [28] (orS [cmpI (n.devices[a.toNat]'(by omega)).prio (n.devices[b.toNat]'(by omega)).prio, cmpI (n.devices[a.toNat]'(by omega)).mac (n.devices[b.toNat]'(by omega)).mac] (by simp [Short])) F230 rfl (.cons (.lit rfl rfl rfl) .nil) rfl (by kernel_rfl) rfl ?_; ((refine rd (by kernel_rfl) ?_);(conv=>whnf)))))
  all_goals rfl
def ordL (m : Nat) : List Int := (List.range m).map fun (i : Nat) => (i : Int)
theorem ordL_succ (m : Nat) : ordL (m + 1) = ordL m ++ [(m : Int)] := by simp [ordL, List.range_succ]
theorem ordL_length (m : Nat) : (ordL m).length = m := by simp [ordL]
def rankFill (ord : List Int) : Nat → List Int
  | 0 => List.replicate ord.length 0
  | j + 1 => (rankFill ord j).set (nth ord j).toNat j
theorem rankFill_length (ord : List Int) : ∀ j, (rankFill ord j).length = ord.length
  | 0 => by simp [rankFill]
  | j + 1 => by simp [rankFill, rankFill_length ord j]
def sortedL (n : Net) : List Int := isort (fun a b => decide (keyC n a b < 0)) (ordL n.devices.length)
def ranksL (n : Net) : List Int := rankFill (sortedL n) n.devices.length
theorem ranksS (n : Net) (hn : n.Fin) : Sy.Spec Tryz.prog 156 [netSV n] [] (.sl 1 intSV (if netRightB n then ranksL n else [])) [] := contract Γ hm 100 F156 Tryz.ntmps156 rfl fun F hF => by
  have hl := hn.devices
  unfold Short at hl
  (conv=>whnf)
  refine call0 (namesRightS n hn) F67 rfl rfl rfl rfl rfl ?_
  (refine rg ?_;(conv=>whnf))
  refine ⟨fun h => ?_, fun h => ?_⟩
  · have h : netRightB n = false := by simpa using h
    (refine rg ?_;(conv=>whnf))
    refine G_nilsl 2 1 intSV rfl ?_
    exact done0 rfl (.cons .tmp .nil) (by rw [h]; rfl) rfl
  have h : netRightB n = true := by simpa using h
  have h8 : n.devices.length ≤ 8 := by
    simp only [netRightB, fewB, Bool.and_eq_true, decide_eq_true_eq] at h
    exact h.1.1.1.1.1.1.1.1.1.1.1.1.1.1.1
  rw [h, if_pos rfl, ranksL]
  (refine rg ?_;(conv=>whnf))
  refine G_box 1 8 (netSV n) rfl rfl rfl ?_
  refine G_adopt 3 1000 1 intSV rfl rfl ?_
  refine G_count n.devices.length (fun j => [(1, .ref 8 (netSV n) 0), (3, .osl 1000), (13, intSV n.devices.length), (14, intSV j)]) (fun j => [(1000, .row 1 intSV (ordL j))]) [] ⟨⟨rfl, rfl, rfl, rfl, rfl, rfl, rfl, rfl, trivial⟩, ⟨.inl rfl, rfl, trivial⟩, rfl, rfl⟩ ?_
  intro j hj
  (refine rg ?_;(conv=>whnf))
  refine ⟨fun h2 => ?_, fun h2 => ?_⟩
  · have hlt : j < n.devices.length := by simpa using h2
    (refine rg ?_;(conv=>whnf))
    refine stepOp (good_appendT Γ.toTy 20 rfl rfl rfl rfl rfl (.row rfl) (.lit (l := [(j : Int)]) rfl rfl) (by simp) (by simp [ordL_length]; omega) (by simp [ordL_length]; omega)) rfl rfl ?_
    (refine rg ?_;(conv=>whnf))
    refine ⟨by unfold I64; omega, ?_⟩
    (conv=>whnf)
    exact G_next [(1000, 20)] hlt ⟨⟨rfl, rfl, rfl, rfl, rfl, rfl, rfl, rfl, trivial⟩, ⟨.inl (congrArg (Ob.row 1 intSV) (ordL_succ j)), rfl, trivial⟩, rfl, rfl⟩
  have hjl : j = n.devices.length := by have : ¬ j < n.devices.length := by simpa using h2
                                        omega
  subst hjl
  (refine rg ?_;(conv=>whnf))
  have hsort := sortStableS (ordL n.devices.length) (keyC n) (fun a => 0 ≤ a ∧ a < n.devices.length) 229 [] [.ref 8 (netSV n) 0] rfl (fun a b ha hb => ⟨⟨_, _, F229⟩, ranks1 n a b ha hb⟩) (fun a ha => by
    obtain ⟨i, hi, rfl⟩ := List.mem_map.1 ha
    have := List.mem_range.1 hi
    omega) (by rw [ordL_length]; omega)
  have hslen : (sortedL n).length = n.devices.length := by rw [sortedL, (isort_perm _ _).length_eq, ordL_length]
  have hsm : ∀ a ∈ sortedL n, 0 ≤ a ∧ a < n.devices.length := fun a ha => by
    have := (isort_perm _ _).mem_iff.1 ha
    obtain ⟨i, hi, rfl⟩ := List.mem_map.1 this
    have := List.mem_range.1 hi
    omega
  change Sy.Spec _ _ _ _ _ [(0, .row 1 intSV (sortedL n))] at hsort
  generalize sortedL n = sl at hsort hslen hsm
  refine stepOp (good_call [(0, 1000)] rfl F228 hsort rfl ⟨rfl, trivial⟩ rfl ⟨.inl rfl, trivial⟩) rfl rfl ?_
  (refine rg ?_;(conv=>whnf))
  refine stepOp (good_makeSlice Γ.toTy (d := 27) (n := sl.length) intSV 0 rfl rfl rfl rfl rfl rfl rfl rfl (by omega) (by omega) rfl rfl rfl) rfl rfl ?_
  (refine rg ?_;(conv=>whnf))
  refine G_count sl.length (fun j => [(5, .osl 27), (28, .osl 1000), (29, intSV sl.length), (30, intSV j)]) (fun j => [(1000, .row 1 intSV sl), (27, .row 1 intSV (rankFill sl j))]) [] ⟨⟨rfl, rfl, rfl, rfl, rfl, rfl, rfl, rfl, trivial⟩, ⟨.inl rfl, rfl, .inl rfl, rfl, trivial⟩, rfl, rfl⟩ ?_
  clear hj h2
  intro j hj
  (refine rg ?_;(conv=>whnf))
  refine ⟨fun h2 => ?_, fun h2 => ?_⟩
  · have hlt : j < sl.length := by simpa using h2
    have hmj := hsm _ (List.getElem_mem hlt)
    have hnth : nth sl j = sl[j] := nth_eq (by simpa using hlt)
    have hfl := rankFill_length sl j
    (refine rg ?_;(conv=>whnf))
    refine ⟨by omega, by omega, ?_⟩
    (conv=>whnf)
    refine ⟨rfl, by omega, ?_⟩
    (conv=>whnf)
    refine ⟨hmj.1, by rw [hfl]; exact (by omega : sl[j].toNat < sl.length), ?_⟩
    (conv=>whnf)
    refine ⟨rfl, by rw [hfl]; exact (by omega : sl[j].toNat < sl.length), (j : Int), rfl, rfl, ?_⟩
    (conv=>whnf)
    refine ⟨by unfold I64; omega, ?_⟩
    (conv=>whnf)
    exact G_next [] hlt ⟨⟨rfl, rfl, rfl, rfl, rfl, rfl, rfl, rfl, trivial⟩, ⟨.inl rfl, rfl, .inl (congrArg (Ob.row 1 intSV) (by rw [rankFill, hnth]; rfl)), rfl, trivial⟩, rfl, rfl⟩
  have hjl : j = n.devices.length := by
    have : ¬ j < sl.length := by simpa using h2
    omega
  subst hjl
  (refine rg ?_;(conv=>whnf))
  refine G_data 27 rfl ?_
  exact done0 rfl (.cons .tmp .nil) rfl rfl
def aheadB (n : Net) (a b : Int) : Bool :=
  if (nth n.devices a).prio ≠ (nth n.devices b).prio then decide ((nth n.devices a).prio < (nth n.devices b).prio) else
    if (nth n.devices a).mac ≠ (nth n.devices b).mac then decide ((nth n.devices a).mac < (nth n.devices b).mac) else decide (a < b)
def refRanksL (n : Net) : List Int := (List.range n.devices.length).map fun (i : Nat) => (((List.range n.devices.length).countP fun k => aheadB n (k : Nat) i : Nat) : Int)
end Go.Sy.YtmelpejjondedaaGreat

namespace Go.Sy.YtmelpejjondedaaGreat
theorem key_lt (n : Net) (a b : Int) : decide (keyC n a b < 0) = if (nth n.devices a).prio ≠ (nth n.devices b).prio then decide ((nth n.devices a).prio < (nth n.devices b).prio) else
    if (nth n.devices a).mac ≠ (nth n.devices b).mac then decide ((nth n.devices a).mac < (nth n.devices b).mac) else false := by
  rw [keyC, orI_cmp, orI_cmp]
  rfl
theorem ahead_irrefl (n : Net) (a : Int) : aheadB n a a = false := by simp [aheadB]
theorem ahead_trans (n : Net) {a b c : Int} (h1 : aheadB n a b = true) (h2 : aheadB n b c = true) : aheadB n a c = true := by
  unfold aheadB at *
  generalize nth n.devices a = x at *
  generalize nth n.devices b = y at *
  generalize nth n.devices c = z at *
  grind
theorem ahead_asymm (n : Net) {a b : Int} (h1 : aheadB n a b = true) : aheadB n b a = false := by
  cases h : aheadB n b a with
  | false => rfl
  | true => have := ahead_trans n h1 h; rw [ahead_irrefl] at this; cases this
theorem key_ahead (n : Net) {x y : Int} (h : y < x) : decide (keyC n x y < 0) = aheadB n x y := by
  rw [key_lt]
  unfold aheadB
  generalize nth n.devices x = p at *
  generalize nth n.devices y = q at *
  grind
theorem key_not (n : Net) {x y : Int} (h : y < x) (hk : aheadB n x y = false) : aheadB n y x = true := by
  unfold aheadB at *
  generalize nth n.devices x = p at *
  generalize nth n.devices y = q at *
  grind
theorem insR_desc (n : Net) (x : Int) : ∀ (r : List Int), (∀ y ∈ r, y < x) → r.Pairwise (fun a b => aheadB n b a = true) → (insR (fun a b => decide (keyC n a b < 0)) x r).Pairwise (fun a b => aheadB n b a = true)
  | [], _, _ => by simp [insR]
  | y :: r, hx, hp => by
    have hy := hx y (by simp)
    rw [List.pairwise_cons] at hp
    rw [insR]
    split
    · rename_i hlt
      rw [key_ahead n hy] at hlt
      rw [List.pairwise_cons]
      refine ⟨fun z hz => ?_, insR_desc n x r (fun z hz => hx z (by simp [hz])) hp.2⟩
      rcases List.mem_cons.1 ((insR_perm _ x r).mem_iff.1 hz) with rfl | hz
      · exact hlt
      · exact hp.1 z hz
    · rename_i hlt
      rw [key_ahead n hy] at hlt
      have hyx := key_not n hy (by simpa using hlt)
      rw [List.pairwise_cons, List.pairwise_cons]
      refine ⟨fun z hz => ?_, hp⟩
      rcases List.mem_cons.1 hz with rfl | hz
      · exact hyx
      · exact ahead_trans n (hp.1 z hz) hyx
theorem isortR_desc (n : Net) : ∀ m, (isortR (fun a b => decide (keyC n a b < 0)) (ordL m)).Pairwise (fun a b => aheadB n b a = true)
  | 0 => by simp [isortR, ordL]
  | m + 1 => by
    rw [ordL_succ, isortR, List.foldl_append]
    refine insR_desc n m _ (fun y hy => ?_) (isortR_desc n m)
    have := (isortR_perm _ _).mem_iff.1 hy
    obtain ⟨i, hi, rfl⟩ := List.mem_map.1 this
    have := List.mem_range.1 hi
    omega
theorem sortedL_pairwise (n : Net) : (sortedL n).Pairwise (fun a b => aheadB n a b = true) := by
  rw [sortedL, isort, List.pairwise_reverse]
  exact isortR_desc n _
theorem sortedL_perm (n : Net) : (sortedL n).Perm (ordL n.devices.length) := isort_perm _ _
theorem count_place (n : Net) {l : List Int} (hp : l.Pairwise (fun a b => aheadB n a b = true)) (r : Nat) (hr : r < l.length) : l.countP (fun k => aheadB n k l[r]) = r := by
  have hsplit : l = l.take r ++ l[r] :: l.drop (r + 1) := by
    rw [← List.drop_eq_getElem_cons hr, List.take_append_drop]
  have h1 : (l.take r).countP (fun k => aheadB n k l[r]) = r := by
    rw [List.countP_eq_length.2 (fun k hk => ?_), List.length_take]
    · omega
    · obtain ⟨i, hi, rfl⟩ := List.mem_iff_getElem.1 hk
      simp only [List.length_take] at hi
      rw [List.getElem_take]
      exact List.pairwise_iff_getElem.1 hp i r (by omega) hr (by omega)
  have h2 : (l.drop (r + 1)).countP (fun k => aheadB n k l[r]) = 0 := by
    rw [List.countP_eq_zero]
    intro k hk
    obtain ⟨i, hi, rfl⟩ := List.mem_iff_getElem.1 hk
    simp only [List.length_drop] at hi
    rw [List.getElem_drop]
    have := List.pairwise_iff_getElem.1 hp r (r + 1 + i) hr (by omega) (by omega)
    simp [ahead_asymm n this]
  calc l.countP (fun k => aheadB n k l[r]) = (l.take r ++ l[r] :: l.drop (r + 1)).countP (fun k => aheadB n k l[r]) := congrArg _ hsplit
    _ = r := by rw [List.countP_append, List.countP_cons, h1, h2, ahead_irrefl]; simp
theorem rankFill_get (L : List Int) (hn : L.Nodup) (hm : ∀ a ∈ L, 0 ≤ a ∧ a < L.length) : ∀ (j : Nat), j ≤ L.length → ∀ (r : Nat) (hr : r < L.length), r < j → (rankFill L j)[L[r].toNat]? = some (r : Int)
  | 0, _, r, _, h => by omega
  | j + 1, hj, r, hr, h => by
    have hmr := hm _ (List.getElem_mem hr)
    have hlen := rankFill_length L j
    have hnth : nth L (j : Int) = L[j] := nth_eq (by simp; omega)
    rw [rankFill, hnth, List.getElem?_set]
    split
    · rename_i he
      have hmj := hm _ (List.getElem_mem (show j < L.length by omega))
      have hjr : L[j] = L[r] := by omega
      have : j = r := by
        have := (List.getElem_inj (i := j) (j := r) (h₀ := by omega) (h₁ := hr) hn).1 hjr
        exact this
      subst this
      rw [if_pos (by omega)]
    · rename_i he
      have hne : r ≠ j := fun e => he (by subst e; rfl)
      exact rankFill_get L hn hm j (by omega) r hr (by omega)
theorem ordL_nodup (m : Nat) : (ordL m).Nodup := by
  rw [ordL]
  exact List.Pairwise.map _ (fun (a b : Nat) (h : a ≠ b) => by intro e; exact h (by omega)) List.nodup_range
theorem ranks_eq (n : Net) : ranksL n = refRanksL n := by
  have hp := sortedL_perm n
  have hlen : (sortedL n).length = n.devices.length := by rw [hp.length_eq, ordL_length]
  have hnd : (sortedL n).Nodup := hp.nodup_iff.2 (ordL_nodup _)
  have hm : ∀ a ∈ sortedL n, 0 ≤ a ∧ a < (sortedL n).length := fun a ha => by
    obtain ⟨i, hi, rfl⟩ := List.mem_map.1 (hp.mem_iff.1 ha)
    have := List.mem_range.1 hi
    omega
  refine List.ext_getElem? fun i => ?_
  rcases Nat.lt_or_ge i n.devices.length with hi | hi
  · have hin : (i : Int) ∈ sortedL n := hp.mem_iff.2 (List.mem_map.2 ⟨i, List.mem_range.2 hi, rfl⟩)
    obtain ⟨r, hr, he⟩ := List.mem_iff_getElem.1 hin
    have h1 := rankFill_get (sortedL n) hnd hm n.devices.length (by omega) r hr (by omega)
    rw [he] at h1
    have h2 := count_place n (sortedL_pairwise n) r hr
    rw [he, hp.countP_eq] at h2
    rw [ranksL, refRanksL, List.getElem?_map, List.getElem?_range hi]
    simp only [Int.toNat_natCast] at h1
    rw [h1]
    simp only [Option.map_some]
    congr 2
    rw [← h2, ordL, List.countP_map]
    rfl
  · rw [List.getElem?_eq_none, List.getElem?_eq_none]
    · simp [refRanksL]; omega
    · rw [ranksL, rankFill_length]; omega
theorem G_vw {C : Cx} {k : List KI} {s : SS} (d : Nat) (x : SV) (h : Vw s [] (s.σ d) x) (hg : G C k ⟨upd s.σ d x, s.h⟩) : G C k s := fun κ a w hs =>
  hg κ a w ⟨hs.defers, hs.size, hs.inv, hs.ctx, fun i => by
    show Rd κ w (upd s.σ d x i) _
    by_cases hi : i = d
    · subst hi; rw [upd_self]; exact Vw.rd hs.inv (fun _ hn => by cases hn) h (hs.slot i)
    · rw [upd_ne _ _ hi]; exact hs.slot i, hs.obj⟩
end Go.Sy.YtmelpejjondedaaGreat

namespace Go.Sy.YtmelpejjondedaaGreat
open Go.Proofs
attribute [local irreducible] Go.Sy.G Go.Sy.DR
set_option maxRecDepth 20000
set_option maxHeartbeats 4000000
def badCost (p : Port) : Bool := decide (p.cost < 1) || decide (p.cost > 65535)
theorem costs1 (p : Port) : Sy.Spec Tryz.prog 227 [portSV p] [] (boolSV (badCost p)) [] := contract Γ hm 100 F227 Tryz.ntmps227 rfl fun F hF => by
  (conv=>whnf)
  (repeat' (first | (refine ⟨fun h => ?_, fun h => ?_⟩ <;> (repeat (first | simp only [decide_eq_true_eq] at h | simp only [decide_eq_false_iff_not] at h)) <;> ((refine rg ?_);(conv=>whnf))) | (refine done0 rfl (.cons .tmp .nil) ?_ rfl)))
  all_goals (refine congrArg boolSV ?_; clear hF; grind [badCost])
theorem containsFuncS_Port (l : List Port) (p : Port → Bool) (f : FuncId) (first cap : List SV) (hc : (SV.clo (.func f) first cap).inn [] = true) (hf : ∀ x ∈ l, FunS Tryz.prog f (first ++ [portSV x] ++ cap) (boolSV (p x))) (hl : Short l) :
    Sy.Spec Tryz.prog 226 [.sl 7 portSV l, .clo (.func f) first cap] [] (boolSV (l.any p)) [] := contract Γ hm 100 F226 Tryz.ntmps226 rfl fun F hF => by
  have h0 : innL [] [.sl 7 portSV l, .clo (.func f) first cap] = true := by simp only [innL, hc]; rfl
  (conv=>whnf)
  refine call0 (indexFuncS_Port l p f first cap hc hf hl) F281 rfl rfl (by simp only [h0]; rfl) rfl rfl ?_
  (refine rg ?_;(conv=>whnf))
  exact done0 rfl (.cons .tmp .nil) (congrArg boolSV (idxI_any _ _).symm) rfl
def costsB (n : Net) : Bool := !(n.ports.any badCost)
theorem costsS (n : Net) (hl : Short n.ports) : Sy.Spec Tryz.prog 155 [netSV n] [] (boolSV (costsB n)) [] := contract Γ hm 100 F155 Tryz.ntmps155 rfl fun F hF => by
  (conv=>whnf)
  refine call0 (containsFuncS_Port n.ports badCost 227 [] [] rfl (fun x _ => ⟨⟨_, _, F227⟩, costs1 x⟩) hl) F226 rfl rfl rfl rfl rfl ?_
  (refine rg ?_;(conv=>whnf))
  exact done0 rfl (.cons .tmp .nil) rfl rfl
def greatB (n : Net) : Bool :=
  decide (200 < n.devices.length) || decide (200 < n.ports.length) || decide (200 < n.links.length) || decide (200 < n.domains.length) || decide (200 < n.statics.length) || decide (200 < n.floods.length) || decide (200 < n.vrfs.length) || decide (200 < n.irbs.length) ||
    n.ports.any (fun p => decide (100 < p.tagged.length)) || n.domains.any (fun d => decide (100 < d.peers.length)) || n.floods.any (fun f => decide (100 < f.addrs.length)) || n.vrfs.any (fun v => decide (100 < v.imports.length) || decide (100 < v.exports.length))
theorem fin_of_great {n : Net} (h : greatB n = false) : n.Fin := by
  simp only [greatB, Bool.or_eq_false_iff, decide_eq_false_iff_not, List.any_eq_false, decide_eq_true_eq, Bool.or_eq_true, not_or] at h
  obtain ⟨⟨⟨⟨⟨⟨⟨⟨⟨⟨⟨h1, h2⟩, h3⟩, h4⟩, h5⟩, h6⟩, h7⟩, h8⟩, h9⟩, h10⟩, h11⟩, h12⟩ := h
  exact ⟨by unfold Short; omega, by unfold Short; omega, by unfold Short; omega, by unfold Short; omega, by unfold Short; omega, by unfold Short; omega, by unfold Short; omega, by unfold Short; omega,
    fun p hp => by have := h9 p hp; unfold Short; omega, fun p hp => by have := h10 p hp; unfold Short; omega, fun p hp => by have := h11 p hp; unfold Short; omega, fun p hp => by have := h12 p hp; unfold Short; omega, fun p hp => by have := h12 p hp; unfold Short; omega⟩
end Go.Sy.YtmelpejjondedaaGreat

namespace Go.Sy.YtmelpejjondedaaGreat
open Go.Proofs
attribute [local irreducible] Go.Sy.G Go.Sy.DR
set_option maxRecDepth 100000
set_option maxHeartbeats 4000000
theorem getD_at {α : Type} {l : List α} {i : Nat} {d : α} (h : i < l.length) : l.getD i d = l[i] := by simp [List.getD, h]
theorem right_port {n : Net} (h : netRightB n = true) {i : Nat} (hi : i < n.ports.length) : portB n i n.ports[i] = true := by
  simp only [netRightB, Bool.and_eq_true] at h
  exact allB_iff.1 h.1.1.1.1.1.2 i hi
theorem right_link {n : Net} (h : netRightB n = true) {i : Nat} (hi : i < n.links.length) : linkB n i n.links[i] = true := by
  simp only [netRightB, Bool.and_eq_true] at h
  exact allB_iff.1 h.1.1.1.1.2 i hi
theorem right_few {n : Net} (h : netRightB n = true) : n.devices.length ≤ 8 ∧ n.ports.length ≤ 40 ∧ n.links.length ≤ 20 := by
  simp only [netRightB, fewB, Bool.and_eq_true, decide_eq_true_eq] at h
  omega
theorem port_link {n : Net} (h : netRightB n = true) {i : Nat} (hi : i < n.ports.length) : n.ports[i].link = -1 ∨ (0 ≤ n.ports[i].link ∧ n.ports[i].link < n.links.length) := by
  have := right_port h hi
  simp only [portB, placeB, Bool.and_eq_true, Bool.or_eq_true, beq_iff_eq, decide_eq_true_eq] at this
  rcases this.2 with h1 | h1
  · exact .inl h1
  · exact .inr h1.1
theorem port_dev {n : Net} (h : netRightB n = true) {i : Nat} (hi : i < n.ports.length) : 0 ≤ n.ports[i].dev ∧ n.ports[i].dev < n.devices.length := by
  have := right_port h hi
  simp only [portB, placeB, Bool.and_eq_true, decide_eq_true_eq] at this
  exact this.1.1.1.1.1.1.1.1
theorem link_ends {n : Net} (h : netRightB n = true) {i : Nat} (hi : i < n.links.length) : (0 ≤ n.links[i].a ∧ n.links[i].a < n.ports.length) ∧ 0 ≤ n.links[i].b ∧ n.links[i].b < n.ports.length := by
  have := right_link h hi
  simp only [linkB, placeB, Bool.and_eq_true, decide_eq_true_eq] at this
  exact ⟨this.1.1.1.1, this.1.1.1.2⟩
def pdev (n : Net) (i : Nat) : Int := (nth n.ports i).dev
def pcost (n : Net) (i : Nat) : Int := (nth n.ports i).cost
theorem pcost_le {n : Net} (hcost : costsB n = true) {i : Nat} (hi : i < n.ports.length) : 1 ≤ pcost n i ∧ pcost n i ≤ 65535 := by
  rw [pcost, nth_eq (l := n.ports) (i := (i : Int)) (by simpa using hi)]
  simp only [costsB, Bool.not_eq_true', List.any_eq_false] at hcost
  have := hcost _ (List.getElem_mem hi)
  simp only [badCost, Bool.or_eq_true, decide_eq_true_eq, not_or] at this
  simp only [Int.toNat_natCast]
  omega
end Go.Sy.YtmelpejjondedaaGreat

namespace Go.Sy.YtmelpejjondedaaGreat
open Go.Proofs
attribute [local irreducible] Go.Sy.G Go.Sy.DR
set_option maxRecDepth 20000
set_option maxHeartbeats 4000000
end Go.Sy.YtmelpejjondedaaGreat

namespace Go.Sy.YtmelpejjondedaaGreat
open Go.Proofs
structure EntryM where
  mac : Nat
  where_ : Int
  seen : Int
deriving DecidableEq
def entrySV (e : EntryM) : SV := .agg [u64SV e.mac, intSV e.where_, intSV e.seen]
def stationB (m : Nat) : Bool := decide (m ≤ 281474976710655) && !groupB m
def timelyB (now : Int) : Bool := decide (0 ≤ now) && decide (now ≤ 1099511627776)
def indexE (t : List EntryM) (m : Nat) : Int := idxI (fun e => decide (e.mac = m)) t
def entryB (t : List EntryM) (i : Nat) (e : EntryM) : Bool := stationB e.mac && timelyB e.seen && decide (indexE t e.mac = i)
def tableB (t : List EntryM) : Bool := decide (t.length ≤ 8) && allB (entryB t) t
def findE (t : List EntryM) (m : Nat) : Int × Bool := if indexE t m < 0 then (0, false) else (((t[(indexE t m).toNat]?).map (·.where_)).getD 0, true)
def oldestU (t : List EntryM) : Nat → Nat
  | 0 => 0
  | j + 1 => if ((t[j]?).map (·.seen)).getD 0 < ((t[oldestU t j]?).map (·.seen)).getD 0 then j else oldestU t j
def learnT (t : List EntryM) (m : Nat) (wh now : Int) : List EntryM :=
  if tableB t = false ∨ stationB m = false ∨ timelyB now = false then t
  else if 0 ≤ indexE t m then t.set (indexE t m).toNat ⟨m, wh, now⟩
  else (if t.length = 8 then t.eraseIdx (oldestU t t.length) else t) ++ [⟨m, wh, now⟩]
def ageT (t : List EntryM) (now : Int) : List EntryM := if tableB t = false ∨ timelyB now = false then t else t.filter fun e => decide (now - 4 ≤ e.seen)
def noF : FrameM := ⟨0, 0, 0, []⟩
structure FrameOK (f : FrameM) : Prop where
  dst : f.dst < 281474976710656
  src : f.src < 281474976710656
  typ : f.typ ≤ 65535
  body : f.body.length ≤ 1504
def takeF (b : List UInt8) : FrameM × Int :=
  if b.length < 14 then (noF, 10) else if 1518 < b.length then (noF, 14)
  else (⟨unbe (b.take 6), unbe ((b.drop 6).take 6), unbe ((b.drop 12).take 2), b.drop 14⟩, 0)
def putF (f : FrameM) : List UInt8 := frame f.dst f.src f.typ f.body
def stripT (f : FrameM) : FrameM × Int × Int × Int :=
  if f.typ ≠ 33024 then (noF, 0, 0, 11) else if f.body.length < 4 then (noF, 0, 0, 10)
  else if 4094 < unbe (f.body.take 2) % 4096 ∨ unbe ((f.body.drop 2).take 2) = 33024 then (noF, 0, 0, 15)
  else (⟨f.dst, f.src, unbe ((f.body.drop 2).take 2), f.body.drop 4⟩, (unbe (f.body.take 2) % 4096 : Nat), (unbe (f.body.take 2) / 4096 : Nat), 0)
def tagT (f : FrameM) (v : Int) : FrameM × Int :=
  if f.typ = 33024 then (noF, 15) else if 1500 < f.body.length then (noF, 14)
  else (⟨f.dst, f.src, 33024, [UInt8.ofNat (v.toNat / 256), UInt8.ofNat v.toNat, UInt8.ofNat (f.typ / 256), UInt8.ofNat f.typ] ++ f.body⟩, 0)
def vlanT (p : Port) (tagged : Bool) (vid : Int) : Int × Bool :=
  if tagged = false ∨ vid = 0 then (p.native, decide (p.native ≠ 0)) else if inB p.tagged vid = true then (vid, true) else (0, false)
def enterF (n : Net) (port : Int) (f : FrameM) (tagged : Bool) (vid : Int) : Int × FrameM × Int :=
  if groupB f.src = true then (0, noF, 11)
  else if (vlanT (nth n.ports port) tagged vid).2 = false then (0, noF, 16)
  else (domainT n (nth n.ports port).dev (vlanT (nth n.ports port) tagged vid).1, f, 0)
def enterT (n : Net) (port : Int) (b : List UInt8) : Int × FrameM × Int :=
  if placeB port n.ports.length = false ∨ netRightB n = false then (0, noF, 2)
  else if (takeF b).2 ≠ 0 then (0, noF, (takeF b).2)
  else if (takeF b).1.typ = 33024 then
    (if (stripT (takeF b).1).2.2.2 ≠ 0 then (0, noF, (stripT (takeF b).1).2.2.2) else enterF n port (stripT (takeF b).1).1 true (stripT (takeF b).1).2.1)
  else enterF n port (takeF b).1 false 0
def leaveT (n : Net) (port dom : Int) (f : FrameM) : List UInt8 × Int :=
  if placeB port n.ports.length = false ∨ placeB dom n.domains.length = false ∨ netRightB n = false then ([], 2)
  else if (nth n.ports port).dev ≠ (nth n.domains dom).dev ∨ memberB (nth n.ports port) (nth n.domains dom).vlan = false then ([], 16)
  else if f.typ = 33024 then ([], 15)
  else if (nth n.domains dom).vlan = (nth n.ports port).native then (putF f, 0)
  else if (tagT f (nth n.domains dom).vlan).2 ≠ 0 then ([], (tagT f (nth n.domains dom).vlan).2)
  else (putF (tagT f (nth n.domains dom).vlan).1, 0)
def linkT (n : Net) (port : Int) (b : List UInt8) : Int × Int × FrameM × Int :=
  if otherT n port < 0 then (0, 0, noF, 2) else (otherT n port, enterT n (otherT n port) b)
structure QueuedM where
  from_ : Int
  peer : Int
  origin : Int
  frame : FrameM
def queuedSV (q : QueuedM) : SV := .agg [intSV q.from_, intSV q.peer, intSV q.origin, u64SV q.frame.dst, u64SV q.frame.src, intSV q.frame.typ, .sl 1 byteSV q.frame.body]
def noQ : QueuedM := ⟨0, 0, 0, noF⟩
def pushT (l : List QueuedM) (q : QueuedM) : List QueuedM × Bool := if 64 ≤ l.length then (l, false) else (l ++ [q], true)
def takeT (l : List QueuedM) (at_ : Int) : QueuedM × List QueuedM × Bool :=
  if at_ < 0 ∨ (l.length : Int) ≤ at_ then (noQ, l, false) else ((l[at_.toNat]?).getD noQ, l.eraseIdx at_.toNat, true)
def usableB (n : Net) (fw : List Bool) (p : Int) : Bool := decide ((nth n.ports p).link < 0) || (fw[(nth n.ports p).link.toNat]?).getD false
def roomB (n : Net) (fw : List Bool) (dom from_ : Int) : Bool :=
  placeB dom n.domains.length && decide (fw.length = n.links.length) && netRightB n && (decide (from_ = -1) || decide (from_ = -2) || inB (membersL n dom) from_)
def portsOut (n : Net) (fw : List Bool) (from_ : Int) (l : List Int) : List Int := l.filter fun p => !(decide (p = from_) || !(usableB n fw p))
def peersOut (n : Net) (dom from_ : Int) : List Int := if from_ = -1 then [] else (nth n.domains dom).peers
def floodT (n : Net) (fw : List Bool) (dom from_ : Int) : List Int × List Int × Int :=
  if roomB n fw dom from_ = false then ([], [], 2) else (portsOut n fw from_ (membersL n dom), peersOut n dom from_, 0)
def staticI (n : Net) (dom : Int) (m : Nat) : Int := idxI (fun s : Static => decide (s.domain = dom) && decide (s.mac = (m : Int))) n.statics
def decideT (n : Net) (fw : List Bool) (t : List EntryM) (dom from_ : Int) (m : Nat) : List Int × List Int × Int :=
  if roomB n fw dom from_ = false then ([], [], 2)
  else if groupB m = true then (portsOut n fw from_ (membersL n dom), peersOut n dom from_, 0)
  else if 0 ≤ staticI n dom m then (portsOut n fw from_ [(nth n.statics (staticI n dom m)).port], [], 0)
  else if (findE t m).2 = true ∧ 0 ≤ (findE t m).1 ∧ inB (membersL n dom) (findE t m).1 = true then (portsOut n fw from_ [(findE t m).1], [], 0)
  else if (findE t m).2 = true ∧ (findE t m).1 < 0 ∧ inB (nth n.domains dom).peers (-1 - (findE t m).1) = true then ([], if from_ = -1 then [] else [-1 - (findE t m).1], 0)
  else (portsOut n fw from_ (membersL n dom), peersOut n dom from_, 0)
end Go.Sy.YtmelpejjondedaaGreat

namespace Go.Sy.YtmelpejjondedaaGreat
open Go.Proofs
def bAt (b : List UInt8) (i : Nat) : UInt8 := b.getD i 0
def numAt (b : List UInt8) (k m : Nat) : Nat := unbe ((b.drop k).take m)
def wordsL (l : List Nat) : List UInt8 := l.flatMap fun n => [UInt8.ofNat (n / 256), UInt8.ofNat n]
def udpPort (a b : Nat) : Nat := 49152 + (a ^^^ b) % 16384
def udpT (src dst : Nat) (body : List UInt8) : List UInt8 := wordsL [src, dst, 8 + body.length, 0] ++ body
def udpTakeT (b : List UInt8) : Int × Int × List UInt8 × Int :=
  if b.length < 8 then (0, 0, [], 10) else if numAt b 4 2 < 8 then (0, 0, [], 11) else if b.length < numAt b 4 2 then (0, 0, [], 10)
  else if numAt b 6 2 ≠ 0 then (0, 0, [], 12) else (numAt b 0 2, numAt b 2 2, (b.take (numAt b 4 2)).drop 8, 0)
structure PacketM where
  tos : Nat
  id : Nat
  ttl : Nat
  proto : Nat
  src : Nat
  dst : Nat
  body : List UInt8
def noP : PacketM := ⟨0, 0, 0, 0, 0, 0, []⟩
def packetSV (p : PacketM) : SV := .agg [intSV p.tos, intSV p.id, intSV p.ttl, intSV p.proto, u32SV p.src, u32SV p.dst, .sl 1 byteSV p.body]
structure PacketOK (p : PacketM) : Prop where
  tos : p.tos ≤ 255
  id : p.id ≤ 65535
  ttl : p.ttl ≤ 255
  proto : p.proto ≤ 255
  src : p.src < 4294967296
  dst : p.dst < 4294967296
def ipHead (p : PacketM) (s : Nat) : List UInt8 := wordsL [17664 + p.tos, 20 + p.body.length, p.id, 0, p.ttl * 256 + p.proto, s, p.src / 65536, p.src, p.dst / 65536, p.dst]
def ipSum (p : PacketM) : Nat := sumOf (ipHead p 0)
def ipBy (p : PacketM) : List UInt8 := ipHead p (ipSum p) ++ p.body
def ipPutT (p : PacketM) : List UInt8 × Int := if 1480 < p.body.length then ([], 14) else (ipBy p, 0)
def ipTakeT (b : List UInt8) : PacketM × Int :=
  if b.length < 20 then (noP, 10) else if bAt b 0 ≠ 69 ∨ numAt b 2 2 < 20 then (noP, 11) else if b.length < numAt b 2 2 then (noP, 10)
  else if numAt b 6 2 ≠ 0 then (noP, 11) else if foldN (wsum (b.take 20) 10) ≠ 65535 then (noP, 12)
  else (⟨(bAt b 1).toNat, numAt b 4 2, (bAt b 8).toNat, (bAt b 9).toNat, numAt b 12 4, numAt b 16 4, (b.take (numAt b 2 2)).drop 20⟩, 0)
def headB (v : Nat) : List UInt8 := [8, 0, 0, 0, UInt8.ofNat (v / 65536), UInt8.ofNat (v / 256), UInt8.ofNat v, 0]
def vniBad (v : Int) : Bool := decide (v < 1) || decide (16777215 < v)
def vniT (b : List UInt8) : Int × List UInt8 × Int :=
  if b.length < 8 then (0, [], 10) else if numAt b 4 3 = 0 ∨ b.take 8 ≠ headB (numAt b 4 3) then (0, [], 11) else (numAt b 4 3, b.drop 8, 0)
def wrapP (from_ to : Nat) (v : Nat) (f : FrameM) : PacketM := ⟨0, 0, 64, 17, from_, to, udpT (udpPort f.dst f.src) 4789 (headB v ++ putF f)⟩
def wrapT (from_ to : Nat) (v : Int) (f : FrameM) : List UInt8 × Int :=
  if f.typ = 33024 then ([], 15) else if vniBad v = true then ([], 17) else if 1450 < f.body.length then ([], 14)
  else (frame (hostN to) (hostN from_) 2048 (ipBy (wrapP from_ to v.toNat f)), 0)
def outerT (b : List UInt8) : PacketM × Int :=
  if (takeF b).2 ≠ 0 then (noP, (takeF b).2) else if (takeF b).1.typ ≠ 2048 then (noP, 11)
  else if (ipTakeT (takeF b).1.body).2 ≠ 0 then (noP, (ipTakeT (takeF b).1.body).2)
  else ((ipTakeT (takeF b).1.body).1, if (ipTakeT (takeF b).1.body).1.proto ≠ 17 then 11 else 0)
def innerT (b : List UInt8) : Int × FrameM × Int :=
  if (udpTakeT b).2.2.2 ≠ 0 then (0, noF, (udpTakeT b).2.2.2) else if (udpTakeT b).2.1 ≠ 4789 then (0, noF, 11)
  else if (vniT (udpTakeT b).2.2.1).2.2 ≠ 0 then (0, noF, (vniT (udpTakeT b).2.2.1).2.2)
  else if (takeF (vniT (udpTakeT b).2.2.1).2.1).2 ≠ 0 then (0, noF, (takeF (vniT (udpTakeT b).2.2.1).2.1).2)
  else if (takeF (vniT (udpTakeT b).2.2.1).2.1).1.typ = 33024 then (0, noF, 15)
  else ((vniT (udpTakeT b).2.2.1).1, (takeF (vniT (udpTakeT b).2.2.1).2.1).1, 0)
def unwrapT (b : List UInt8) : Nat × Nat × Int × FrameM × Int :=
  if (outerT b).2 ≠ 0 then (0, 0, 0, noF, (outerT b).2) else if (innerT (outerT b).1.body).2.2 ≠ 0 then (0, 0, 0, noF, (innerT (outerT b).1.body).2.2)
  else ((outerT b).1.src, (outerT b).1.dst, (innerT (outerT b).1.body).1, (innerT (outerT b).1.body).2.1, 0)
structure Net.Num (n : Net) : Prop where
  vtep : ∀ d ∈ n.devices, 0 ≤ d.vtep ∧ d.vtep < 4294967296
  addr : ∀ i ∈ n.irbs, 0 ≤ i.addr ∧ i.addr < 4294967296
def vtepI (n : Net) (dom : Int) : Int := (nth n.devices (nth n.domains dom).dev).vtep
def meshT (n : Net) (dom peer : Int) (f : FrameM) : List UInt8 × Int :=
  if placeB peer n.domains.length = false ∨ placeB dom n.domains.length = false ∨ netRightB n = false then ([], 2)
  else if inB (nth n.domains dom).peers peer = false then ([], 17)
  else wrapT (vtepI n dom).toNat (vtepI n peer).toNat (nth n.domains dom).vni f
def endsT (n : Net) (src dst : Nat) (vni : Int) : Int × Int :=
  let dev := idxI (fun d : Device => decide (d.vtep = (dst : Int))) n.devices
  let dom := idxI (fun d : Domain => decide (d.dev = dev) && decide (d.vni = vni)) n.domains
  if dev < 0 ∨ dom < 0 then (-1, -1)
  else
    let i := idxI (fun k : Int => decide (vtepI n k = (src : Int))) (nth n.domains dom).peers
    if i < 0 then (-1, -1) else (nth (nth n.domains dom).peers i, dom)
def comeT (n : Net) (b : List UInt8) : Int × Int × FrameM × Int :=
  if netRightB n = false then (0, 0, noF, 2)
  else if (unwrapT b).2.2.2.2 ≠ 0 then (0, 0, noF, (unwrapT b).2.2.2.2)
  else if (endsT n (unwrapT b).1 (unwrapT b).2.1 (unwrapT b).2.2.1).1 < 0 then (0, 0, noF, 17)
  else if groupB (unwrapT b).2.2.2.1.src = true then (0, 0, noF, 11)
  else ((endsT n (unwrapT b).1 (unwrapT b).2.1 (unwrapT b).2.2.1).1, (endsT n (unwrapT b).1 (unwrapT b).2.1 (unwrapT b).2.2.1).2, (unwrapT b).2.2.2.1, 0)
def routerT (n : Net) (dom : Int) (m : Nat) : Int × Bool :=
  if placeB dom n.domains.length = false ∨ netRightB n = false then (0, false)
  else if (nth n.domains dom).irb < 0 ∨ hostN (nth n.irbs (nth n.domains dom).irb).addr ≠ m then (0, false)
  else ((nth n.domains dom).irb, true)
def hopP (p : PacketM) : PacketM := ⟨p.tos, p.id, p.ttl - 1, p.proto, p.src, p.dst, p.body⟩
def hopT (n : Net) (irb : Int) (f : FrameM) : Int × FrameM × Int :=
  if placeB irb n.irbs.length = false ∨ netRightB n = false then (0, noF, 2)
  else if f.typ ≠ 2048 then (0, noF, 11)
  else if (ipTakeT f.body).2 ≠ 0 then (0, noF, (ipTakeT f.body).2)
  else if (ipTakeT f.body).1.ttl ≤ 1 then (0, noF, 13)
  else if (lookT n irb (ipTakeT f.body).1.dst).2 = false then (0, noF, 31)
  else if 1480 < (ipTakeT f.body).1.body.length then (0, noF, 14)
  else ((nth n.irbs (lookT n irb (ipTakeT f.body).1.dst).1).domain,
    ⟨hostN (ipTakeT f.body).1.dst, hostN (nth n.irbs (lookT n irb (ipTakeT f.body).1.dst).1).addr, 2048, ipBy (hopP (ipTakeT f.body).1)⟩, 0)
structure OutM where
  kind : Int
  port : Int
  domain : Int
  bytes : List UInt8
  frame : FrameM
  error : Int
def outSV (o : OutM) : SV := .agg [intSV o.kind, intSV o.port, intSV o.domain, .sl 1 byteSV o.bytes, u64SV o.frame.dst, u64SV o.frame.src, intSV o.frame.typ, .sl 1 byteSV o.frame.body, intSV o.error]
def learnQ (t : List EntryM) (q : QueuedM) (now : Int) : List EntryM :=
  if q.from_ = -2 then t else learnT t q.frame.src (if q.from_ = -1 then -1 - q.peer else q.from_) now
def lostT (o : OutM) (r : List UInt8 × Int) : OutM := if r.2 ≠ 0 then ⟨5, o.port, o.domain, [], o.frame, r.2⟩ else ⟨o.kind, o.port, o.domain, r.1, o.frame, o.error⟩
def outP (n : Net) (dom : Int) (f : FrameM) (p : Int) : OutM := lostT ⟨if (nth n.ports p).link < 0 then 1 else 2, p, 0, [], noF, 0⟩ (leaveT n p dom f)
def outM (n : Net) (dom : Int) (f : FrameM) (p : Int) : OutM := lostT ⟨3, 0, p, [], noF, 0⟩ (meshT n dom p f)
def bridgeT (n : Net) (fw : List Bool) (t : List EntryM) (dom : Int) (q : QueuedM) (now : Int) : List EntryM × List OutM × Int :=
  if roomB n fw dom q.from_ = false ∨ tableB t = false then ([], [], 2)
  else if (routerT n dom q.frame.dst).2 = true then
    (if (hopT n (routerT n dom q.frame.dst).1 q.frame).2.2 ≠ 0 then (learnQ t q now, [], (hopT n (routerT n dom q.frame.dst).1 q.frame).2.2)
     else (learnQ t q now, [⟨4, 0, (hopT n (routerT n dom q.frame.dst).1 q.frame).1, [], (hopT n (routerT n dom q.frame.dst).1 q.frame).2.1, 0⟩], 0))
  else (learnQ t q now, (decideT n fw (learnQ t q now) dom q.from_ q.frame.dst).1.map (outP n dom q.frame) ++ (decideT n fw (learnQ t q now) dom q.from_ q.frame.dst).2.1.map (outM n dom q.frame), 0)
end Go.Sy.YtmelpejjondedaaGreat

namespace Go.Sy
end Go.Sy

namespace Go.Sy
end Go.Sy

namespace Go.Sy
open Go.ChangeShapes Go.WideShapes Go.ChangeAt Go.RowKit
def κ0 : Ka := ⟨fun _ => .new, fun _ => False⟩
theorem inv0 (w : World) : Inv κ0 w :=
  ⟨fun i j b h => (by cases h), fun k b h => (by cases h), fun k b h => (by cases h), fun b h => False.elim h⟩
theorem below_of_ctx {w w' : World} {κ' : Ka} (c : Ctx ⟨w, κ0⟩ κ' w') : Below w.heap.size w w' :=
  ⟨c.os, c.tape, c.output, c.size, fun k hk => c.old k hk (fun j h => by cases h)⟩
section
variable {H : Type} {enc : TypeId × Value → H} {P : Program}
theorem trodAll_below {W W' : World} (hl : laidOutB P = true) (hb : Below W.heap.size W W') : ∀ {ts : List TypeId} {vs : List Value} {ds : List (DataW H)} {ps : List MemPlace}, (∀ t ∈ ts, P.readableRec t = true ∧ t < P.types.size) →
    (∀ x ∈ ps, x.block < W.heap.size) → DataW.TrodAll enc P W 0 (fun _ => true) true ts vs ds ps → DataW.TrodAll enc P W' 0 (fun b => decide (b < W.heap.size)) true ts vs ds ps
  | [], _, _, _, _, _, h => by
    obtain ⟨rfl, rfl, rfl⟩ := trodAll_nil h
    rfl
  | t :: ts, _, _, _, ht, hp, h => by
    obtain ⟨v, vs, d, ds, p, q, rfl, rfl, rfl, h1, h2⟩ := trodAll_cons h
    have := ht t (by simp)
    exact ⟨p, q, Below.trod hl this.1 this.2 h1 hb (fun x hx => hp x (by simp [hx])), trodAll_below hl hb (fun t h => ht t (by simp [h])) (fun x hx => hp x (by simp [hx])) h2, rfl⟩
theorem law_calls {f : FuncId} {fn : Func} {s : ChangeSpec} {W : World} {args : Array Value} {ds gs : List (DataW H)} {before : List MemPlace} {tb : TypeId} {A : List SV} (hv : s.vars = []) (hl : laidOutB P = true)
    (hW : DataW.Whole enc P fn.params.toList s.vars false W args.toList ds gs before) (hts : ∀ t ∈ fn.params.toList, P.readableRec t = true ∧ t < P.types.size) (hrt : fn.resultTypes = #[tb]) (hbt : P.underlying tb = some .bool)
    (hfn : ∀ gs : List (DataW H), gs = [] → s.fn H (ds ++ gs) = { results := [.lit (.bool true)], args := ds }) (hA : RdL κ0 W A args.toList) (hs : Sy.Spec P f A [] (boolSV true) []) :
    Calls P f args W fun e W' => ∃ v, e = .returned v ∧ s.post enc P fn false true false false W args v W' := by
  have hc := hs κ0 W args.toList (inv0 W) (fun k hk => absurd rfl hk) hA (fun p hp => by cases hp)
  simp only [Array.toArray_toList] at hc
  refine hc.mono ?_
  rintro e W' ⟨v, κ', rfl, ctx, inv, hR, _⟩
  have hvv : v = .bool true := by simpa [boolSV, Rd] using hR
  subst hvv
  have hb := below_of_ctx ctx
  have hW' := hW
  obtain ⟨p, q, h1, h2, h3, h4, h5⟩ := hW
  have hgs : gs = [] ∧ q = [] := by
    rw [hv] at h2
    exact trodVars_none h2
  obtain ⟨rfl, rfl⟩ := hgs
  rw [List.append_nil] at h3
  subst h3
  have hlt : ∀ x ∈ before, x.block < W.heap.size := fun x hx => by simpa using hW'.lt x hx
  refine ⟨_, rfl, ds, [], before, [], before, [], hW', ?_, ?_, ?_, ?_, fun h => by cases h⟩
  · rw [hfn [] rfl, hrt]
    exact trodAll_mk1 (shut_bool hbt true)
  · rw [hfn [] rfl]
    exact trodAll_below hl hb hts hlt h1
  · rw [hv, hfn [] rfl]
    rfl
  · exact hb.frame _
end
end Go.Sy

namespace Go.Sy
theorem good_index_glob {P : Program} (Γ : Ty P) {o : Oper} {s : SS} {t : TypeId} {ti : TI} {et : TypeId} {len esz sz g : Nat} {y : Operand} {ik : IntKind} {n : Int} {z : SV} (k : Nat)
    (h : o.op = .indexAddr t (.global g) y) (ht : Γ.get t = some ti) (hk : ti.k = .array et len esz) (hb : s.h k = .glob sz z g) (hy : ev s y = .val (.int ik n)) (h0 : 0 ≤ n) (hn : n.toNat < len) :
    Good P o s ⟨.ref sz z (n.toNat * esz), [k], []⟩ :=
  Good.pure fun κ a w _ hr ho => by
    have h1 := ho k (by simp)
    have h2 := hr y (by simp [h, Op.operands])
    rw [hb] at h1
    rw [hy] at h2
    simp only [ObOK, Rd, RdD] at h1
    obtain ⟨b, oo, u, e1, e2, e3, e4, e5⟩ := h1
    obtain ⟨hu, i, q1, q2⟩ := arr_elem Γ ht hk
    simp only [Nat.add_zero, Value.pointer.injEq, Option.some.injEq, Addr.mk.injEq, and_true] at e1
    obtain ⟨rfl, rfl⟩ := e1
    refine ⟨.pointer (some ⟨g, 0 + n.toNat * esz, none⟩), ?_, ?_⟩
    · have hg : a.eval (.global g) = .pointer (some ⟨g, 0, none⟩) := rfl
      simp only [execOp, h, hg, h2.val]
      simp [run_indexArr w hu q1 q2 h0 hn]
    · simp only [Rd, RdD]
      exact ⟨g, 0, u, rfl, e2, e3, e4, e5⟩
theorem Ob.shp_glob {x : Ob} {sz g : Nat} {z : SV} (h : x.shp = (Ob.glob sz z g).shp) : x = .glob sz z g := by
  cases x <;> simp_all [Ob.shp]
theorem GoodX.glob {P : Program} (Γ : Ty P) {o : Oper} {s : SS} {t : TypeId} {ti : TI} {et : TypeId} {len esz sz g : Nat} {y : Operand} {ik : IntKind} {n : Int} {z : SV} (k : Nat)
    (h : o.op = .indexAddr t (.global g) y) (ht : Γ.get t = some ti) (hk : ti.k = .array et len esz) (hb : s.h k = .glob sz z g) (hy : ev s y = .val (.int ik n)) (h0 : 0 ≤ n) (hn : n.toNat < len) :
    GoodX P o s ⟨.ref sz z (n.toNat * esz), [k], []⟩ where
  good := (good_index_glob Γ k h ht hk hb hy h0 hn).two
  idx _ := ⟨rfl, fun s' h1 h2 => good_index_glob Γ k h ht hk (Ob.shp_glob ((h2 k (by simp)).trans (congrArg Ob.shp hb))) ((h1 y (by simp [h, Op.operands])).trans hy) h0 hn⟩
  st hs := by simp [isSt, h] at hs
section
open Go.ChangeShapes Go.WideShapes Go.ChangeAt Go.RowKit
variable {H : Type} {enc : TypeId × Value → H} {P : Program}
end
end Go.Sy

namespace Go.Sy
end Go.Sy

namespace Go.Sy
theorem good_index_arrV {P : Program} (Γ : Ty P) {o : Oper} {s : SS} {t : TypeId} {ti : TI} {et : TypeId} {len : Nat} {x y : Operand} {ik : IntKind} {n : Int} {l : List SV} {z : SV} {k : EK} (h : o.op = .index t x y) (ht : Γ.get t = some ti) (hk : ti.k = .array et len 1)
    (he : P.underlying et = some (EK.desc k)) (hx : ev s x = .agg l) (hy : ev s y = .val (.int ik n)) (h0 : 0 ≤ n) (hn : n.toNat < len) (hz : getI l n.toNat = some z) : Good P o s ⟨z, [], []⟩ :=
  Good.pure fun κ a w _ hr _ => by
    have h1 := hr x (by simp [h, Op.operands])
    have h2 := hr y (by simp [h, Op.operands])
    rw [hx] at h1
    rw [hy] at h2
    simp only [Rd] at h1
    obtain ⟨cs, e1, _, e2⟩ := h1
    obtain ⟨v, e3, e4⟩ := e2.getT hz
    obtain ⟨hu, i, q1, q2⟩ := arr_elem Γ ht hk
    have hp := run_part (P := P) w he cs.toArray e3
    have hlt : n < len := by omega
    refine ⟨v, ?_, e4⟩
    simp [execOp, h, e1, h2.val, Instr.index, run_underlying hu, asIntOf, h0, hlt, sizeOf, typeInfo, q1, q2, hp]
theorem G_boxV {C : Cx} {k : List KI} {s : SS} (d : Nat) (l' : List SV) {l : List SV} (h : s.h d = .box l) (hv : VwL s [] l l') (hg : G C k ⟨s.σ, upd s.h d (.box l')⟩) : G C k s := fun κ a w hs =>
  hg κ a w ⟨hs.defers, hs.size, hs.inv, hs.ctx, hs.slot, fun i => by
    show ObOK κ w i (upd s.h d (.box l') i)
    by_cases hi : i = d
    · subst hi
      rw [upd_self]
      have := hs.obj i
      rw [h] at this
      obtain ⟨b, cs, T, fr, e1, e2, e3, e4, e5⟩ := this
      exact ⟨b, cs, T, fr, e1, e2, e3, e4, VwL.rd hs.inv (fun _ hn => by cases hn) hv e5⟩
    · rw [upd_ne _ _ hi]; exact hs.obj i⟩
end Go.Sy

namespace Go.Sy.YtmelpejjondedaaGreat
open Go.Proofs
attribute [local irreducible] Go.Sy.G Go.Sy.DR
set_option maxRecDepth 100000
set_option maxHeartbeats 4000000
theorem row_there {κ : Ka} {w : World} {k sz : Nat} {α : Type} {e : α → SV} {l : List α} (hne : l ≠ []) (h : ObOK κ w k (.row sz e l)) : ∃ b n c, κ k = .row b n c := by
  rcases h with ⟨_, h⟩ | ⟨b, cap, _, _, _, h, _⟩
  · exact absurd h hne
  · exact ⟨b, _, cap, h⟩
theorem cloneDeviceS (l : List Device) (hl : l.length < 2147483648) : Sy.Spec Tryz.prog 87 [.sl 5 deviceSV l] [] (.sl 5 deviceSV l) [] := contract Γ hm 100 F87 Tryz.ntmps87 rfl fun F hF => by
  (conv=>whnf)
  refine stepNil rfl (.inl rfl) rfl rfl rfl .sl rfl rfl ?_
  intro b hb
  cases b
  · (refine rg ?_;(conv=>whnf);refine aF ?_;refine rg ?_;(conv=>whnf))
    refine stepOp (good_appendT Γ.toTy 7 rfl rfl rfl rfl rfl (.lit (e := deviceSV) (l := []) rfl rfl) .sl (by simp) (by simp; omega) (by simp; omega)) rfl rfl ?_
    refine G_data 7 rfl ?_
    (refine rg ?_;(conv=>whnf))
    exact done0 rfl (.cons .tmp .nil) rfl rfl
  · have h0 : l = [] := List.eq_nil_of_length_eq_zero (hb rfl)
    subst h0
    (refine rg ?_;(conv=>whnf);refine aT ?_;refine rg ?_;(conv=>whnf))
    refine G_nilsl 2 5 deviceSV rfl ?_
    exact done0 rfl (.cons .tmp .nil) rfl rfl
theorem cloneLinkS (l : List Link) (hl : l.length < 2147483648) : Sy.Spec Tryz.prog 89 [.sl 3 linkSV l] [] (.sl 3 linkSV l) [] := contract Γ hm 100 F89 Tryz.ntmps89 rfl fun F hF => by
  (conv=>whnf)
  refine stepNil rfl (.inl rfl) rfl rfl rfl .sl rfl rfl ?_
  intro b hb
  cases b
  · (refine rg ?_;(conv=>whnf);refine aF ?_;refine rg ?_;(conv=>whnf))
    refine stepOp (good_appendT Γ.toTy 7 rfl rfl rfl rfl rfl (.lit (e := linkSV) (l := []) rfl rfl) .sl (by simp) (by simp; omega) (by simp; omega)) rfl rfl ?_
    refine G_data 7 rfl ?_
    (refine rg ?_;(conv=>whnf))
    exact done0 rfl (.cons .tmp .nil) rfl rfl
  · have h0 : l = [] := List.eq_nil_of_length_eq_zero (hb rfl)
    subst h0
    (refine rg ?_;(conv=>whnf);refine aT ?_;refine rg ?_;(conv=>whnf))
    refine G_nilsl 2 3 linkSV rfl ?_
    exact done0 rfl (.cons .tmp .nil) rfl rfl
theorem cloneStaticS (l : List Static) (hl : l.length < 2147483648) : Sy.Spec Tryz.prog 91 [.sl 4 staticSV l] [] (.sl 4 staticSV l) [] := contract Γ hm 100 F91 Tryz.ntmps91 rfl fun F hF => by
  (conv=>whnf)
  refine stepNil rfl (.inl rfl) rfl rfl rfl .sl rfl rfl ?_
  intro b hb
  cases b
  · (refine rg ?_;(conv=>whnf);refine aF ?_;refine rg ?_;(conv=>whnf))
    refine stepOp (good_appendT Γ.toTy 7 rfl rfl rfl rfl rfl (.lit (e := staticSV) (l := []) rfl rfl) .sl (by simp) (by simp; omega) (by simp; omega)) rfl rfl ?_
    refine G_data 7 rfl ?_
    (refine rg ?_;(conv=>whnf))
    exact done0 rfl (.cons .tmp .nil) rfl rfl
  · have h0 : l = [] := List.eq_nil_of_length_eq_zero (hb rfl)
    subst h0
    (refine rg ?_;(conv=>whnf);refine aT ?_;refine rg ?_;(conv=>whnf))
    refine G_nilsl 2 4 staticSV rfl ?_
    exact done0 rfl (.cons .tmp .nil) rfl rfl
theorem cloneIrbS (l : List Irb) (hl : l.length < 2147483648) : Sy.Spec Tryz.prog 94 [.sl 5 irbSV l] [] (.sl 5 irbSV l) [] := contract Γ hm 100 F94 Tryz.ntmps94 rfl fun F hF => by
  (conv=>whnf)
  refine stepNil rfl (.inl rfl) rfl rfl rfl .sl rfl rfl ?_
  intro b hb
  cases b
  · (refine rg ?_;(conv=>whnf);refine aF ?_;refine rg ?_;(conv=>whnf))
    refine stepOp (good_appendT Γ.toTy 7 rfl rfl rfl rfl rfl (.lit (e := irbSV) (l := []) rfl rfl) .sl (by simp) (by simp; omega) (by simp; omega)) rfl rfl ?_
    refine G_data 7 rfl ?_
    (refine rg ?_;(conv=>whnf))
    exact done0 rfl (.cons .tmp .nil) rfl rfl
  · have h0 : l = [] := List.eq_nil_of_length_eq_zero (hb rfl)
    subst h0
    (refine rg ?_;(conv=>whnf);refine aT ?_;refine rg ?_;(conv=>whnf))
    refine G_nilsl 2 5 irbSV rfl ?_
    exact done0 rfl (.cons .tmp .nil) rfl rfl
theorem cloneIntS (l : List Int) (hl : l.length < 2147483648) : Sy.Spec Tryz.prog 95 [.sl 1 intSV l] [] (.sl 1 intSV l) [] := contract Γ hm 100 F95 Tryz.ntmps95 rfl fun F hF => by
  (conv=>whnf)
  refine stepNil rfl (.inl rfl) rfl rfl rfl .sl rfl rfl ?_
  intro b hb
  cases b
  · (refine rg ?_;(conv=>whnf);refine aF ?_;refine rg ?_;(conv=>whnf))
    refine stepOp (good_appendT Γ.toTy 7 rfl rfl rfl rfl rfl (.lit (e := intSV) (l := []) rfl rfl) .sl (by simp) (by simp; omega) (by simp; omega)) rfl rfl ?_
    refine G_data 7 rfl ?_
    (refine rg ?_;(conv=>whnf))
    exact done0 rfl (.cons .tmp .nil) rfl rfl
  · have h0 : l = [] := List.eq_nil_of_length_eq_zero (hb rfl)
    subst h0
    (refine rg ?_;(conv=>whnf);refine aT ?_;refine rg ?_;(conv=>whnf))
    refine G_nilsl 2 1 intSV rfl ?_
    exact done0 rfl (.cons .tmp .nil) rfl rfl
theorem cloneU32S (l : List Int) (hl : l.length < 2147483648) : Sy.Spec Tryz.prog 96 [.sl 1 u32SV l] [] (.sl 1 u32SV l) [] := contract Γ hm 100 F96 Tryz.ntmps96 rfl fun F hF => by
  (conv=>whnf)
  refine stepNil rfl (.inl rfl) rfl rfl rfl .sl rfl rfl ?_
  intro b hb
  cases b
  · (refine rg ?_;(conv=>whnf);refine aF ?_;refine rg ?_;(conv=>whnf))
    refine stepOp (good_appendT Γ.toTy 7 rfl rfl rfl rfl rfl (.lit (e := u32SV) (l := []) rfl rfl) .sl (by simp) (by simp; omega) (by simp; omega)) rfl rfl ?_
    refine G_data 7 rfl ?_
    (refine rg ?_;(conv=>whnf))
    exact done0 rfl (.cons .tmp .nil) rfl rfl
  · have h0 : l = [] := List.eq_nil_of_length_eq_zero (hb rfl)
    subst h0
    (refine rg ?_;(conv=>whnf);refine aT ?_;refine rg ?_;(conv=>whnf))
    refine G_nilsl 2 1 u32SV rfl ?_
    exact done0 rfl (.cons .tmp .nil) rfl rfl
theorem cloneBoolS (l : List Bool) (hl : l.length < 2147483648) : Sy.Spec Tryz.prog 55 [.sl 1 boolSV l] [] (.sl 1 boolSV l) [] := contract Γ hm 100 F55 Tryz.ntmps55 rfl fun F hF => by
  (conv=>whnf)
  refine stepNil rfl (.inl rfl) rfl rfl rfl .sl rfl rfl ?_
  intro b hb
  cases b
  · (refine rg ?_;(conv=>whnf);refine aF ?_;refine rg ?_;(conv=>whnf))
    refine stepOp (good_appendT Γ.toTy 7 rfl rfl rfl rfl rfl (.lit (e := boolSV) (l := []) rfl rfl) .sl (by simp) (by simp; omega) (by simp; omega)) rfl rfl ?_
    refine G_data 7 rfl ?_
    (refine rg ?_;(conv=>whnf))
    exact done0 rfl (.cons .tmp .nil) rfl rfl
  · have h0 : l = [] := List.eq_nil_of_length_eq_zero (hb rfl)
    subst h0
    (refine rg ?_;(conv=>whnf);refine aT ?_;refine rg ?_;(conv=>whnf))
    refine G_nilsl 2 1 boolSV rfl ?_
    exact done0 rfl (.cons .tmp .nil) rfl rfl
theorem clonePortS (l : List Port) (hl : l.length < 2147483648) : Sy.Spec Tryz.prog 88 [.sl 7 portSV l] [] (.osl 0) [(0, .row 7 portSV l)] := contract Γ hm 100 F88 Tryz.ntmps88 rfl fun F hF => by
  (conv=>whnf)
  refine stepNil rfl (.inl rfl) rfl rfl rfl .sl rfl rfl ?_
  intro b hb
  cases b
  · (refine rg ?_;(conv=>whnf);refine aF ?_;refine rg ?_;(conv=>whnf))
    refine stepOp (good_appendT Γ.toTy 7 rfl rfl rfl rfl rfl (.lit (e := portSV) (l := []) rfl rfl) .sl (by simp) (by simp; omega) (by simp; omega)) rfl rfl ?_
    (refine rg ?_;(conv=>whnf))
    exact done rfl (.cons .tmp .nil) [(0, 7)] [(0, .row 7 portSV l)] (fun _ h => h) rfl rfl ⟨trivial, ⟨.inl rfl, rfl, trivial⟩, rfl, rfl⟩
  · have h0 : l = [] := List.eq_nil_of_length_eq_zero (hb rfl)
    subst h0
    (refine rg ?_;(conv=>whnf);refine aT ?_;refine rg ?_;(conv=>whnf))
    refine G_adopt 2 1000 7 portSV rfl rfl ?_
    exact done rfl (.cons .tmp .nil) [(0, 1000)] [(0, .row 7 portSV [])] (fun _ h => h) rfl rfl ⟨trivial, ⟨.inl rfl, rfl, trivial⟩, rfl, rfl⟩
theorem cloneDomainS (l : List Domain) (hl : l.length < 2147483648) : Sy.Spec Tryz.prog 90 [.sl 6 domainSV l] [] (.osl 0) [(0, .row 6 domainSV l)] := contract Γ hm 100 F90 Tryz.ntmps90 rfl fun F hF => by
  (conv=>whnf)
  refine stepNil rfl (.inl rfl) rfl rfl rfl .sl rfl rfl ?_
  intro b hb
  cases b
  · (refine rg ?_;(conv=>whnf);refine aF ?_;refine rg ?_;(conv=>whnf))
    refine stepOp (good_appendT Γ.toTy 7 rfl rfl rfl rfl rfl (.lit (e := domainSV) (l := []) rfl rfl) .sl (by simp) (by simp; omega) (by simp; omega)) rfl rfl ?_
    (refine rg ?_;(conv=>whnf))
    exact done rfl (.cons .tmp .nil) [(0, 7)] [(0, .row 6 domainSV l)] (fun _ h => h) rfl rfl ⟨trivial, ⟨.inl rfl, rfl, trivial⟩, rfl, rfl⟩
  · have h0 : l = [] := List.eq_nil_of_length_eq_zero (hb rfl)
    subst h0
    (refine rg ?_;(conv=>whnf);refine aT ?_;refine rg ?_;(conv=>whnf))
    refine G_adopt 2 1000 6 domainSV rfl rfl ?_
    exact done rfl (.cons .tmp .nil) [(0, 1000)] [(0, .row 6 domainSV [])] (fun _ h => h) rfl rfl ⟨trivial, ⟨.inl rfl, rfl, trivial⟩, rfl, rfl⟩
theorem cloneFloodS (l : List Flood) (hl : l.length < 2147483648) : Sy.Spec Tryz.prog 92 [.sl 4 floodSV l] [] (.osl 0) [(0, .row 4 floodSV l)] := contract Γ hm 100 F92 Tryz.ntmps92 rfl fun F hF => by
  (conv=>whnf)
  refine stepNil rfl (.inl rfl) rfl rfl rfl .sl rfl rfl ?_
  intro b hb
  cases b
  · (refine rg ?_;(conv=>whnf);refine aF ?_;refine rg ?_;(conv=>whnf))
    refine stepOp (good_appendT Γ.toTy 7 rfl rfl rfl rfl rfl (.lit (e := floodSV) (l := []) rfl rfl) .sl (by simp) (by simp; omega) (by simp; omega)) rfl rfl ?_
    (refine rg ?_;(conv=>whnf))
    exact done rfl (.cons .tmp .nil) [(0, 7)] [(0, .row 4 floodSV l)] (fun _ h => h) rfl rfl ⟨trivial, ⟨.inl rfl, rfl, trivial⟩, rfl, rfl⟩
  · have h0 : l = [] := List.eq_nil_of_length_eq_zero (hb rfl)
    subst h0
    (refine rg ?_;(conv=>whnf);refine aT ?_;refine rg ?_;(conv=>whnf))
    refine G_adopt 2 1000 4 floodSV rfl rfl ?_
    exact done rfl (.cons .tmp .nil) [(0, 1000)] [(0, .row 4 floodSV [])] (fun _ h => h) rfl rfl ⟨trivial, ⟨.inl rfl, rfl, trivial⟩, rfl, rfl⟩
theorem cloneVrfS (l : List Vrf) (hl : l.length < 2147483648) : Sy.Spec Tryz.prog 93 [.sl 5 vrfSV l] [] (.osl 0) [(0, .row 5 vrfSV l)] := contract Γ hm 100 F93 Tryz.ntmps93 rfl fun F hF => by
  (conv=>whnf)
  refine stepNil rfl (.inl rfl) rfl rfl rfl .sl rfl rfl ?_
  intro b hb
  cases b
  · (refine rg ?_;(conv=>whnf);refine aF ?_;refine rg ?_;(conv=>whnf))
    refine stepOp (good_appendT Γ.toTy 7 rfl rfl rfl rfl rfl (.lit (e := vrfSV) (l := []) rfl rfl) .sl (by simp) (by simp; omega) (by simp; omega)) rfl rfl ?_
    (refine rg ?_;(conv=>whnf))
    exact done rfl (.cons .tmp .nil) [(0, 7)] [(0, .row 5 vrfSV l)] (fun _ h => h) rfl rfl ⟨trivial, ⟨.inl rfl, rfl, trivial⟩, rfl, rfl⟩
  · have h0 : l = [] := List.eq_nil_of_length_eq_zero (hb rfl)
    subst h0
    (refine rg ?_;(conv=>whnf);refine aT ?_;refine rg ?_;(conv=>whnf))
    refine G_adopt 2 1000 5 vrfSV rfl rfl ?_
    exact done rfl (.cons .tmp .nil) [(0, 1000)] [(0, .row 5 vrfSV [])] (fun _ h => h) rfl rfl ⟨trivial, ⟨.inl rfl, rfl, trivial⟩, rfl, rfl⟩
theorem copyS (n : Net) (hn : n.Fin) :
    Sy.Spec Tryz.prog 45 [netSV n] [] (netSV n) [] := contract Γ hm 100 F45 Tryz.ntmps45 rfl fun F hF => by
  have h1 : n.devices.length < 2147483648 ∧ n.ports.length < 2147483648 ∧ n.links.length < 2147483648 ∧ n.domains.length < 2147483648 ∧ n.statics.length < 2147483648 ∧ n.floods.length < 2147483648 ∧ n.vrfs.length < 2147483648 ∧ n.irbs.length < 2147483648 := ⟨hn.devices, hn.ports, hn.links, hn.domains, hn.statics, hn.floods, hn.vrfs, hn.irbs⟩
  have h2 : (∀ p ∈ n.ports, p.tagged.length < 2147483648) ∧ (∀ p ∈ n.domains, p.peers.length < 2147483648) ∧ (∀ p ∈ n.floods, p.addrs.length < 2147483648) ∧ (∀ p ∈ n.vrfs, p.imports.length < 2147483648 ∧ p.exports.length < 2147483648) := ⟨hn.tagged, hn.peers, hn.addrs, fun v hv => ⟨hn.imports v hv, hn.exports v hv⟩⟩
  (conv=>whnf)
  refine callD0 (cloneDeviceS n.devices h1.1) F87 rfl rfl rfl (by kernel_rfl) rfl ?_
  (refine rd (by kernel_rfl) ?_;(conv=>whnf))
  refine stepD (good_call [(0, 14)] rfl F88 (clonePortS n.ports h1.2.1) rfl trivial rfl ⟨.inr rfl, trivial⟩) (by kernel_rfl) rfl ?_
  (refine rd (by kernel_rfl) ?_;(conv=>whnf))
  refine callD0 (cloneLinkS n.links h1.2.2.1) F89 rfl rfl rfl (by kernel_rfl) rfl ?_
  (refine rd (by kernel_rfl) ?_;(conv=>whnf))
  refine stepD (good_call [(0, 20)] rfl F90 (cloneDomainS n.domains h1.2.2.2.1) rfl trivial rfl ⟨.inr rfl, trivial⟩) (by kernel_rfl) rfl ?_
  (refine rd (by kernel_rfl) ?_;(conv=>whnf))
  refine callD0 (cloneStaticS n.statics h1.2.2.2.2.1) F91 rfl rfl rfl (by kernel_rfl) rfl ?_
  (refine rd (by kernel_rfl) ?_;(conv=>whnf))
  refine stepD (good_call [(0, 26)] rfl F92 (cloneFloodS n.floods h1.2.2.2.2.2.1) rfl trivial rfl ⟨.inr rfl, trivial⟩) (by kernel_rfl) rfl ?_
  (refine rd (by kernel_rfl) ?_;(conv=>whnf))
  refine stepD (good_call [(0, 29)] rfl F93 (cloneVrfS n.vrfs h1.2.2.2.2.2.2.1) rfl trivial rfl ⟨.inr rfl, trivial⟩) (by kernel_rfl) rfl ?_
  (refine rd (by kernel_rfl) ?_;(conv=>whnf))
  refine callD0 (cloneIrbS n.irbs h1.2.2.2.2.2.2.2) F94 rfl rfl rfl (by kernel_rfl) rfl ?_
  (refine rd (by kernel_rfl) ?_;(conv=>whnf))
  refine ⟨(by kernel_rfl), ?_⟩
  (conv=>whnf)
  refine G_count n.ports.length (fun j => [(2, .ptr 2 0), (3, .ptr 3 0), (36, intSV n.ports.length), (37, intSV j)]) (fun _ => [(2, .box [.val (.slice none 0 0), .val (.slice none 0 0), .val (.slice none 0 0), .val (.slice none 0 0), .val (.slice none 0 0), .val (.slice none 0 0), .val (.slice none 0 0), .val (.slice none 0 0)]), (3, .box [.sl 5 deviceSV n.devices, .osl 14, .sl 3 linkSV n.links, .osl 20, .sl 4 staticSV n.statics, .osl 26, .osl 29, .sl 5 irbSV n.irbs]), (14, .row 7 portSV n.ports), (20, .row 6 domainSV n.domains), (26, .row 4 floodSV n.floods), (29, .row 5 vrfSV n.vrfs)]) []
    ⟨⟨rfl, rfl, rfl, rfl, rfl, rfl, rfl, rfl, trivial⟩, ⟨.inl rfl, rfl, .inl rfl, rfl, .inl rfl, rfl, .inl rfl, rfl, .inl rfl, rfl, .inl rfl, rfl, trivial⟩, rfl, rfl⟩ ?_
  intro j hj
  (refine rg ?_;(conv=>whnf))
  refine ⟨fun h => ?_, fun h => ?_⟩
  · have hlt : j < n.ports.length := by simpa using h
    obtain ⟨p, hp⟩ : ∃ p, n.ports[(j : Int).toNat]'(by omega) = p := ⟨_, rfl⟩
    have hne : n.ports ≠ [] := fun e => by rw [e] at hlt; cases hlt
    have hset : n.ports.set (j : Int).toNat p = n.ports := by rw [← hp]; exact List.set_getElem_self _
    have hpl := h2.1 p (by rw [← hp]; exact List.getElem_mem _)
    (refine rg ?_;(conv=>whnf))
    refine ⟨by omega, by show _ < n.ports.length; omega, ?_⟩
    (conv=>whnf)
    refine ⟨hne, ?_⟩
    (conv=>whnf)
    refine ⟨rfl, by omega, ?_⟩
    rw [hp]
    (conv=>whnf)
    refine callD0 (cloneIntS p.tagged hpl) F95 rfl rfl rfl (by kernel_rfl) rfl ?_
    (refine rd (by kernel_rfl) ?_;(conv=>whnf))
    refine ⟨by omega, by show _ < n.ports.length; omega, ?_⟩
    (conv=>whnf)
    refine ⟨hne, ?_⟩
    (conv=>whnf)
    refine ⟨rfl, by omega, p, (by rw [hp]; rfl), (by rw [hp]; rfl), ?_⟩
    (conv=>whnf)
    refine ⟨(by kernel_rfl), ?_⟩
    (conv=>whnf)
    refine ⟨by unfold I64; omega, ?_⟩
    (conv=>whnf)
    exact G_next [] hlt ⟨⟨rfl, rfl, rfl, rfl, rfl, rfl, rfl, rfl, trivial⟩, ⟨.inl rfl, rfl, .inl rfl, rfl, .inl (congrArg (Ob.row 7 portSV) hset.symm), rfl, .inl rfl, rfl, .inl rfl, rfl, .inl rfl, rfl, trivial⟩, rfl, rfl⟩
  · (refine rg ?_;(conv=>whnf))
    refine G_count n.domains.length (fun j => [(2, .ptr 2 0), (3, .ptr 3 0), (55, intSV n.domains.length), (56, intSV j)]) (fun _ => [(2, .box [.val (.slice none 0 0), .val (.slice none 0 0), .val (.slice none 0 0), .val (.slice none 0 0), .val (.slice none 0 0), .val (.slice none 0 0), .val (.slice none 0 0), .val (.slice none 0 0)]), (3, .box [.sl 5 deviceSV n.devices, .osl 14, .sl 3 linkSV n.links, .osl 20, .sl 4 staticSV n.statics, .osl 26, .osl 29, .sl 5 irbSV n.irbs]), (14, .row 7 portSV n.ports), (20, .row 6 domainSV n.domains), (26, .row 4 floodSV n.floods), (29, .row 5 vrfSV n.vrfs)]) []
      ⟨⟨rfl, rfl, rfl, rfl, rfl, rfl, rfl, rfl, trivial⟩, ⟨.inl rfl, rfl, .inl rfl, rfl, .inl rfl, rfl, .inl rfl, rfl, .inl rfl, rfl, .inl rfl, rfl, trivial⟩, rfl, rfl⟩ ?_
    intro j hj
    (refine rg ?_;(conv=>whnf))
    refine ⟨fun h => ?_, fun h => ?_⟩
    · have hlt : j < n.domains.length := by simpa using h
      obtain ⟨p, hp⟩ : ∃ p, n.domains[(j : Int).toNat]'(by omega) = p := ⟨_, rfl⟩
      have hne : n.domains ≠ [] := fun e => by rw [e] at hlt; cases hlt
      have hset : n.domains.set (j : Int).toNat p = n.domains := by rw [← hp]; exact List.set_getElem_self _
      have hpl := h2.2.1 p (by rw [← hp]; exact List.getElem_mem _)
      (refine rg ?_;(conv=>whnf))
      refine ⟨by omega, by show _ < n.domains.length; omega, ?_⟩
      (conv=>whnf)
      refine ⟨hne, ?_⟩
      (conv=>whnf)
      refine ⟨rfl, by omega, ?_⟩
      rw [hp]
      (conv=>whnf)
      refine callD0 (cloneIntS p.peers hpl) F95 rfl rfl rfl (by kernel_rfl) rfl ?_
      (refine rd (by kernel_rfl) ?_;(conv=>whnf))
      refine ⟨by omega, by show _ < n.domains.length; omega, ?_⟩
      (conv=>whnf)
      refine ⟨hne, ?_⟩
      (conv=>whnf)
      refine ⟨rfl, by omega, p, (by rw [hp]; rfl), (by rw [hp]; rfl), ?_⟩
      (conv=>whnf)
      refine ⟨(by kernel_rfl), ?_⟩
      (conv=>whnf)
      refine ⟨by unfold I64; omega, ?_⟩
      (conv=>whnf)
      exact G_next [] hlt ⟨⟨rfl, rfl, rfl, rfl, rfl, rfl, rfl, rfl, trivial⟩, ⟨.inl rfl, rfl, .inl rfl, rfl, .inl rfl, rfl, .inl (congrArg (Ob.row 6 domainSV) hset.symm), rfl, .inl rfl, rfl, .inl rfl, rfl, trivial⟩, rfl, rfl⟩
    · (refine rg ?_;(conv=>whnf))
      refine G_count n.floods.length (fun j => [(2, .ptr 2 0), (3, .ptr 3 0), (74, intSV n.floods.length), (75, intSV j)]) (fun _ => [(2, .box [.val (.slice none 0 0), .val (.slice none 0 0), .val (.slice none 0 0), .val (.slice none 0 0), .val (.slice none 0 0), .val (.slice none 0 0), .val (.slice none 0 0), .val (.slice none 0 0)]), (3, .box [.sl 5 deviceSV n.devices, .osl 14, .sl 3 linkSV n.links, .osl 20, .sl 4 staticSV n.statics, .osl 26, .osl 29, .sl 5 irbSV n.irbs]), (14, .row 7 portSV n.ports), (20, .row 6 domainSV n.domains), (26, .row 4 floodSV n.floods), (29, .row 5 vrfSV n.vrfs)]) []
        ⟨⟨rfl, rfl, rfl, rfl, rfl, rfl, rfl, rfl, trivial⟩, ⟨.inl rfl, rfl, .inl rfl, rfl, .inl rfl, rfl, .inl rfl, rfl, .inl rfl, rfl, .inl rfl, rfl, trivial⟩, rfl, rfl⟩ ?_
      intro j hj
      (refine rg ?_;(conv=>whnf))
      refine ⟨fun h => ?_, fun h => ?_⟩
      · have hlt : j < n.floods.length := by simpa using h
        obtain ⟨p, hp⟩ : ∃ p, n.floods[(j : Int).toNat]'(by omega) = p := ⟨_, rfl⟩
        have hne : n.floods ≠ [] := fun e => by rw [e] at hlt; cases hlt
        have hset : n.floods.set (j : Int).toNat p = n.floods := by rw [← hp]; exact List.set_getElem_self _
        have hpl := h2.2.2.1 p (by rw [← hp]; exact List.getElem_mem _)
        (refine rg ?_;(conv=>whnf))
        refine ⟨by omega, by show _ < n.floods.length; omega, ?_⟩
        (conv=>whnf)
        refine ⟨hne, ?_⟩
        (conv=>whnf)
        refine ⟨rfl, by omega, ?_⟩
        rw [hp]
        (conv=>whnf)
        refine callD0 (cloneU32S p.addrs hpl) F96 rfl rfl rfl (by kernel_rfl) rfl ?_
        (refine rd (by kernel_rfl) ?_;(conv=>whnf))
        refine ⟨by omega, by show _ < n.floods.length; omega, ?_⟩
        (conv=>whnf)
        refine ⟨hne, ?_⟩
        (conv=>whnf)
        refine ⟨rfl, by omega, p, (by rw [hp]; rfl), (by rw [hp]; rfl), ?_⟩
        (conv=>whnf)
        refine ⟨(by kernel_rfl), ?_⟩
        (conv=>whnf)
        refine ⟨by unfold I64; omega, ?_⟩
        (conv=>whnf)
        exact G_next [] hlt ⟨⟨rfl, rfl, rfl, rfl, rfl, rfl, rfl, rfl, trivial⟩, ⟨.inl rfl, rfl, .inl rfl, rfl, .inl rfl, rfl, .inl rfl, rfl, .inl (congrArg (Ob.row 4 floodSV) hset.symm), rfl, .inl rfl, rfl, trivial⟩, rfl, rfl⟩
      · (refine rg ?_;(conv=>whnf))
        refine G_count n.vrfs.length (fun j => [(2, .ptr 2 0), (3, .ptr 3 0), (93, intSV n.vrfs.length), (94, intSV j)]) (fun _ => [(2, .box [.val (.slice none 0 0), .val (.slice none 0 0), .val (.slice none 0 0), .val (.slice none 0 0), .val (.slice none 0 0), .val (.slice none 0 0), .val (.slice none 0 0), .val (.slice none 0 0)]), (3, .box [.sl 5 deviceSV n.devices, .osl 14, .sl 3 linkSV n.links, .osl 20, .sl 4 staticSV n.statics, .osl 26, .osl 29, .sl 5 irbSV n.irbs]), (14, .row 7 portSV n.ports), (20, .row 6 domainSV n.domains), (26, .row 4 floodSV n.floods), (29, .row 5 vrfSV n.vrfs)]) []
          ⟨⟨rfl, rfl, rfl, rfl, rfl, rfl, rfl, rfl, trivial⟩, ⟨.inl rfl, rfl, .inl rfl, rfl, .inl rfl, rfl, .inl rfl, rfl, .inl rfl, rfl, .inl rfl, rfl, trivial⟩, rfl, rfl⟩ ?_
        intro j hj
        (refine rg ?_;(conv=>whnf))
        refine ⟨fun h => ?_, fun h => ?_⟩
        · have hlt : j < n.vrfs.length := by simpa using h
          obtain ⟨p, hp⟩ : ∃ p, n.vrfs[(j : Int).toNat]'(by omega) = p := ⟨_, rfl⟩
          have hne : n.vrfs ≠ [] := fun e => by rw [e] at hlt; cases hlt
          have hset : n.vrfs.set (j : Int).toNat p = n.vrfs := by rw [← hp]; exact List.set_getElem_self _
          have hpl := h2.2.2.2 p (by rw [← hp]; exact List.getElem_mem _)
          (refine rg ?_;(conv=>whnf))
          have hne2 : n.vrfs.set (j : Int).toNat p ≠ [] := by rw [hset]; exact hne
          have hp2 : (n.vrfs.set (j : Int).toNat p)[(j : Int).toNat]'(by rw [hset]; omega) = p := by simp
          have hset2 : (n.vrfs.set (j : Int).toNat p).set (j : Int).toNat p = n.vrfs := by rw [hset, hset]
          refine ⟨by omega, by show _ < n.vrfs.length; omega, ?_⟩
          (conv=>whnf)
          refine stepD (good_nilCheck rfl (.inr (.inr (.inr ⟨29, 5, _, 0, rfl, fun κ w h => row_there hne h, rfl⟩)))) (by kernel_rfl) rfl ?_
          (refine rd (by kernel_rfl) ?_;(conv=>whnf))
          refine ⟨hne, ?_⟩
          (conv=>whnf)
          refine ⟨rfl, by omega, ?_⟩
          rw [hp]
          (conv=>whnf)
          refine callD0 (cloneIntS p.imports hpl.1) F95 rfl rfl rfl (by kernel_rfl) rfl ?_
          (refine rd (by kernel_rfl) ?_;(conv=>whnf))
          refine stepD (good_nilCheck rfl (.inr (.inr (.inr ⟨29, 5, _, 0, rfl, fun κ w h => row_there hne h, rfl⟩)))) (by kernel_rfl) rfl ?_
          (refine rd (by kernel_rfl) ?_;(conv=>whnf))
          refine ⟨hne, ?_⟩
          (conv=>whnf)
          refine ⟨rfl, by omega, ?_⟩
          rw [hp]
          (conv=>whnf)
          refine callD0 (cloneIntS p.exports hpl.2) F95 rfl rfl rfl (by kernel_rfl) rfl ?_
          (refine rd (by kernel_rfl) ?_;(conv=>whnf))
          refine stepD (good_nilCheck rfl (.inr (.inr (.inr ⟨29, 5, _, 0, rfl, fun κ w h => row_there hne h, rfl⟩)))) (by kernel_rfl) rfl ?_
          (refine rd (by kernel_rfl) ?_;(conv=>whnf))
          refine ⟨hne, ?_⟩
          (conv=>whnf)
          refine ⟨rfl, by omega, p, (by rw [hp]; rfl), (by rw [hp]; rfl), ?_⟩
          (conv=>whnf)
          refine stepD (good_nilCheck rfl (.inr (.inr (.inr ⟨29, 5, _, 0, rfl, fun κ w h => row_there hne2 h, rfl⟩)))) (by kernel_rfl) rfl ?_
          (refine rd (by kernel_rfl) ?_;(conv=>whnf))
          refine ⟨hne2, ?_⟩
          (conv=>whnf)
          refine ⟨rfl, by rw [hset]; omega, p, (by rw [hp2]; rfl), (by rw [hp2]; rfl), ?_⟩
          (conv=>whnf)
          refine ⟨(by kernel_rfl), ?_⟩
          (conv=>whnf)
          refine ⟨by unfold I64; omega, ?_⟩
          (conv=>whnf)
          exact G_next [] hlt ⟨⟨rfl, rfl, rfl, rfl, rfl, rfl, rfl, rfl, trivial⟩, ⟨.inl rfl, rfl, .inl rfl, rfl, .inl rfl, rfl, .inl rfl, rfl, .inl rfl, rfl, .inl (congrArg (Ob.row 5 vrfSV) hset2.symm), rfl, trivial⟩, rfl, rfl⟩
        · (refine rg ?_;(conv=>whnf))
          refine G_data 14 rfl ?_
          refine G_data 20 rfl ?_
          refine G_data 26 rfl ?_
          refine G_data 29 rfl ?_
          exact done0 rfl (.cons (.cell rfl rfl rfl rfl) .nil) rfl rfl
end Go.Sy.YtmelpejjondedaaGreat

namespace Go.Sy.YtmelpejjondedaaGreat
open Go.Proofs
attribute [local irreducible] Go.Sy.G Go.Sy.DR
set_option maxRecDepth 100000
set_option maxHeartbeats 4000000
theorem cloneByteS (l : List UInt8) (hl : l.length < 2147483648) : Sy.Spec Tryz.prog 63 [.sl 1 byteSV l] [] (.sl 1 byteSV l) [] := contract Γ hm 100 F63 Tryz.ntmps63 rfl fun F hF => by
  (conv=>whnf)
  refine stepNil rfl (.inl rfl) rfl rfl rfl .sl rfl rfl ?_
  intro b hb
  cases b
  · (refine rg ?_;(conv=>whnf);refine aF ?_;refine rg ?_;(conv=>whnf))
    refine stepOp (good_appendT Γ.toTy 7 rfl rfl rfl rfl rfl (.lit (e := byteSV) (l := []) rfl rfl) .sl (by simp) (by simp; omega) (by simp; omega)) rfl rfl ?_
    refine G_data 7 rfl ?_
    (refine rg ?_;(conv=>whnf))
    exact done0 rfl (.cons .tmp .nil) rfl rfl
  · have h0 : l = [] := List.eq_nil_of_length_eq_zero (hb rfl)
    subst h0
    (refine rg ?_;(conv=>whnf);refine aT ?_;refine rg ?_;(conv=>whnf))
    refine G_nilsl 2 1 byteSV rfl ?_
    exact done0 rfl (.cons .tmp .nil) rfl rfl
theorem cut6 (b : List UInt8) (k j : Nat) (hj : j < 6) (h : k + 6 ≤ b.length) : unbe (((b.drop k).take 6).take (j + 1)) = unbe (((b.drop k).take 6).take j) * 256 + (b[k + j]'(by omega)).toNat := by
  rw [unbe_take _ (by rw [List.length_take, List.length_drop]; omega)]
  congr 2
  rw [List.getElem_take, List.getElem_drop]
theorem macTakeS (b : List UInt8) (k : Nat) (h : k + 6 ≤ b.length) (hb : b.length < 100000) : Sy.Spec Tryz.prog 237 [.sl 1 byteSV b, intSV k] [] (.tup [u64SV (unbe ((b.drop k).take 6)), boolSV true]) [] := contract Γ hm 100 F237 Tryz.ntmps237 rfl fun F hF => by
  ((conv=>whnf);refine aF ?_;refine rg ?_;(conv=>whnf))
  refine ⟨by unfold I64; omega, ?_⟩
  (conv=>whnf)
  (refine ⟨fun h => False.elim (by simp at h; omega), fun _ => ?_⟩;refine rg ?_;(conv=>whnf))
  refine G_count 6 (fun j => [(0, .sl 1 byteSV b), (1, intSV k), (6, u64SV (unbe (((b.drop k).take 6).take j))), (17, intSV j)]) (fun _ => []) [] ⟨⟨rfl, rfl, rfl, rfl, rfl, rfl, rfl, rfl, trivial⟩, trivial, rfl, rfl⟩ ?_
  intro j hj
  have hlt2 := unbe_lt _ (((b.drop k).take 6).take j) rfl
  (refine rg ?_;(conv=>whnf))
  refine ⟨fun h2 => ?_, fun h2 => ?_⟩
  · have hj6 : j < 6 := by have := of_decide_eq_true h2; omega
    have hs := cut6 b k j hj6 h
    have hll : (((b.drop k).take 6).take j).length = j := by rw [List.length_take, List.length_take, List.length_drop]; omega
    rw [hll] at hlt2
    have h5 : unbe (((b.drop k).take 6).take j) < 1099511627776 := Nat.lt_of_lt_of_le hlt2 (by
      have : (256 : Nat) ^ j ≤ 256 ^ 5 := Nat.pow_le_pow_right (by decide) (by omega)
      exact this)
    have hi0 : ((k : Int) + (j : Int)).toNat < b.length := by omega
    obtain ⟨c, hc⟩ : ∃ c, b[((k : Int) + (j : Int)).toNat]'hi0 = c := ⟨_, rfl⟩
    have hc' : b[k + j]'(by omega) = c := by rw [← hc]; congr 1
    rw [hc'] at hs
    have hcat := u64_cat _ c h5
    (refine rg ?_;(conv=>whnf))
    refine ⟨by decide, ?_⟩
    (conv=>whnf)
    refine ⟨by unfold I64; omega, ?_⟩
    (conv=>whnf)
    refine ⟨rfl, by omega, hi0, ?_⟩
    rw [hc]
    (conv=>whnf)
    refine ⟨by unfold I64; omega, ?_⟩
    (conv=>whnf)
    exact G_next [] hj6 ⟨⟨rfl, rfl, rfl, rfl, congrArg (fun z : Int => SV.val (.int .u64 z)) (hcat.trans (congrArg Int.ofNat hs.symm)).symm, rfl, rfl, rfl, trivial⟩, trivial, rfl, rfl⟩
  · have hj6 : j = 6 := by have := of_decide_eq_false h2; omega
    subst hj6
    rw [List.take_take, Nat.min_self]
    (refine rg ?_;(conv=>whnf))
    exact done0 rfl (.cons .tmp (.cons .tmp .nil)) rfl rfl
theorem unbe2 (a b : UInt8) : unbe [a, b] = a.toNat * 256 + b.toNat := by simp [unbe]
theorem take2_at {b : List UInt8} {k : Nat} (h : k + 2 ≤ b.length) : (b.drop k).take 2 = [b[k]'(by omega), b[k + 1]'(by omega)] := by
  rw [List.drop_eq_getElem_cons (by omega : k < b.length), List.drop_eq_getElem_cons (by omega : k + 1 < b.length)]; rfl
theorem etherTakeS (b : List UInt8) (hb : b.length < 100000) : Sy.Spec Tryz.prog 165 [.sl 1 byteSV b] [] (.tup [frameSV (takeF b).1, intSV (takeF b).2]) [] := contract Γ hm 100 F165 Tryz.ntmps165 rfl fun F hF => by
  have hres := takeF.eq_1 b
  generalize takeF b = res at *
  (conv=>whnf)
  refine ⟨fun h => ?_, fun h => ?_⟩
  · rw [if_pos (by have := of_decide_eq_true h; omega)] at hres
    subst hres
    (refine rg ?_;(conv=>whnf))
    refine G_boxV 2 [u64SV 0, u64SV 0, intSV 0, .sl 1 byteSV []] rfl (.cons (.refl _) (.cons (.refl _) (.cons (.refl _) (.cons .nil .nil)))) ?_
    exact done0 rfl (.cons (.cell rfl rfl rfl rfl) (.cons .tmp .nil)) rfl rfl
  rw [if_neg (by have := of_decide_eq_false h; omega)] at hres
  have h14 : 14 ≤ b.length := by have := of_decide_eq_false h; omega
  (refine rg ?_;(conv=>whnf))
  refine ⟨fun h => ?_, fun h => ?_⟩
  · rw [if_pos (by have := of_decide_eq_true h; omega)] at hres
    subst hres
    (refine rg ?_;(conv=>whnf))
    refine G_boxV 2 [u64SV 0, u64SV 0, intSV 0, .sl 1 byteSV []] rfl (.cons (.refl _) (.cons (.refl _) (.cons (.refl _) (.cons .nil .nil)))) ?_
    exact done0 rfl (.cons (.cell rfl rfl rfl rfl) (.cons .tmp .nil)) rfl rfl
  rw [if_neg (by have := of_decide_eq_false h; omega)] at hres
  have q1 := macTakeS b 0 (by omega) hb
  have q2 := macTakeS b 6 (by omega) hb
  rw [take2_at (by omega), unbe2] at hres
  have hp := byte_pair (b[12]'(by omega)) (b[13]'(by omega))
  have hdl : (b.drop 14).length = b.length - 14 := List.length_drop
  have hn : ((b.length : Int) - 14) = ((b.length - 14 : Nat) : Int) := by omega
  have hcp : (b.drop 14).take (List.replicate (b.length - 14) (0 : UInt8)).length ++ (List.replicate (b.length - 14) (0 : UInt8)).drop (b.drop 14).length = b.drop 14 := by
    have e1 : (List.replicate (b.length - 14) (0 : UInt8)).drop (b.length - 14) = [] := List.drop_eq_nil_of_le (by simp)
    rw [List.length_replicate, hdl, e1, List.append_nil]
    exact List.take_of_length_le (by omega)
  have etk : (b.take b.length).drop 14 = b.drop 14 := by rw [List.take_length]
  have i12 : (12 : Int).toNat < b.length := by show 12 < _; omega
  have i13 : (13 : Int).toNat < b.length := by show 13 < _; omega
  (refine rg ?_;(conv=>whnf))
  refine call0 q1 F237 rfl rfl rfl rfl rfl ?_
  (refine rg ?_;(conv=>whnf))
  refine call0 q2 F237 rfl rfl rfl rfl rfl ?_
  (refine rg ?_;(conv=>whnf))
  refine ⟨by unfold I64; omega, ?_⟩
  (conv=>whnf)
  refine stepOp (good_makeSlice Γ.toTy (d := 32) (n := b.length - 14) byteSV 0 rfl rfl rfl rfl rfl rfl (congrArg (fun z => SV.val (.int .i64 z)) hn) (congrArg (fun z => SV.val (.int .i64 z)) hn) (by omega) (by omega) rfl rfl rfl) rfl rfl ?_
  (refine rg ?_;(conv=>whnf))
  refine stepOp (good_slice_sl (lo := 14) (hi := b.length) Γ.toTy rfl rfl rfl rfl (.inr ⟨_, _, rfl, rfl⟩) (.inl ⟨rfl, rfl⟩) (by omega) (Nat.le_refl _)) rfl rfl ?_
  rw [etk]
  (refine rg ?_;(conv=>whnf))
  refine stepOp (good_copy Γ.toTy rfl rfl rfl rfl rfl .sl) rfl rfl ?_
  rw [hcp]
  refine G_data 32 rfl ?_
  (refine rg ?_;(conv=>whnf))
  refine ⟨rfl, by decide, i12, ?_⟩
  (conv=>whnf)
  refine ⟨by decide, ?_⟩
  (conv=>whnf)
  refine ⟨rfl, by decide, i13, ?_⟩
  (conv=>whnf)
  refine ⟨(by kernel_rfl), ?_⟩
  (conv=>whnf)
  refine done0 rfl (.cons (.cell rfl rfl rfl rfl) (.cons .tmp .nil)) ?_ rfl
  rw [hres]
  show SV.tup [.agg [_, _, intSV ((b[12].toNat * 256 + b[13].toNat : Nat) : Int), _], _] = _
  rw [← hp]
  rfl
end Go.Sy.YtmelpejjondedaaGreat

namespace Go.Sy.YtmelpejjondedaaGreat
open Go.Proofs
attribute [local irreducible] Go.Sy.G Go.Sy.DR
set_option maxRecDepth 100000
set_option maxHeartbeats 4000000
theorem macGroupS (m : Nat) (h : m < 18446744073709551616) : Sy.Spec Tryz.prog 162 [u64SV m] [] (boolSV (groupB m)) [] := contract Γ hm 100 F162 Tryz.ntmps162 rfl fun F hF => by
  have e := group_and m h
  (conv=>whnf)
  refine done0 rfl (.cons .tmp .nil) ?_ rfl
  exact congrArg boolSV e.symm
theorem tagIs2S (f : FrameM) : Sy.Spec Tryz.prog 166 [frameSV f] [] (boolSV (decide (f.typ = 33024))) [] := contract Γ hm 100 F166 Tryz.ntmps166 rfl fun F hF => by
  (conv=>whnf)
  refine done0 rfl (.cons .tmp .nil) ?_ rfl
  refine congrArg boolSV ?_
  rw [Bool.eq_iff_iff]; simp; omega
theorem enterVlanS (p : Port) (tg : Bool) (vid : Int) (hl : Short p.tagged) : Sy.Spec Tryz.prog 168 [portSV p, boolSV tg, intSV vid] [] (.tup [intSV (vlanT p tg vid).1, boolSV (vlanT p tg vid).2]) [] := contract Γ hm 100 F168 Tryz.ntmps168 rfl fun F hF => by
  have hres := vlanT.eq_1 p tg vid
  generalize vlanT p tg vid = res at *
  have q := containsS p.tagged vid hl
  have hz : decide (p.native ≠ 0) = (p.native != 0) := by rw [Bool.eq_iff_iff]; simp
  rw [hz] at hres
  cases tg
  · rw [if_pos (.inl rfl)] at hres
    subst hres
    ((conv=>whnf);refine aT ?_;refine rg ?_;(conv=>whnf))
    refine ⟨(by kernel_rfl), ?_⟩
    (conv=>whnf)
    exact done0 rfl (.cons .tmp (.cons .tmp .nil)) rfl rfl
  ((conv=>whnf);refine aF ?_;refine rg ?_;(conv=>whnf))
  refine ⟨fun h => ?_, fun h => ?_⟩
  · rw [if_pos (.inr (by simpa using h))] at hres
    subst hres
    (refine rg ?_;(conv=>whnf))
    refine ⟨(by kernel_rfl), ?_⟩
    (conv=>whnf)
    exact done0 rfl (.cons .tmp (.cons .tmp .nil)) rfl rfl
  rw [if_neg (by simpa using h)] at hres
  (refine rg ?_;(conv=>whnf))
  refine call0 q F86 rfl rfl rfl rfl rfl ?_
  cases hi : inB p.tagged vid
  · rw [if_neg (by simp [hi])] at hres
    subst hres
    (refine rg ?_;(conv=>whnf);refine aF ?_;refine rg ?_;(conv=>whnf))
    exact done0 rfl (.cons .tmp (.cons .tmp .nil)) rfl rfl
  · rw [if_pos hi] at hres
    subst hres
    (refine rg ?_;(conv=>whnf);refine aT ?_;refine rg ?_;(conv=>whnf))
    exact done0 rfl (.cons .tmp (.cons .tmp .nil)) rfl rfl
end Go.Sy.YtmelpejjondedaaGreat

namespace Go.Sy.YtmelpejjondedaaGreat
open Go.Proofs
attribute [local irreducible] Go.Sy.G Go.Sy.DR
set_option maxRecDepth 100000
set_option maxHeartbeats 4000000
theorem and_4095 (n : Nat) (h : n < 9223372036854775808) : bits .and .i64 (n : Int) 4095 = ((n % 4096 : Nat) : Int) := by
  have := bits_and_i64_nat n 4095 h (by decide)
  rw [show ((4095 : Nat) : Int) = 4095 from rfl] at this
  rw [this]
  have h2 := Nat.and_two_pow_sub_one_eq_mod n 12
  rw [show 2 ^ 12 - 1 = 4095 from rfl, show 2 ^ 12 = 4096 from rfl] at h2
  rw [h2]
theorem at_two {b : List UInt8} (h : 4 ≤ b.length) : b.take 2 = [b[0]'(by omega), b[1]'(by omega)] ∧ (b.drop 2).take 2 = [b[2]'(by omega), b[3]'(by omega)] := by
  have h1 := take2_at (b := b) (k := 0) (by omega)
  have h2 := take2_at (b := b) (k := 2) (by omega)
  exact ⟨h1, h2⟩
abbrev zF : List SV := [u64SV 0, u64SV 0, intSV 0, .sl 1 byteSV []]
theorem tagStripS (f : FrameM) (hb : f.body.length < 100000) : Sy.Spec Tryz.prog 167 [frameSV f] [] (.tup [frameSV (stripT f).1, intSV (stripT f).2.1, intSV (stripT f).2.2.1, intSV (stripT f).2.2.2]) [] := contract Γ hm 100 F167 Tryz.ntmps167 rfl fun F hF => by
  have hres := stripT.eq_1 f
  generalize stripT f = res at *
  have q0 := tagIs2S f
  obtain ⟨d, s, t, b⟩ := f
  dsimp only at hres hb q0
  (conv=>whnf)
  refine call0 q0 F166 rfl rfl rfl rfl rfl ?_
  by_cases ht : t = 33024
  rotate_left
  · rw [if_pos ht] at hres
    subst hres
    rw [decide_eq_false ht]
    (refine rg ?_;(conv=>whnf);refine aT ?_;refine rg ?_;(conv=>whnf))
    refine G_boxV 2 zF rfl (.cons (.refl _) (.cons (.refl _) (.cons (.refl _) (.cons .nil .nil)))) ?_
    exact done0 rfl (.cons (.cell rfl rfl rfl rfl) (.cons .tmp (.cons .tmp (.cons .tmp .nil)))) rfl rfl
  rw [if_neg (by simpa using ht)] at hres
  rw [decide_eq_true ht]
  (refine rg ?_;(conv=>whnf);refine aF ?_;refine rg ?_;(conv=>whnf))
  refine ⟨fun h => ?_, fun h => ?_⟩
  · rw [if_pos (by have := of_decide_eq_true h; dsimp only at this; omega)] at hres
    subst hres
    (refine rg ?_;(conv=>whnf))
    refine G_boxV 2 zF rfl (.cons (.refl _) (.cons (.refl _) (.cons (.refl _) (.cons .nil .nil)))) ?_
    exact done0 rfl (.cons (.cell rfl rfl rfl rfl) (.cons .tmp (.cons .tmp (.cons .tmp .nil)))) rfl rfl
  have h4 : 4 ≤ b.length := by have := of_decide_eq_false h; dsimp only at this; omega
  rw [if_neg (by omega), (at_two h4).1, (at_two h4).2, unbe2, unbe2] at hres
  have c1 := cloneByteS (b.drop 4) (by rw [List.length_drop]; omega)
  have etk : (b.take b.length).drop 4 = b.drop 4 := by rw [List.take_length]
  rw [← etk] at c1
  have i0 : (0 : Int).toNat < b.length := by show 0 < _; omega
  have i1 : (1 : Int).toNat < b.length := by show 1 < _; omega
  have i2 : (2 : Int).toNat < b.length := by show 2 < _; omega
  have i3 : (3 : Int).toNat < b.length := by show 3 < _; omega
  have e0 : b[(0 : Int).toNat]'i0 = b[0]'(by omega) := rfl
  have e1 : b[(1 : Int).toNat]'i1 = b[1]'(by omega) := rfl
  have e2 : b[(2 : Int).toNat]'i2 = b[2]'(by omega) := rfl
  have e3 : b[(3 : Int).toNat]'i3 = b[3]'(by omega) := rfl
  have hp1 := byte_pair (b[0]'(by omega)) (b[1]'(by omega))
  have hp2 := byte_pair (b[2]'(by omega)) (b[3]'(by omega))
  have l0 := (b[0]'(by omega)).toNat_lt
  have l1 := (b[1]'(by omega)).toNat_lt
  obtain ⟨P, hP⟩ : ∃ P, (b[0]'(by omega)).toNat * 256 + (b[1]'(by omega)).toNat = P := ⟨_, rfl⟩
  obtain ⟨Q, hQ⟩ : ∃ Q, (b[2]'(by omega)).toNat * 256 + (b[3]'(by omega)).toNat = Q := ⟨_, rfl⟩
  have hPl : P < 65536 := by omega
  rw [hP] at hp1 hres
  rw [hQ] at hp2 hres
  have ha := and_4095 P (by omega)
  have hs : (P : Int).fdiv (2 ^ (min (Int.toNat 12) IntKind.i64.bits)) = ((P / 4096 : Nat) : Int) := shr_nat P 12 (by decide)
  (refine rg ?_;(conv=>whnf))
  refine ⟨rfl, by decide, i0, ?_⟩
  rw [e0]
  (conv=>whnf)
  refine ⟨by decide, ?_⟩
  (conv=>whnf)
  refine ⟨rfl, by decide, i1, ?_⟩
  rw [e1]
  (conv=>whnf)
  refine ⟨(by kernel_rfl), ?_⟩
  rw [hp1]
  (conv=>whnf)
  refine ⟨rfl, by decide, i2, ?_⟩
  rw [e2]
  (conv=>whnf)
  refine ⟨by decide, ?_⟩
  (conv=>whnf)
  refine ⟨rfl, by decide, i3, ?_⟩
  rw [e3]
  (conv=>whnf)
  refine ⟨(by kernel_rfl), ?_⟩
  rw [hp2]
  (conv=>whnf)
  refine ⟨by decide, ?_⟩
  rw [ha, hs]
  (conv=>whnf)
  refine ⟨fun h => ?_, fun h => ?_⟩
  · rw [if_pos (.inl (by have := of_decide_eq_true h; omega))] at hres
    subst hres
    (refine rg ?_;(conv=>whnf))
    refine G_boxV 2 zF rfl (.cons (.refl _) (.cons (.refl _) (.cons (.refl _) (.cons .nil .nil)))) ?_
    exact done0 rfl (.cons (.cell rfl rfl rfl rfl) (.cons .tmp (.cons .tmp (.cons .tmp .nil)))) rfl rfl
  have h5 : ¬ 4094 < P % 4096 := by have := of_decide_eq_false h; omega
  (refine rg ?_;(conv=>whnf))
  refine ⟨fun h => ?_, fun h => ?_⟩
  · rw [if_pos (.inr (by have : (Q : Int) = 33024 := by simpa using h
                         omega))] at hres
    subst hres
    (refine rg ?_;(conv=>whnf))
    refine G_boxV 2 zF rfl (.cons (.refl _) (.cons (.refl _) (.cons (.refl _) (.cons .nil .nil)))) ?_
    exact done0 rfl (.cons (.cell rfl rfl rfl rfl) (.cons .tmp (.cons .tmp (.cons .tmp .nil)))) rfl rfl
  have h6 : ¬ Q = 33024 := fun e => by rw [e] at h; simp at h
  rw [if_neg (by omega)] at hres
  subst hres
  (refine rg ?_;(conv=>whnf))
  refine stepD (good_slice_sl (lo := 4) (hi := b.length) Γ.toTy rfl rfl rfl rfl (.inr ⟨_, _, rfl, rfl⟩) (.inl ⟨rfl, rfl⟩) h4 (Nat.le_refl _)) (by kernel_rfl) rfl ?_
  (refine rd (by kernel_rfl) ?_;(conv=>whnf))
  refine callD0 c1 F63 rfl rfl rfl (by kernel_rfl) rfl ?_
  (refine rd (by kernel_rfl) ?_;(conv=>whnf))
  refine ⟨(by kernel_rfl), ?_⟩
  (conv=>whnf)
  refine done0 rfl (.cons (.cell rfl rfl rfl rfl) (.cons .tmp (.cons .tmp (.cons .tmp .nil)))) ?_ rfl
  show SV.tup [.agg [_, _, _, .sl 1 byteSV (b.drop 4)], _, _, _] = SV.tup [.agg [_, _, _, .sl 1 byteSV ((b.take b.length).drop 4)], _, _, _]
  rw [etk]
  rfl
theorem etherPutS (f : FrameM) (h : FrameOK f) : Sy.Spec Tryz.prog 33 [frameSV f] [] (.tup [.osl 0, intSV 0]) [(0, .row 1 byteSV (putF f))] := etherPut_ok f.dst f.src f.typ f.body h.dst h.src h.typ h.body
theorem tagAdd2S (f : FrameM) (v : Nat) (h : FrameOK f) (hv : v ≤ 4094) : Sy.Spec Tryz.prog 308 [frameSV f, intSV v, intSV 0] [] (.tup [frameSV (tagT f v).1, intSV (tagT f v).2]) [] := by
  have hres := tagT.eq_1 f v
  have q0 := tagIs2S f
  obtain ⟨d, s, t, b⟩ := f
  have h1 := h.typ
  have h2 := h.body
  dsimp only at hres q0 h1 h2
  by_cases ht : t = 33024
  · rw [if_pos ht] at hres
    rw [hres]
    rw [decide_eq_true ht] at q0
    refine contract Γ hm 100 F308 Tryz.ntmps308 rfl fun F hF => by
      (conv=>whnf)
      refine call0 q0 F166 rfl rfl rfl rfl rfl ?_
      (refine rg ?_;(conv=>whnf);refine aT ?_;refine rg ?_;(conv=>whnf);refine aT ?_;refine rg ?_;(conv=>whnf);refine aT ?_;refine rg ?_;(conv=>whnf);refine aT ?_;refine rg ?_;(conv=>whnf);refine aT ?_;refine rg ?_;(conv=>whnf))
      refine G_boxV 6 zF rfl (.cons (.refl _) (.cons (.refl _) (.cons (.refl _) (.cons .nil .nil)))) ?_
      exact done0 rfl (.cons (.cell rfl rfl rfl rfl) (.cons .tmp .nil)) rfl rfl
  rw [if_neg ht] at hres
  by_cases hb : 1500 < b.length
  · rw [if_pos hb] at hres
    rw [hres]
    rw [decide_eq_false ht] at q0
    refine contract Γ hm 100 F308 Tryz.ntmps308 rfl fun F hF => by
      (conv=>whnf)
      refine call0 q0 F166 rfl rfl rfl rfl rfl ?_
      (refine rg ?_;(conv=>whnf);refine aF ?_;refine rg ?_;(conv=>whnf);refine aF ?_;refine rg ?_;(conv=>whnf))
      (refine ⟨fun h => False.elim (by simp at h; omega), fun _ => ?_⟩;refine rg ?_;(conv=>whnf);refine aF ?_;refine rg ?_;(conv=>whnf);refine aF ?_;refine rg ?_;(conv=>whnf);refine aF ?_;refine rg ?_;(conv=>whnf);refine ⟨fun h => False.elim (by simp at h; omega), fun _ => ?_⟩;refine rg ?_;(conv=>whnf);refine ⟨fun _ => ?_, fun h => False.elim (by simp at h; omega)⟩;refine rg ?_;(conv=>whnf))
      refine G_boxV 6 zF rfl (.cons (.refl _) (.cons (.refl _) (.cons (.refl _) (.cons .nil .nil)))) ?_
      exact done0 rfl (.cons (.cell rfl rfl rfl rfl) (.cons .tmp .nil)) rfl rfl
  rw [if_neg hb] at hres
  rw [hres]
  exact tagAddS d s t v b ht h1 hv (by omega)
end Go.Sy.YtmelpejjondedaaGreat

namespace Go.Sy.YtmelpejjondedaaGreat
open Go.Proofs
attribute [local irreducible] Go.Sy.G Go.Sy.DR
set_option maxRecDepth 100000
set_option maxHeartbeats 4000000
theorem takeF_bad {b : List UInt8} (h : (takeF b).2 ≠ 0) : (takeF b).1 = noF := by
  unfold takeF at h ⊢
  split
  · rfl
  rw [if_neg (by assumption)] at h
  split
  · rfl
  rw [if_neg (by assumption)] at h
  exact absurd rfl h
theorem takeF_ok {b : List UInt8} (h : (takeF b).2 = 0) : FrameOK (takeF b).1 := by
  unfold takeF at h ⊢
  split
  · rw [if_pos (by assumption)] at h; cases h
  rw [if_neg (by assumption)] at h
  split
  · rw [if_pos (by assumption)] at h; cases h
  rename_i h1 h2
  have l1 : ((b.take 6).length) = 6 := by rw [List.length_take]; omega
  have l2 : (((b.drop 6).take 6).length) = 6 := by rw [List.length_take, List.length_drop]; omega
  have l3 : (((b.drop 12).take 2).length) = 2 := by rw [List.length_take, List.length_drop]; omega
  have a1 := unbe_lt _ _ l1
  have a2 := unbe_lt _ _ l2
  have a3 := unbe_lt _ _ l3
  refine ⟨a1, a2, ?_, ?_⟩
  · dsimp only; exact Nat.le_of_lt_succ a3
  · dsimp only; rw [List.length_drop]; omega
theorem strip_ok {f : FrameM} (hf : FrameOK f) (h : (stripT f).2.2.2 = 0) : FrameOK (stripT f).1 := by
  unfold stripT at h ⊢
  split
  · rw [if_pos (by assumption)] at h; cases h
  rw [if_neg (by assumption)] at h
  split
  · rw [if_pos (by assumption)] at h; cases h
  rw [if_neg (by assumption)] at h
  split
  · rw [if_pos (by assumption)] at h; cases h
  rename_i h1 h2 h3
  have l3 : (((f.body.drop 2).take 2).length) = 2 := by rw [List.length_take, List.length_drop]; omega
  have a3 := unbe_lt _ _ l3
  have hb := hf.body
  refine ⟨hf.dst, hf.src, ?_, ?_⟩
  · dsimp only; exact Nat.le_of_lt_succ a3
  · dsimp only; rw [List.length_drop]; omega
theorem strip_bad {f : FrameM} (h : (stripT f).2.2.2 ≠ 0) : (stripT f).1 = noF ∧ (stripT f).2.1 = 0 := by
  unfold stripT at h ⊢
  split
  · exact ⟨rfl, rfl⟩
  rw [if_neg (by assumption)] at h
  split
  · exact ⟨rfl, rfl⟩
  rw [if_neg (by assumption)] at h
  split
  · exact ⟨rfl, rfl⟩
  rw [if_neg (by assumption)] at h
  exact absurd rfl h
theorem enterAtS (n : Net) (hn : n.Fin) (port : Int) (b : List UInt8) (hb : b.length < 100000) :
    Sy.Spec Tryz.prog 100 [netSV n, intSV port, .sl 1 byteSV b] [] (.tup [intSV (enterT n port b).1, frameSV (enterT n port b).2.1, intSV (enterT n port b).2.2]) [] := contract Γ hm 100 F100 Tryz.ntmps100 rfl fun F hF => by
  have hres := enterT.eq_1 n port b
  generalize enterT n port b = res at *
  have hr := namesRightS n hn
  (conv=>whnf)
  by_cases hneg : port < 0
  · rw [if_pos (.inl (by rw [placeB, decide_eq_false (by omega)]; rfl))] at hres
    subst hres
    (refine ⟨fun _ => ?_, fun h => False.elim (by simp at h; omega)⟩;refine rg ?_;(conv=>whnf);refine aT ?_;refine rg ?_;(conv=>whnf);refine aT ?_;refine rg ?_;(conv=>whnf))
    refine G_boxV 7 zF rfl (.cons (.refl _) (.cons (.refl _) (.cons (.refl _) (.cons .nil .nil)))) ?_
    exact done0 rfl (.cons .tmp (.cons (.cell rfl rfl rfl rfl) (.cons .tmp .nil))) rfl rfl
  refine ⟨fun h => absurd (of_decide_eq_true h) hneg, fun _ => ?_⟩
  refine G_box 3 8 (netSV n) rfl rfl rfl ?_
  by_cases hge : (n.ports.length : Int) ≤ port
  · rw [if_pos (.inl (by rw [placeB, decide_eq_false (by omega : ¬ port < _), Bool.and_false]))] at hres
    subst hres
    (refine rg ?_;(conv=>whnf))
    (refine ⟨fun _ => ?_, fun h => False.elim (by simp at h; omega)⟩;refine rg ?_;(conv=>whnf);refine aT ?_;refine rg ?_;(conv=>whnf))
    refine G_boxV 7 zF rfl (.cons (.refl _) (.cons (.refl _) (.cons (.refl _) (.cons .nil .nil)))) ?_
    exact done0 rfl (.cons .tmp (.cons (.cell rfl rfl rfl rfl) (.cons .tmp .nil))) rfl rfl
  have hpl : placeB port n.ports.length = true := by rw [placeB, decide_eq_true (by omega), decide_eq_true (by omega)]; rfl
  (refine rg ?_;(conv=>whnf))
  (refine ⟨fun h => False.elim (by simp at h; omega), fun _ => ?_⟩;refine rg ?_;(conv=>whnf))
  refine call0 hr F67 rfl rfl rfl rfl rfl ?_
  cases hbn : netRightB n
  · rw [if_pos (.inr hbn)] at hres
    subst hres
    (refine rg ?_;(conv=>whnf);refine aT ?_;refine rg ?_;(conv=>whnf))
    refine G_boxV 7 zF rfl (.cons (.refl _) (.cons (.refl _) (.cons (.refl _) (.cons .nil .nil)))) ?_
    exact done0 rfl (.cons .tmp (.cons (.cell rfl rfl rfl rfl) (.cons .tmp .nil))) rfl rfl
  rw [if_neg (by simp [hbn, hpl])] at hres
  have hp0 : 0 ≤ port := by omega
  have hk : port.toNat < n.ports.length := by omega
  have e1 : nth n.ports port = n.ports[port.toNat] := nth_eq hk
  have hsh := hn.tagged _ (List.getElem_mem hk)
  obtain ⟨p, hp⟩ : ∃ p, n.ports[port.toNat]'hk = p := ⟨_, rfl⟩
  rw [hp] at e1 hsh
  have qt := etherTakeS b hb
  have hto := @takeF_ok b
  have htb := @takeF_bad b
  generalize takeF b = tf at *
  obtain ⟨f, e⟩ := tf
  dsimp only at hres qt hto htb
  have qi := tagIs2S f
  (refine rg ?_;(conv=>whnf);refine aF ?_;refine rg ?_;(conv=>whnf))
  refine call0 qt F165 rfl rfl rfl rfl rfl ?_
  (refine rg ?_;(conv=>whnf))
  refine call0 qi F166 rfl rfl rfl rfl rfl ?_
  by_cases he : e = 0
  rotate_left
  · rw [if_pos he] at hres
    subst hres
    obtain rfl := htb he
    (refine rg ?_;(conv=>whnf))
    (refine ⟨fun h => False.elim (by simp at h; omega), fun _ => ?_⟩;refine rg ?_;(conv=>whnf);refine aF ?_;refine rg ?_;(conv=>whnf))
    (refine ⟨fun h => False.elim (by simp at h; omega), fun _ => ?_⟩;refine rg ?_;(conv=>whnf);refine aF ?_;refine rg ?_;(conv=>whnf))
    refine ⟨rfl, hp0, hk, ?_⟩
    rw [hp]
    (conv=>whnf)
    refine call0 (enterVlanS p false 0 hsh) F168 rfl rfl rfl rfl rfl ?_
    (refine rg ?_;(conv=>whnf))
    (refine ⟨fun h => False.elim (by simp at h; omega), fun _ => ?_⟩;refine rg ?_;(conv=>whnf);refine aF ?_;refine rg ?_;(conv=>whnf);refine ⟨fun _ => ?_, fun h => False.elim (by simp at h; omega)⟩;refine rg ?_;(conv=>whnf))
    refine G_boxV 7 zF rfl (.cons (.refl _) (.cons (.refl _) (.cons (.refl _) (.cons .nil .nil)))) ?_
    exact done0 rfl (.cons .tmp (.cons (.cell rfl rfl rfl rfl) (.cons .tmp .nil))) rfl rfl
  subst he
  rw [if_neg (by decide)] at hres
  have hfo := hto rfl
  by_cases ht : f.typ = 33024
  · rw [if_pos ht] at hres
    rw [decide_eq_true ht]
    have qs := tagStripS f (by have := hfo.body; omega)
    have hso := @strip_ok f hfo
    have hsb := @strip_bad f
    generalize stripT f = st at *
    obtain ⟨g, vid, prio, e2⟩ := st
    dsimp only at hres qs hso hsb
    (refine rg ?_;(conv=>whnf);refine aT ?_;refine rg ?_;(conv=>whnf);refine aT ?_;refine rg ?_;(conv=>whnf))
    refine call0 qs F167 rfl rfl rfl rfl rfl ?_
    by_cases he2 : e2 = 0
    rotate_left
    · rw [if_pos he2] at hres
      subst hres
      obtain ⟨rfl, rfl⟩ := hsb he2
      (refine rg ?_;(conv=>whnf))
      (refine ⟨fun h => False.elim (by simp at h; omega), fun _ => ?_⟩;refine rg ?_;(conv=>whnf);refine aF ?_;refine rg ?_;(conv=>whnf))
      refine ⟨rfl, hp0, hk, ?_⟩
      rw [hp]
      (conv=>whnf)
      refine call0 (enterVlanS p true 0 hsh) F168 rfl rfl rfl rfl rfl ?_
      (refine rg ?_;(conv=>whnf))
      (refine ⟨fun h => False.elim (by simp at h; omega), fun _ => ?_⟩;refine rg ?_;(conv=>whnf);refine aF ?_;refine rg ?_;(conv=>whnf);refine ⟨fun _ => ?_, fun h => False.elim (by simp at h; omega)⟩;refine rg ?_;(conv=>whnf))
      refine G_boxV 7 zF rfl (.cons (.refl _) (.cons (.refl _) (.cons (.refl _) (.cons .nil .nil)))) ?_
      exact done0 rfl (.cons .tmp (.cons (.cell rfl rfl rfl rfl) (.cons .tmp .nil))) rfl rfl
    subst he2
    rw [if_neg (by decide)] at hres
    have hgo := hso rfl
    have hgs := hgo.src
    have qg := macGroupS g.src (by omega)
    rw [enterF, e1] at hres
    have qv := enterVlanS p true vid hsh
    have qd := namesDomainS n hn p.dev (vlanT p true vid).1
    (refine rg ?_;(conv=>whnf);refine aT ?_;refine rg ?_;(conv=>whnf))
    refine call0 qg F162 rfl rfl rfl rfl rfl ?_
    cases hgb : groupB g.src
    rotate_left
    · rw [if_pos hgb] at hres
      subst hres
      (refine rg ?_;(conv=>whnf);refine aT ?_;refine rg ?_;(conv=>whnf))
      refine ⟨rfl, hp0, hk, ?_⟩
      rw [hp]
      (conv=>whnf)
      refine call0 qv F168 rfl rfl rfl rfl rfl ?_
      (refine rg ?_;(conv=>whnf);refine aF ?_;refine rg ?_;(conv=>whnf);refine aF ?_;refine rg ?_;(conv=>whnf);refine aT ?_;refine rg ?_;(conv=>whnf))
      (skip)
      refine G_boxV 7 zF rfl (.cons (.refl _) (.cons (.refl _) (.cons (.refl _) (.cons .nil .nil)))) ?_
      exact done0 rfl (.cons .tmp (.cons (.cell rfl rfl rfl rfl) (.cons .tmp .nil))) rfl rfl
    rw [if_neg (by simp [hgb])] at hres
    (refine rg ?_;(conv=>whnf);refine aF ?_;refine rg ?_;(conv=>whnf))
    refine ⟨rfl, hp0, hk, ?_⟩
    rw [hp]
    (conv=>whnf)
    refine call0 qv F168 rfl rfl rfl rfl rfl ?_
    generalize vlanT p true vid = vl at *
    obtain ⟨vl, vok⟩ := vl
    dsimp only at hres qd ⊢
    cases vok
    · rw [if_pos rfl] at hres
      subst hres
      (refine rg ?_;(conv=>whnf);refine aT ?_;refine rg ?_;(conv=>whnf);refine aT ?_;refine rg ?_;(conv=>whnf);refine aT ?_;refine rg ?_;(conv=>whnf))
      refine G_boxV 7 zF rfl (.cons (.refl _) (.cons (.refl _) (.cons (.refl _) (.cons .nil .nil)))) ?_
      exact done0 rfl (.cons .tmp (.cons (.cell rfl rfl rfl rfl) (.cons .tmp .nil))) rfl rfl
    rw [if_neg (by simp)] at hres
    subst hres
    (refine rg ?_;(conv=>whnf);refine aT ?_;refine rg ?_;(conv=>whnf);refine aF ?_;refine rg ?_;(conv=>whnf);refine aF ?_;refine rg ?_;(conv=>whnf))
    refine callD0 qd F169 rfl rfl rfl (by kernel_rfl) rfl ?_
    (refine rd (by kernel_rfl) ?_;(conv=>whnf))
    refine ⟨(by kernel_rfl), ?_⟩
    (conv=>whnf)
    exact done0 rfl (.cons .tmp (.cons (.cell rfl rfl rfl rfl) (.cons .tmp .nil))) rfl rfl
  · rw [if_neg ht] at hres
    rw [decide_eq_false ht]
    have hgo := hfo
    have hgs := hgo.src
    have qg := macGroupS f.src (by omega)
    rw [enterF, e1] at hres
    have qv := enterVlanS p false 0 hsh
    have qd := namesDomainS n hn p.dev (vlanT p false 0).1
    (refine rg ?_;(conv=>whnf);refine aT ?_;refine rg ?_;(conv=>whnf);refine aF ?_;refine rg ?_;(conv=>whnf);refine aT ?_;refine rg ?_;(conv=>whnf))
    refine call0 qg F162 rfl rfl rfl rfl rfl ?_
    cases hgb : groupB f.src
    rotate_left
    · rw [if_pos hgb] at hres
      subst hres
      (refine rg ?_;(conv=>whnf);refine aT ?_;refine rg ?_;(conv=>whnf))
      refine ⟨rfl, hp0, hk, ?_⟩
      rw [hp]
      (conv=>whnf)
      refine call0 qv F168 rfl rfl rfl rfl rfl ?_
      (refine rg ?_;(conv=>whnf);refine aF ?_;refine rg ?_;(conv=>whnf);refine aF ?_;refine rg ?_;(conv=>whnf);refine aT ?_;refine rg ?_;(conv=>whnf))
      (skip)
      refine G_boxV 7 zF rfl (.cons (.refl _) (.cons (.refl _) (.cons (.refl _) (.cons .nil .nil)))) ?_
      exact done0 rfl (.cons .tmp (.cons (.cell rfl rfl rfl rfl) (.cons .tmp .nil))) rfl rfl
    rw [if_neg (by simp [hgb])] at hres
    (refine rg ?_;(conv=>whnf);refine aF ?_;refine rg ?_;(conv=>whnf))
    refine ⟨rfl, hp0, hk, ?_⟩
    rw [hp]
    (conv=>whnf)
    refine call0 qv F168 rfl rfl rfl rfl rfl ?_
    generalize vlanT p false 0 = vl at *
    obtain ⟨vl, vok⟩ := vl
    dsimp only at hres qd ⊢
    cases vok
    · rw [if_pos rfl] at hres
      subst hres
      (refine rg ?_;(conv=>whnf);refine aT ?_;refine rg ?_;(conv=>whnf);refine aT ?_;refine rg ?_;(conv=>whnf);refine aT ?_;refine rg ?_;(conv=>whnf))
      refine G_boxV 7 zF rfl (.cons (.refl _) (.cons (.refl _) (.cons (.refl _) (.cons .nil .nil)))) ?_
      exact done0 rfl (.cons .tmp (.cons (.cell rfl rfl rfl rfl) (.cons .tmp .nil))) rfl rfl
    rw [if_neg (by simp)] at hres
    subst hres
    (refine rg ?_;(conv=>whnf);refine aT ?_;refine rg ?_;(conv=>whnf);refine aF ?_;refine rg ?_;(conv=>whnf);refine aF ?_;refine rg ?_;(conv=>whnf))
    refine callD0 qd F169 rfl rfl rfl (by kernel_rfl) rfl ?_
    (refine rd (by kernel_rfl) ?_;(conv=>whnf))
    refine ⟨(by kernel_rfl), ?_⟩
    (conv=>whnf)
    exact done0 rfl (.cons .tmp (.cons (.cell rfl rfl rfl rfl) (.cons .tmp .nil))) rfl rfl
end Go.Sy.YtmelpejjondedaaGreat

namespace Go.Sy.YtmelpejjondedaaGreat
open Go.Proofs
attribute [local irreducible] Go.Sy.G Go.Sy.DR
set_option maxRecDepth 100000
set_option maxHeartbeats 4000000
theorem placeB_in2 {i : Int} {n : Nat} (h : placeB i n = true) : 0 ≤ i ∧ i < n := by simpa [placeB] using h
end Go.Sy.YtmelpejjondedaaGreat

namespace Go.Sy.YtmelpejjondedaaGreat
open Go.Proofs
attribute [local irreducible] Go.Sy.G Go.Sy.DR
set_option maxRecDepth 20000
set_option maxHeartbeats 8000000
theorem placeB_true {i : Int} {n : Nat} (h : 0 ≤ i ∧ i < n) : placeB i n = true := by simp only [placeB, Bool.and_eq_true, decide_eq_true_eq]; exact h
end Go.Sy.YtmelpejjondedaaGreat

namespace Go.Sy.YtmelpejjondedaaGreat
open Go.Proofs
attribute [local irreducible] Go.Sy.G Go.Sy.DR
set_option maxRecDepth 100000
set_option maxHeartbeats 4000000
theorem leavePlaceS (i : Int) (n : Nat) : Sy.Spec Tryz.prog 250 [intSV i, intSV n] [] (boolSV (placeB i n)) [] := contract Γ hm 100 F250 Tryz.ntmps250 rfl fun F hF => by
  (conv=>whnf)
  (repeat' (first | (refine ⟨fun h => ?_, fun h => ?_⟩ <;> (repeat (first | simp only [decide_eq_true_eq] at h | simp only [decide_eq_false_iff_not] at h)) <;> ((refine rg ?_);(conv=>whnf))) | (refine done0 rfl (.cons .tmp .nil) ?_ rfl)))
  all_goals (refine congrArg boolSV ?_)
  all_goals grind [placeB]
theorem leaveBareS (n : Net) (f : FrameM) (h : FrameOK f) (v : Int) : Sy.Spec Tryz.prog 252 [netSV n, frameSV f, intSV v] [] (.tup [.sl 1 byteSV (putF f), intSV 0]) [] := contract Γ hm 100 F252 Tryz.ntmps252 rfl fun F hF => by
  (conv=>whnf)
  refine stepOp (good_call [(0, 55)] rfl F33 (etherPutS f h) rfl trivial rfl ⟨.inr rfl, trivial⟩) rfl rfl ?_
  refine G_data 55 rfl ?_
  (refine rg ?_;(conv=>whnf))
  exact done0 rfl (.cons .tmp (.cons .tmp .nil)) rfl rfl
theorem tag_ok {f : FrameM} (hf : FrameOK f) (v : Nat) (hv : v ≤ 4094) (h : (tagT f v).2 = 0) : FrameOK (tagT f v).1 := by
  unfold tagT at h ⊢
  split
  · rw [if_pos (by assumption)] at h; cases h
  rw [if_neg (by assumption)] at h
  split
  · rw [if_pos (by assumption)] at h; cases h
  refine ⟨hf.dst, hf.src, ?_, ?_⟩
  · show (33024 : Nat) ≤ 65535; decide
  · dsimp only; simp; omega
theorem leaveTaggedS (n : Net) (f : FrameM) (h : FrameOK f) (v : Nat) (hv : v ≤ 4094) :
    Sy.Spec Tryz.prog 251 [netSV n, frameSV f, intSV v] [] (.tup [.sl 1 byteSV (if (tagT f v).2 ≠ 0 then [] else putF (tagT f v).1), intSV (if (tagT f v).2 ≠ 0 then (tagT f v).2 else 0)]) [] := by
  have q := tagAdd2S f v h hv
  have ho := tag_ok h v hv
  generalize tagT f v = t at *
  obtain ⟨g, e⟩ := t
  dsimp only at q ho ⊢
  refine contract Γ hm 100 F251 Tryz.ntmps251 rfl fun F hF => by
    (conv=>whnf)
    refine call0 q F308 rfl rfl rfl rfl rfl ?_
    (refine rg ?_;(conv=>whnf))
    by_cases he : e = 0
    · subst he
      (refine ⟨fun h => False.elim (absurd h (by decide)), fun _ => ?_⟩;refine rg ?_;(conv=>whnf))
      refine G_box 8 4 (frameSV g) rfl rfl rfl ?_
      (refine rg ?_;(conv=>whnf))
      refine stepOp (good_call [(0, 55)] rfl F33 (etherPutS g (ho rfl)) rfl trivial rfl ⟨.inr rfl, trivial⟩) rfl rfl ?_
      refine G_data 55 rfl ?_
      (refine rg ?_;(conv=>whnf))
      exact done0 rfl (.cons .tmp (.cons .tmp .nil)) rfl rfl
    · rw [if_pos he, if_pos he]
      (refine ⟨fun _ => ?_, fun h => False.elim (by simp at h; omega)⟩;refine rg ?_;(conv=>whnf))
      refine G_nilsl 6 1 byteSV rfl ?_
      exact done0 rfl (.cons .tmp (.cons .tmp .nil)) rfl rfl
theorem e_dom_vlan {n : Net} (h : netRightB n = true) {i : Nat} (hi : i < n.domains.length) : 1 ≤ n.domains[i].vlan ∧ n.domains[i].vlan ≤ 4094 := by
  simp only [netRightB, Bool.and_eq_true] at h
  have hb : allB (bareB n) n.domains = true := h.1.1.1.1.1.1.1.2
  have := allB_iff.1 hb i hi
  simp only [bareB, Bool.and_eq_true, decide_eq_true_eq] at this
  omega
theorem leaveAtS (n : Net) (hn : n.Fin) (port dom : Int) (f : FrameM) (h : FrameOK f) :
    Sy.Spec Tryz.prog 177 [netSV n, intSV port, intSV dom, frameSV f] [] (.tup [.sl 1 byteSV (leaveT n port dom f).1, intSV (leaveT n port dom f).2]) [] := contract Γ hm 100 F177 Tryz.ntmps177 rfl fun F hF => by
  have hres := leaveT.eq_1 n port dom f
  generalize leaveT n port dom f = res at *
  have hr := namesRightS n hn
  have hpS := leavePlaceS port n.ports.length
  have hdS := leavePlaceS dom n.domains.length
  (conv=>whnf)
  refine call0 hpS F250 rfl rfl rfl rfl rfl ?_
  cases hpl : placeB port n.ports.length
  · rw [if_pos (.inl hpl)] at hres
    subst hres
    (refine rg ?_;(conv=>whnf);refine aT ?_;refine rg ?_;(conv=>whnf);refine aT ?_;refine rg ?_;(conv=>whnf);refine aT ?_;refine rg ?_;(conv=>whnf))
    refine G_nilsl 8 1 byteSV rfl ?_
    exact done0 rfl (.cons .tmp (.cons .tmp .nil)) rfl rfl
  (refine rg ?_;(conv=>whnf);refine aF ?_;refine rg ?_;(conv=>whnf))
  refine call0 hdS F250 rfl rfl rfl rfl rfl ?_
  cases hdl : placeB dom n.domains.length
  · rw [if_pos (.inr (.inl hdl))] at hres
    subst hres
    (refine rg ?_;(conv=>whnf);refine aT ?_;refine rg ?_;(conv=>whnf);refine aT ?_;refine rg ?_;(conv=>whnf))
    refine G_nilsl 8 1 byteSV rfl ?_
    exact done0 rfl (.cons .tmp (.cons .tmp .nil)) rfl rfl
  (refine rg ?_;(conv=>whnf);refine aF ?_;refine rg ?_;(conv=>whnf))
  refine call0 hr F67 rfl rfl rfl rfl rfl ?_
  cases hbn : netRightB n
  · rw [if_pos (.inr (.inr hbn))] at hres
    subst hres
    (refine rg ?_;(conv=>whnf);refine aT ?_;refine rg ?_;(conv=>whnf))
    refine G_nilsl 8 1 byteSV rfl ?_
    exact done0 rfl (.cons .tmp (.cons .tmp .nil)) rfl rfl
  rw [if_neg (by simp [hbn, hpl, hdl])] at hres
  have hpi := placeB_in2 hpl
  have hdi := placeB_in2 hdl
  have hp0 : 0 ≤ port := hpi.1
  have hd0 : 0 ≤ dom := hdi.1
  have hk : port.toNat < n.ports.length := by omega
  have hkd : dom.toNat < n.domains.length := by omega
  have e1 : nth n.ports port = n.ports[port.toNat] := nth_eq hk
  have e2 : nth n.domains dom = n.domains[dom.toNat] := nth_eq hkd
  have hsh := hn.tagged _ (List.getElem_mem hk)
  have hv := e_dom_vlan hbn hkd
  obtain ⟨p, hp⟩ : ∃ p, n.ports[port.toNat]'hk = p := ⟨_, rfl⟩
  obtain ⟨d, hd⟩ : ∃ d, n.domains[dom.toNat]'hkd = d := ⟨_, rfl⟩
  rw [hp] at e1 hsh
  rw [hd] at e2 hv
  rw [e1, e2] at hres
  have qm := memberS p d.vlan hsh
  (refine rg ?_;(conv=>whnf);refine aF ?_;refine rg ?_;(conv=>whnf))
  refine ⟨rfl, hp0, hk, rfl, hd0, hkd, ?_⟩
  rw [hp, hd]
  (conv=>whnf)
  refine ⟨(by kernel_rfl), ?_⟩
  (conv=>whnf)
  refine ⟨fun h1 => ?_, fun h1 => ?_⟩
  · rw [if_pos (.inl (by simpa using h1))] at hres
    subst hres
    (refine rg ?_;(conv=>whnf);refine aT ?_;refine rg ?_;(conv=>whnf))
    refine G_nilsl 8 1 byteSV rfl ?_
    exact done0 rfl (.cons .tmp (.cons .tmp .nil)) rfl rfl
  refine G_box 10 7 (portSV p) rfl rfl rfl ?_
  (refine rg ?_;(conv=>whnf))
  refine call0 qm F198 rfl rfl rfl rfl rfl ?_
  cases hm1 : memberB p d.vlan
  · rw [if_pos (.inr hm1)] at hres
    subst hres
    (refine rg ?_;(conv=>whnf);refine aT ?_;refine rg ?_;(conv=>whnf))
    refine G_nilsl 8 1 byteSV rfl ?_
    exact done0 rfl (.cons .tmp (.cons .tmp .nil)) rfl rfl
  rw [if_neg (by simp at h1; simp [hm1, h1])] at hres
  have qt := tagIs2S f
  by_cases ht : f.typ = 33024
  · rw [if_pos ht] at hres
    subst hres
    rw [decide_eq_true ht] at qt
    (refine rg ?_;(conv=>whnf);refine aF ?_;refine rg ?_;(conv=>whnf))
    refine call0 qt F166 rfl rfl rfl rfl rfl ?_
    (refine rg ?_;(conv=>whnf);refine aT ?_;refine rg ?_;(conv=>whnf))
    refine G_nilsl 8 1 byteSV rfl ?_
    exact done0 rfl (.cons .tmp (.cons .tmp .nil)) rfl rfl
  rw [if_neg ht] at hres
  rw [decide_eq_false ht] at qt
  (refine rg ?_;(conv=>whnf);refine aF ?_;refine rg ?_;(conv=>whnf))
  refine call0 qt F166 rfl rfl rfl rfl rfl ?_
  (refine rg ?_;(conv=>whnf);refine aF ?_;refine rg ?_;(conv=>whnf))
  refine ⟨fun h2 => ?_, fun h2 => ?_⟩
  · rw [if_pos (by simpa using h2)] at hres
    subst hres
    (refine rg ?_;(conv=>whnf))
    refine callC ⟨⟨_, _, F252⟩, leaveBareS n f h d.vlan⟩ rfl rfl rfl rfl rfl rfl ?_
    (refine rg ?_;(conv=>whnf))
    exact done0 rfl (.cons .tmp (.cons .tmp .nil)) rfl rfl
  rw [if_neg (by simpa using h2)] at hres
  (refine rg ?_;(conv=>whnf))
  have hv0 : (d.vlan.toNat : Int) = d.vlan := by omega
  have qg := leaveTaggedS n f h d.vlan.toNat (by omega)
  rw [hv0] at qg
  refine callC ⟨⟨_, _, F251⟩, qg⟩ rfl rfl rfl rfl rfl rfl ?_
  (refine rg ?_;(conv=>whnf))
  by_cases he : (tagT f d.vlan).2 = 0
  · rw [if_neg (by simpa using he)] at hres
    subst hres
    rw [if_neg (by simpa using he), if_neg (by simpa using he)]
    exact done0 rfl (.cons .tmp (.cons .tmp .nil)) rfl rfl
  · rw [if_pos he] at hres
    subst hres
    rw [if_pos he, if_pos he]
    exact done0 rfl (.cons .tmp (.cons .tmp .nil)) rfl rfl
end Go.Sy.YtmelpejjondedaaGreat

namespace Go.Sy.YtmelpejjondedaaGreat
open Go.Proofs
attribute [local irreducible] Go.Sy.G Go.Sy.DR
set_option maxRecDepth 100000
set_option maxHeartbeats 4000000
theorem inB_mem {l : List Int} {x : Int} : inB l x = true ↔ x ∈ l := by
  simp [inB]
theorem leaveLinkS (n : Net) (hn : n.Fin) (port : Int) (b : List UInt8) (hb : b.length < 100000) :
    Sy.Spec Tryz.prog 182 [netSV n, intSV port, .sl 1 byteSV b] [] (.tup [intSV (linkT n port b).1, intSV (linkT n port b).2.1, frameSV (linkT n port b).2.2.1, intSV (linkT n port b).2.2.2]) [] := contract Γ hm 100 F182 Tryz.ntmps182 rfl fun F hF => by
  have hres := linkT.eq_1 n port b
  generalize linkT n port b = res at *
  have qo := linksOtherS2 n hn port
  have qe := enterAtS n hn (otherT n port) b hb
  generalize otherT n port = o at *
  (conv=>whnf)
  refine call0 qo F258 rfl rfl rfl rfl rfl ?_
  (refine rg ?_;(conv=>whnf))
  refine ⟨fun h1 => ?_, fun h1 => ?_⟩
  · rw [if_pos (by simpa using h1)] at hres
    subst hres
    (refine rg ?_;(conv=>whnf))
    refine G_boxV 8 zF rfl (.cons (.refl _) (.cons (.refl _) (.cons (.refl _) (.cons .nil .nil)))) ?_
    exact done0 rfl (.cons .tmp (.cons .tmp (.cons (.cell rfl rfl rfl rfl) (.cons .tmp .nil)))) rfl rfl
  rw [if_neg (by simpa using h1)] at hres
  (refine rg ?_;(conv=>whnf))
  refine call0 qe F100 rfl rfl rfl rfl rfl ?_
  generalize enterT n o b = en at *
  obtain ⟨x1, g, x2⟩ := en
  subst hres
  (refine rg ?_;(conv=>whnf))
  refine ⟨(by kernel_rfl), ?_⟩
  (conv=>whnf)
  exact done0 rfl (.cons .tmp (.cons .tmp (.cons (.cell rfl rfl rfl rfl) (.cons .tmp .nil)))) rfl rfl
end Go.Sy.YtmelpejjondedaaGreat

namespace Go.Sy.YtmelpejjondedaaGreat
open Go.Proofs
theorem wordsL_length (l : List Nat) : (wordsL l).length = 2 * l.length := by
  induction l with
  | nil => rfl
  | cons a l ih => simp only [wordsL, List.flatMap_cons, List.length_append, List.length_cons, List.length_nil] at ih ⊢; omega
theorem wordsL_snoc (l : List Nat) (n : Nat) : wordsL (l ++ [n]) = wordsL l ++ [UInt8.ofNat (n / 256), UInt8.ofNat n] := by simp [wordsL]
theorem numAt_lt (b : List UInt8) (k m : Nat) : numAt b k m < 256 ^ m := by
  have h := unbe_lt _ ((b.drop k).take m) rfl
  have h2 : ((b.drop k).take m).length ≤ m := by rw [List.length_take]; omega
  exact Nat.lt_of_lt_of_le h (Nat.pow_le_pow_right (by decide) h2)
theorem numAt2 {b : List UInt8} {k : Nat} (h : k + 2 ≤ b.length) : numAt b k 2 = (b[k]'(by omega)).toNat * 256 + (b[k + 1]'(by omega)).toNat := by
  rw [numAt, take2_at h, unbe2]
theorem bAt_eq {b : List UInt8} {k : Nat} (h : k < b.length) : bAt b k = b[k] := getD_r h
theorem take3_at {b : List UInt8} {k : Nat} (h : k + 3 ≤ b.length) : (b.drop k).take 3 = [b[k]'(by omega), b[k + 1]'(by omega), b[k + 2]'(by omega)] := by
  rw [List.drop_eq_getElem_cons (by omega), List.drop_eq_getElem_cons (i := k + 1) (by omega), List.drop_eq_getElem_cons (i := k + 2) (by omega)]
  rfl
theorem take4_at {b : List UInt8} {k : Nat} (h : k + 4 ≤ b.length) : (b.drop k).take 4 = [b[k]'(by omega), b[k + 1]'(by omega), b[k + 2]'(by omega), b[k + 3]'(by omega)] := by
  rw [List.drop_eq_getElem_cons (by omega), List.drop_eq_getElem_cons (i := k + 1) (by omega), List.drop_eq_getElem_cons (i := k + 2) (by omega), List.drop_eq_getElem_cons (i := k + 3) (by omega)]
  rfl
theorem numAt3 {b : List UInt8} {k : Nat} (h : k + 3 ≤ b.length) : numAt b k 3 = ((b[k]'(by omega)).toNat * 256 + (b[k + 1]'(by omega)).toNat) * 256 + (b[k + 2]'(by omega)).toNat := by
  rw [numAt, take3_at h]
  simp [unbe]
theorem numAt4 {b : List UInt8} {k : Nat} (h : k + 4 ≤ b.length) : numAt b k 4 = numAt b k 2 * 65536 + numAt b (k + 2) 2 := by
  have e : b[k + 2 + 1]'(by omega) = b[k + 3]'(by omega) := rfl
  rw [numAt, take4_at h, numAt2 (by omega), numAt2 (by omega), e]
  simp [unbe]
  omega
theorem putF_length (f : FrameM) : (putF f).length = 14 + f.body.length := by
  simp [putF, frame, be_length]
  omega
theorem ipHead_length (p : PacketM) (s : Nat) : (ipHead p s).length = 20 := by rw [ipHead, wordsL_length]; rfl
theorem ipBy_length (p : PacketM) : (ipBy p).length = 20 + p.body.length := by rw [ipBy, List.length_append, ipHead_length]
theorem udpT_length (s d : Nat) (b : List UInt8) : (udpT s d b).length = 8 + b.length := by rw [udpT, List.length_append, wordsL_length]; rfl
theorem headB_length (v : Nat) : (headB v).length = 8 := rfl
theorem noF_ok : FrameOK noF := ⟨by decide, by decide, by decide, by decide⟩
theorem hostN_lt (ip : Nat) (h : ip < 4294967296) : hostN ip < 281474976710656 := by rw [hostN, Int.toNat_natCast]; omega
theorem leaveT_length (n : Net) (port dom : Int) (f : FrameM) (hf : FrameOK f) : (leaveT n port dom f).1.length ≤ 1518 := by
  have h4 := hf.body
  unfold leaveT
  split
  · simp
  split
  · simp
  split
  · simp
  split
  · rw [putF_length]; omega
  split
  · simp
  · rw [putF_length]
    rename_i h
    have h2 : (tagT f (nth n.domains dom).vlan).2 = 0 := Classical.byContradiction h
    unfold tagT at h2 ⊢
    split
    · rw [if_pos (by assumption)] at h2; cases h2
    rw [if_neg (by assumption)] at h2
    split
    · rw [if_pos (by assumption)] at h2; cases h2
    · dsimp only
      simp
      omega
theorem ipTakeT_ok {b : List UInt8} (h : (ipTakeT b).2 = 0) : PacketOK (ipTakeT b).1 ∧ (ipTakeT b).1.body.length + 20 ≤ b.length := by
  unfold ipTakeT at h ⊢
  split
  · rw [if_pos (by assumption)] at h; cases h
  rw [if_neg (by assumption)] at h
  split
  · rw [if_pos (by assumption)] at h; cases h
  rw [if_neg (by assumption)] at h
  split
  · rw [if_pos (by assumption)] at h; cases h
  rw [if_neg (by assumption)] at h
  split
  · rw [if_pos (by assumption)] at h; cases h
  rw [if_neg (by assumption)] at h
  split
  · rw [if_pos (by assumption)] at h; cases h
  have l1 := (bAt b 1).toNat_lt
  have l8 := (bAt b 8).toNat_lt
  have l9 := (bAt b 9).toNat_lt
  have n4 := numAt_lt b 4 2
  have n12 := numAt_lt b 12 4
  have n16 := numAt_lt b 16 4
  refine ⟨⟨?_, ?_, ?_, ?_, ?_, ?_⟩, ?_⟩
  · show (bAt b 1).toNat ≤ 255; omega
  · show numAt b 4 2 ≤ 65535; omega
  · show (bAt b 8).toNat ≤ 255; omega
  · show (bAt b 9).toNat ≤ 255; omega
  · exact n12
  · exact n16
  · show ((b.take (numAt b 2 2)).drop 20).length + 20 ≤ b.length
    rw [List.length_drop, List.length_take]
    omega
theorem ipTakeT_bad {b : List UInt8} (h : (ipTakeT b).2 ≠ 0) : (ipTakeT b).1 = noP := by
  unfold ipTakeT at h ⊢
  split
  · rfl
  rw [if_neg (by assumption)] at h
  split
  · rfl
  rw [if_neg (by assumption)] at h
  split
  · rfl
  rw [if_neg (by assumption)] at h
  split
  · rfl
  rw [if_neg (by assumption)] at h
  split
  · rfl
  rw [if_neg (by assumption)] at h
  exact absurd rfl h
theorem noP_ok : PacketOK noP := ⟨by decide, by decide, by decide, by decide, by decide, by decide⟩
theorem ipHead_set (p : PacketM) (s : Nat) : ((ipHead p 0).set 10 (UInt8.ofNat (s / 256))).set 11 (UInt8.ofNat s) = ipHead p s := by
  simp only [ipHead, wordsL, List.flatMap_cons, List.flatMap_nil, List.cons_append, List.nil_append, List.set_cons_succ, List.set_cons_zero]
theorem wrapP_ok (a b v : Nat) (f : FrameM) (ha : a < 4294967296) (hb : b < 4294967296) : PacketOK (wrapP a b v f) := ⟨Nat.zero_le _, Nat.zero_le _, by show (64 : Nat) ≤ 255; decide, by show (17 : Nat) ≤ 255; decide, ha, hb⟩
theorem wrapP_length (a b v : Nat) (f : FrameM) : (wrapP a b v f).body.length = 30 + f.body.length := by
  simp only [wrapP, udpT_length, List.length_append, headB_length, putF_length]; omega
theorem wrapT_length (a b : Nat) (v : Int) (f : FrameM) : (wrapT a b v f).1.length ≤ 1514 := by
  unfold wrapT
  split
  · simp
  split
  · simp
  split
  · simp
  · simp only [frame, List.length_append, be_length, ipBy_length, wrapP_length, List.length_cons, List.length_nil]; omega
theorem meshT_length (n : Net) (dom peer : Int) (f : FrameM) : (meshT n dom peer f).1.length ≤ 1514 := by
  unfold meshT
  split
  · simp
  split
  · simp
  · exact wrapT_length _ _ _ _
theorem udpTakeT_body {b : List UInt8} : (udpTakeT b).2.2.1.length ≤ b.length := by
  unfold udpTakeT
  repeat' split
  all_goals first | (simp; done) | (simp only [List.length_drop, List.length_take]; omega)
theorem vniT_body {b : List UInt8} : (vniT b).2.1.length ≤ b.length := by
  unfold vniT
  repeat' split
  all_goals first | (simp; done) | (simp only [List.length_drop]; omega)
theorem outerT_ok (b : List UInt8) : PacketOK (outerT b).1 ∧ (outerT b).1.body.length ≤ b.length := by
  unfold outerT
  split
  · exact ⟨noP_ok, by simp [noP]⟩
  split
  · exact ⟨noP_ok, by simp [noP]⟩
  split
  · exact ⟨noP_ok, by simp [noP]⟩
  · rename_i h1 h2 h3
    have h4 : (takeF b).2 = 0 := Classical.byContradiction h1
    have h5 : (ipTakeT (takeF b).1.body).2 = 0 := Classical.byContradiction h3
    obtain ⟨h6, h7⟩ := ipTakeT_ok h5
    refine ⟨h6, ?_⟩
    have h8 : (takeF b).1.body.length ≤ b.length := by
      unfold takeF
      repeat' split
      all_goals simp [noF]
    dsimp only
    omega
theorem innerT_ok (b : List UInt8) : FrameOK (innerT b).2.1 ∧ 0 ≤ (innerT b).1 := by
  unfold innerT
  repeat' split
  all_goals first | exact ⟨noF_ok, Int.le_refl _⟩ | skip
  rename_i h1 h2 h3 h4 h5
  refine ⟨takeF_ok (Classical.byContradiction h4), ?_⟩
  show 0 ≤ (vniT (udpTakeT b).2.2.1).1
  unfold vniT
  repeat' split
  all_goals omega
theorem unwrapT_ok (b : List UInt8) : (unwrapT b).1 < 4294967296 ∧ (unwrapT b).2.1 < 4294967296 ∧ 0 ≤ (unwrapT b).2.2.1 ∧ FrameOK (unwrapT b).2.2.2.1 := by
  unfold unwrapT
  split
  · exact ⟨Nat.zero_lt_succ _, Nat.zero_lt_succ _, Int.le_refl _, noF_ok⟩
  split
  · exact ⟨Nat.zero_lt_succ _, Nat.zero_lt_succ _, Int.le_refl _, noF_ok⟩
  · exact ⟨(outerT_ok b).1.src, (outerT_ok b).1.dst, (innerT_ok _).2, (innerT_ok _).1⟩
theorem enterF_ok (n : Net) (port : Int) (f : FrameM) (hf : FrameOK f) (tg : Bool) (vid : Int) : FrameOK (enterF n port f tg vid).2.1 := by
  unfold enterF
  split
  · exact noF_ok
  split
  · exact noF_ok
  · exact hf
theorem enterT_ok (n : Net) (port : Int) (b : List UInt8) : FrameOK (enterT n port b).2.1 := by
  unfold enterT
  split
  · exact noF_ok
  split
  · exact noF_ok
  rename_i h1 h2
  have h3 := takeF_ok (Classical.byContradiction h2)
  split
  · split
    · exact noF_ok
    · rename_i h5
      exact enterF_ok _ _ _ (strip_ok h3 (Classical.byContradiction h5)) _ _
  · exact enterF_ok _ _ _ h3 _ _
theorem linkT_ok (n : Net) (port : Int) (b : List UInt8) : FrameOK (linkT n port b).2.2.1 := by
  unfold linkT
  split
  · exact noF_ok
  · exact enterT_ok _ _ _
theorem comeT_ok (n : Net) (b : List UInt8) : FrameOK (comeT n b).2.2.1 := by
  unfold comeT
  split
  · exact noF_ok
  split
  · exact noF_ok
  split
  · exact noF_ok
  split
  · exact noF_ok
  · exact (unwrapT_ok b).2.2.2
theorem hopT_ok (n : Net) (hm : n.Num) (irb : Int) (f : FrameM) (hin : ∀ (d : Int), (lookT n irb d).2 = true → 0 ≤ (lookT n irb d).1 ∧ (lookT n irb d).1.toNat < n.irbs.length) : FrameOK (hopT n irb f).2.1 := by
  unfold hopT
  split
  · exact noF_ok
  split
  · exact noF_ok
  split
  · exact noF_ok
  split
  · exact noF_ok
  split
  · exact noF_ok
  split
  · exact noF_ok
  rename_i h1 h2 h3 h4 h5 h6
  have hp := (ipTakeT_ok (Classical.byContradiction h3)).1
  have hl := hin ((ipTakeT f.body).1.dst : Int) (by simpa using h5)
  have ha := hm.addr _ (List.getElem_mem hl.2)
  rw [← nth_eq hl.2] at ha
  refine ⟨hostN_lt _ hp.dst, ?_, ?_, ?_⟩
  · show hostN (nth n.irbs _).addr < _
    rw [hostN]; omega
  · show (2048 : Nat) ≤ 65535; decide
  · show (ipBy (hopP (ipTakeT f.body).1)).length ≤ 1504
    rw [ipBy_length]
    show 20 + (ipTakeT f.body).1.body.length ≤ 1504
    omega
end Go.Sy.YtmelpejjondedaaGreat
