/-
  Contracts: a maker's VLANs, links and frames. Contracts: a maker's injections, steps, scripts. Contracts: a maker's steps and scripts; drill.Script.
-/
import Derived.Test.YtnccojbdjjnoiaaB11
import Derived.Test.YtnccojbdjjnoiaaB8

namespace Go.Sy.Ytnccojbdjjnoiaa
open Go.Proofs

attribute [local irreducible] Go.Sy.G Go.Sy.DR
set_option maxRecDepth 100000
set_option maxHeartbeats 4000000

theorem vlanS (n : Net) (p : Port) (s : Int) (hp : p.tagged.length < 100000) (hne : vlansL p ≠ []) :
    Sy.Spec Try.prog 70 [.ptr 0 0, portSV p] (makerO n s) (intSV (vlanM p s).1) (makerO n (vlanM p s).2) := contract Γ hm 100 F70 Try.ntmps70 rfl fun F hF => by
  obtain ⟨l, hl'⟩ : ∃ l, vlansL p = l := ⟨_, rfl⟩
  have hv : vlanM p s = (nth l (drawI (nextN s) l.length), nextN s) := by rw [← hl']; rfl
  have hl : l = if p.native ≠ 0 then p.native :: p.tagged else p.tagged := by rw [← hl']; rfl
  rw [hl'] at hne
  have h0 : 0 < l.length := List.length_pos_iff.2 hne
  have hd := drawI_range (s := nextN s) (b := l.length) (by omega)
  rw [nth_eq (by omega)] at hv
  rw [hv]
  have hds := drawS s l.length
  ((conv => whnf); repeat (first | (refine ⟨fun (h : false = true) => (Bool.false_ne_true h).elim, fun _ => ?_⟩; ((first | (refine run Γ hm 400 ?_) | (refine runD Γ hm 400 (by kernel_rfl) ?_)); (conv => whnf))) | (refine ⟨fun _ => ?_, fun (h : true = false) => (Bool.false_ne_true h.symm).elim⟩; ((first | (refine run Γ hm 400 ?_) | (refine runD Γ hm 400 (by kernel_rfl) ?_)); (conv => whnf)))))
  refine ⟨fun h => ?_, fun h => ?_⟩
  · have hnz : p.native ≠ 0 := by simpa using h
    rw [if_pos hnz] at hl
    subst hl
    (((first | (refine run Γ hm 400 ?_) | (refine runD Γ hm 400 (by kernel_rfl) ?_)); (conv => whnf)); repeat (first | (refine ⟨fun (h : false = true) => (Bool.false_ne_true h).elim, fun _ => ?_⟩; ((first | (refine run Γ hm 400 ?_) | (refine runD Γ hm 400 (by kernel_rfl) ?_)); (conv => whnf))) | (refine ⟨fun _ => ?_, fun (h : true = false) => (Bool.false_ne_true h.symm).elim⟩; ((first | (refine run Γ hm 400 ?_) | (refine runD Γ hm 400 (by kernel_rfl) ?_)); (conv => whnf)))))
    refine stepOp (good_appendT Γ.toTy 16 rfl rfl rfl rfl rfl (.lit (e := intSV) (l := [p.native]) rfl rfl) .sl (by simp) (by simp; omega) (by simp; omega)) rfl rfl ?_
    refine G_data 16 rfl ?_
    (((first | (refine run Γ hm 400 ?_) | (refine runD Γ hm 400 (by kernel_rfl) ?_)); (conv => whnf)); repeat (first | (refine ⟨fun (h : false = true) => (Bool.false_ne_true h).elim, fun _ => ?_⟩; ((first | (refine run Γ hm 400 ?_) | (refine runD Γ hm 400 (by kernel_rfl) ?_)); (conv => whnf))) | (refine ⟨fun _ => ?_, fun (h : true = false) => (Bool.false_ne_true h.symm).elim⟩; ((first | (refine run Γ hm 400 ?_) | (refine runD Γ hm 400 (by kernel_rfl) ?_)); (conv => whnf)))))
    refine stepOp (good_callE [(0, 1)] (enters_clo rfl rfl F35) hds rfl ⟨rfl, trivial⟩ rfl ⟨.inl rfl, trivial⟩) rfl rfl ?_
    (((first | (refine run Γ hm 400 ?_) | (refine runD Γ hm 400 (by kernel_rfl) ?_)); (conv => whnf)); repeat (first | (refine ⟨fun (h : false = true) => (Bool.false_ne_true h).elim, fun _ => ?_⟩; ((first | (refine run Γ hm 400 ?_) | (refine runD Γ hm 400 (by kernel_rfl) ?_)); (conv => whnf))) | (refine ⟨fun _ => ?_, fun (h : true = false) => (Bool.false_ne_true h.symm).elim⟩; ((first | (refine run Γ hm 400 ?_) | (refine runD Γ hm 400 (by kernel_rfl) ?_)); (conv => whnf)))))
    refine ⟨rfl, hd.1, (by have := hd.1; have := hd.2; show _ < (p.native :: p.tagged).length; omega), ?_⟩
    ((conv => whnf); repeat (first | (refine ⟨fun (h : false = true) => (Bool.false_ne_true h).elim, fun _ => ?_⟩; ((first | (refine run Γ hm 400 ?_) | (refine runD Γ hm 400 (by kernel_rfl) ?_)); (conv => whnf))) | (refine ⟨fun _ => ?_, fun (h : true = false) => (Bool.false_ne_true h.symm).elim⟩; ((first | (refine run Γ hm 400 ?_) | (refine runD Γ hm 400 (by kernel_rfl) ?_)); (conv => whnf)))))
    exact done rfl (.cons .tmp .nil) [] (makerO n (nextN s)) (fun _ h => h) rfl rfl ⟨trivial, ⟨.inl rfl, rfl, .inl rfl, rfl, trivial⟩, rfl, rfl⟩
  · have hnz : ¬ p.native ≠ 0 := by simpa using h
    rw [if_neg hnz] at hl
    subst hl
    (((first | (refine run Γ hm 400 ?_) | (refine runD Γ hm 400 (by kernel_rfl) ?_)); (conv => whnf)); repeat (first | (refine ⟨fun (h : false = true) => (Bool.false_ne_true h).elim, fun _ => ?_⟩; ((first | (refine run Γ hm 400 ?_) | (refine runD Γ hm 400 (by kernel_rfl) ?_)); (conv => whnf))) | (refine ⟨fun _ => ?_, fun (h : true = false) => (Bool.false_ne_true h.symm).elim⟩; ((first | (refine run Γ hm 400 ?_) | (refine runD Γ hm 400 (by kernel_rfl) ?_)); (conv => whnf)))))
    refine stepOp (good_callE [(0, 1)] (enters_clo rfl rfl F35) hds rfl ⟨rfl, trivial⟩ rfl ⟨.inl rfl, trivial⟩) rfl rfl ?_
    (((first | (refine run Γ hm 400 ?_) | (refine runD Γ hm 400 (by kernel_rfl) ?_)); (conv => whnf)); repeat (first | (refine ⟨fun (h : false = true) => (Bool.false_ne_true h).elim, fun _ => ?_⟩; ((first | (refine run Γ hm 400 ?_) | (refine runD Γ hm 400 (by kernel_rfl) ?_)); (conv => whnf))) | (refine ⟨fun _ => ?_, fun (h : true = false) => (Bool.false_ne_true h.symm).elim⟩; ((first | (refine run Γ hm 400 ?_) | (refine runD Γ hm 400 (by kernel_rfl) ?_)); (conv => whnf)))))
    refine ⟨rfl, hd.1, (by omega), ?_⟩
    ((conv => whnf); repeat (first | (refine ⟨fun (h : false = true) => (Bool.false_ne_true h).elim, fun _ => ?_⟩; ((first | (refine run Γ hm 400 ?_) | (refine runD Γ hm 400 (by kernel_rfl) ?_)); (conv => whnf))) | (refine ⟨fun _ => ?_, fun (h : true = false) => (Bool.false_ne_true h.symm).elim⟩; ((first | (refine run Γ hm 400 ?_) | (refine runD Γ hm 400 (by kernel_rfl) ?_)); (conv => whnf)))))
    exact done rfl (.cons .tmp .nil) [] (makerO n (nextN s)) (fun _ h => h) rfl rfl ⟨trivial, ⟨.inl rfl, rfl, .inl rfl, rfl, trivial⟩, rfl, rfl⟩

theorem linksM_length : ∀ (j : Nat) (s : Int), (linksM j s).1.length = j
  | 0, _ => rfl
  | j + 1, s => by simp [linksM, linksM_length j s]

def stepR (k p d a b u : SV) : SV := .agg [k, p, d, a, b, u]
theorem stepR_view {κ : Ka} {w : World} {k p d a b u b' u' : SV} (hb : ∀ v, Rd κ w b v → Rd κ w b' v) (hu : ∀ v, Rd κ w u v → Rd κ w u' v) {v : Value} (h : Rd κ w (stepR k p d a b u) v) : Rd κ w (stepR k p d a b' u') v := by
  simp only [stepR, Rd, RdL] at h ⊢
  obtain ⟨cs, h1, h2, v0, r0, h3, h4, v1, r1, h5, h6, v2, r2, h7, h8, v3, r3, h9, h10, v4, r4, h11, h12, v5, r5, h13, h14, h15⟩ := h
  exact ⟨cs, h1, h2, v0, r0, h3, h4, v1, r1, h5, h6, v2, r2, h7, h8, v3, r3, h9, h10, v4, r4, h11, hb _ h12, v5, r5, h13, hu _ h14, h15⟩

theorem links0S (n : Net) (s : Int) (hn : n.links.length < 100000) : Sy.Spec Try.prog 57 [.ptr 0 0] (makerO n s) (stepR (intSV 5) (intSV 0) (intSV 0) (intSV 0) (.val (.slice none 0 0)) (.sl 1 boolSV (linksM n.links.length s).1)) (makerO n (linksM n.links.length s).2) := contract Γ hm 100 F57 Try.ntmps57 rfl fun F hF => by
  ((conv => whnf); repeat (first | (refine ⟨fun (h : false = true) => (Bool.false_ne_true h).elim, fun _ => ?_⟩; ((first | (refine run Γ hm 400 ?_) | (refine runD Γ hm 400 (by kernel_rfl) ?_)); (conv => whnf))) | (refine ⟨fun _ => ?_, fun (h : true = false) => (Bool.false_ne_true h.symm).elim⟩; ((first | (refine run Γ hm 400 ?_) | (refine runD Γ hm 400 (by kernel_rfl) ?_)); (conv => whnf)))))
  refine G_adoptB 3 5 1000 1 boolSV rfl rfl rfl rfl ?_
  refine G_count n.links.length (fun j => [(0, .ptr 0 0), (2, .ptr 2 0), (3, .ptr 3 0), (10, intSV n.links.length), (11, intSV j)]) (fun j => [(0, .box (makerL n (.sl 1 intSV (hostsL n n.ports.length)) 1)), (1, .box [u64SV (linksM j s).2]), (2, .box [intSV 0, intSV 0, intSV 0, intSV 0, .val (.slice none 0 0), .val (.slice none 0 0)]), (3, .box [intSV 5, intSV 0, intSV 0, intSV 0, .val (.slice none 0 0), .osl 1000]), (1000, .row 1 boolSV (linksM j s).1)]) []
    ⟨⟨rfl, rfl, rfl, rfl, rfl, rfl, rfl, rfl, rfl, rfl, trivial⟩, ⟨.inl rfl, rfl, .inl rfl, rfl, .inl rfl, rfl, .inl rfl, rfl, .inl rfl, rfl, trivial⟩, rfl, rfl⟩ ?_
  intro j hj
  have hlen := linksM_length j s
  have hsucc : linksM (j + 1) s = ((linksM j s).1 ++ [drawI (nextN (linksM j s).2) 2 == 1], nextN (linksM j s).2) := rfl
  obtain ⟨r, hr⟩ : ∃ r, linksM j s = r := ⟨_, rfl⟩
  rw [hr] at hlen hsucc ⊢
  obtain ⟨u, t⟩ := r
  have hds := drawS t 2
  dsimp only at hlen hsucc ⊢
  (((first | (refine run Γ hm 400 ?_) | (refine runD Γ hm 400 (by kernel_rfl) ?_)); (conv => whnf)); repeat (first | (refine ⟨fun (h : false = true) => (Bool.false_ne_true h).elim, fun _ => ?_⟩; ((first | (refine run Γ hm 400 ?_) | (refine runD Γ hm 400 (by kernel_rfl) ?_)); (conv => whnf))) | (refine ⟨fun _ => ?_, fun (h : true = false) => (Bool.false_ne_true h.symm).elim⟩; ((first | (refine run Γ hm 400 ?_) | (refine runD Γ hm 400 (by kernel_rfl) ?_)); (conv => whnf)))))
  refine ⟨fun h => ?_, fun h => ?_⟩
  · have hlt : j < n.links.length := by simpa using h
    (((first | (refine run Γ hm 400 ?_) | (refine runD Γ hm 400 (by kernel_rfl) ?_)); (conv => whnf)); repeat (first | (refine ⟨fun (h : false = true) => (Bool.false_ne_true h).elim, fun _ => ?_⟩; ((first | (refine run Γ hm 400 ?_) | (refine runD Γ hm 400 (by kernel_rfl) ?_)); (conv => whnf))) | (refine ⟨fun _ => ?_, fun (h : true = false) => (Bool.false_ne_true h.symm).elim⟩; ((first | (refine run Γ hm 400 ?_) | (refine runD Γ hm 400 (by kernel_rfl) ?_)); (conv => whnf)))))
    refine stepD (good_callE [(0, 1)] (enters_clo rfl rfl F35) hds rfl ⟨rfl, trivial⟩ rfl ⟨.inl rfl, trivial⟩) (by kernel_rfl) rfl ?_
    (((first | (refine run Γ hm 400 ?_) | (refine runD Γ hm 400 (by kernel_rfl) ?_)); (conv => whnf)); repeat (first | (refine ⟨fun (h : false = true) => (Bool.false_ne_true h).elim, fun _ => ?_⟩; ((first | (refine run Γ hm 400 ?_) | (refine runD Γ hm 400 (by kernel_rfl) ?_)); (conv => whnf))) | (refine ⟨fun _ => ?_, fun (h : true = false) => (Bool.false_ne_true h.symm).elim⟩; ((first | (refine run Γ hm 400 ?_) | (refine runD Γ hm 400 (by kernel_rfl) ?_)); (conv => whnf)))))
    refine stepD (good_appendT Γ.toTy 22 rfl rfl rfl rfl rfl (.row rfl) (.lit (e := boolSV) (l := [drawI (nextN t) 2 == 1]) rfl rfl) (by simp) (by simp; omega) (by simp; omega)) (by kernel_rfl) rfl ?_
    (((first | (refine run Γ hm 400 ?_) | (refine runD Γ hm 400 (by kernel_rfl) ?_)); (conv => whnf)); repeat (first | (refine ⟨fun (h : false = true) => (Bool.false_ne_true h).elim, fun _ => ?_⟩; ((first | (refine run Γ hm 400 ?_) | (refine runD Γ hm 400 (by kernel_rfl) ?_)); (conv => whnf))) | (refine ⟨fun _ => ?_, fun (h : true = false) => (Bool.false_ne_true h.symm).elim⟩; ((first | (refine run Γ hm 400 ?_) | (refine runD Γ hm 400 (by kernel_rfl) ?_)); (conv => whnf)))))
    refine ⟨(by kernel_rfl), ?_⟩
    ((conv => whnf); repeat (first | (refine ⟨fun (h : false = true) => (Bool.false_ne_true h).elim, fun _ => ?_⟩; ((first | (refine run Γ hm 400 ?_) | (refine runD Γ hm 400 (by kernel_rfl) ?_)); (conv => whnf))) | (refine ⟨fun _ => ?_, fun (h : true = false) => (Bool.false_ne_true h.symm).elim⟩; ((first | (refine run Γ hm 400 ?_) | (refine runD Γ hm 400 (by kernel_rfl) ?_)); (conv => whnf)))))
    refine ⟨by unfold I64; omega, ?_⟩
    ((conv => whnf); repeat (first | (refine ⟨fun (h : false = true) => (Bool.false_ne_true h).elim, fun _ => ?_⟩; ((first | (refine run Γ hm 400 ?_) | (refine runD Γ hm 400 (by kernel_rfl) ?_)); (conv => whnf))) | (refine ⟨fun _ => ?_, fun (h : true = false) => (Bool.false_ne_true h.symm).elim⟩; ((first | (refine run Γ hm 400 ?_) | (refine runD Γ hm 400 (by kernel_rfl) ?_)); (conv => whnf)))))
    refine G_next [(1000, 22)] hlt ⟨⟨rfl, rfl, rfl, rfl, rfl, rfl, rfl, rfl, rfl, rfl, trivial⟩, ⟨.inl rfl, rfl, .inl ?_, rfl, .inl rfl, rfl, .inl rfl, rfl, .inl ?_, rfl, trivial⟩, rfl, rfl⟩
    · rw [hsucc]; rfl
    · rw [hsucc]; rfl
  · have hjl : j = n.links.length := by
      have : ¬ j < n.links.length := by simpa using h
      omega
    subst hjl
    rw [hr]
    (((first | (refine run Γ hm 400 ?_) | (refine runD Γ hm 400 (by kernel_rfl) ?_)); (conv => whnf)); repeat (first | (refine ⟨fun (h : false = true) => (Bool.false_ne_true h).elim, fun _ => ?_⟩; ((first | (refine run Γ hm 400 ?_) | (refine runD Γ hm 400 (by kernel_rfl) ?_)); (conv => whnf))) | (refine ⟨fun _ => ?_, fun (h : true = false) => (Bool.false_ne_true h.symm).elim⟩; ((first | (refine run Γ hm 400 ?_) | (refine runD Γ hm 400 (by kernel_rfl) ?_)); (conv => whnf)))))
    refine G_data 1000 rfl ?_
    exact done rfl (.cons (.cell rfl rfl rfl rfl) .nil) [] (makerO n t) (fun _ h => h) rfl rfl ⟨trivial, ⟨.inl rfl, rfl, .inl rfl, rfl, trivial⟩, rfl, rfl⟩

theorem linksS (n : Net) (s : Int) (hn : n.links.length < 100000) : Sy.Spec Try.prog 57 [.ptr 0 0] (makerO n s) (stepSV ⟨5, 0, 0, 0, [], (linksM n.links.length s).1⟩) (makerO n (linksM n.links.length s).2) :=
  (links0S n s hn).viewR fun _ _ _ h => stepR_view (fun _ => Rd_nil_sl) (fun _ h => h) h

/-- What a net's addresses are. -/
def AddrsIn (n : Net) : Prop := ∀ x ∈ n.irbs, 0 ≤ x.addr ∧ x.addr < 4294967296

theorem station_eq {d : Int} (h0 : 0 ≤ d) (h1 : d < 8) : IntKind.u64.wrap (10995116277760 + IntKind.u64.wrap d) = ((10995116277760 + d.toNat : Nat) : Int) := by
  rw [IntKind.wrap_u64, IntKind.wrap_u64]
  omega

def frameR (d s t b : SV) : SV := .agg [d, s, t, b]
theorem frameR_view {κ : Ka} {w : World} {d s t b b' : SV} (hb : ∀ v, Rd κ w b v → Rd κ w b' v) {v : Value} (h : Rd κ w (frameR d s t b) v) : Rd κ w (frameR d s t b') v := by
  simp only [frameR, Rd, RdL] at h ⊢
  obtain ⟨cs, h1, h2, v0, r0, h3, h4, v1, r1, h5, h6, v2, r2, h7, h8, v3, r3, h9, h10, h11⟩ := h
  exact ⟨cs, h1, h2, v0, r0, h3, h4, v1, r1, h5, h6, v2, r2, h7, h8, v3, r3, h9, hb _ h10, h11⟩

theorem frame_eq (n : Net) (s : Int) : frameM n s =
    if drawI (nextN (nextN s)) 4 = 0 ∨ (drawI (nextN (nextN s)) 4 = 1 ∧ n.irbs.length = 0) then (⟨281474976710655, 10995116277760 + (drawI (nextN s) 8).toNat, 34997, []⟩, nextN (nextN s))
    else if drawI (nextN (nextN s)) 4 = 1 then
      (⟨hostN (nth n.irbs (drawI (nextN (nextN (nextN s))) n.irbs.length)).addr, 10995116277760 + (drawI (nextN s) 8).toNat, 2048, ipL (IntKind.u32.wrap (firstI (nth n.irbs (drawI (nextN (nextN (nextN (nextN s)))) n.irbs.length)).addr (nth n.irbs (drawI (nextN (nextN (nextN (nextN s)))) n.irbs.length)).bits + drawI (nextN (nextN (nextN (nextN (nextN s))))) 4)).toNat⟩, nextN (nextN (nextN (nextN (nextN s)))))
    else (⟨10995116277760 + (drawI (nextN (nextN (nextN s))) 8).toNat, 10995116277760 + (drawI (nextN s) 8).toNat, 34997, []⟩, nextN (nextN (nextN s))) := rfl

theorem frameS (n : Net) (s : Int) (hn : AddrsIn n) (hil : n.irbs.length < 100000) : Sy.Spec Try.prog 71 [.ptr 0 0] (makerO n s) (frameSV (frameM n s).1) (makerO n (frameM n s).2) := by
  have hd1 := drawI_range (s := nextN s) (b := 8) (by decide)
  have hd2 := drawI_range (s := nextN (nextN s)) (b := 4) (by decide)
  have hst := station_eq hd1.1 hd1.2
  rw [frame_eq]
  have q1 := drawS s 8
  have q2 := drawS (nextN s) 4
  generalize drawI (nextN s) 8 = d1 at *
  generalize drawI (nextN (nextN s)) 4 = d2 at *
  split
  · rename_i hc
    refine Spec.viewR (R := frameR (u64SV (281474976710655 : Nat)) (u64SV (10995116277760 + d1.toNat : Nat)) (intSV (34997 : Nat)) (.val (.slice none 0 0))) ?_ fun _ _ _ h => frameR_view (fun _ => Rd_nil_sl) h
    refine contract Γ hm 100 F71 Try.ntmps71 rfl fun F hF => by
      ((conv => whnf); repeat (first | (refine ⟨fun (h : false = true) => (Bool.false_ne_true h).elim, fun _ => ?_⟩; ((first | (refine run Γ hm 400 ?_) | (refine runD Γ hm 400 (by kernel_rfl) ?_)); (conv => whnf))) | (refine ⟨fun _ => ?_, fun (h : true = false) => (Bool.false_ne_true h.symm).elim⟩; ((first | (refine run Γ hm 400 ?_) | (refine runD Γ hm 400 (by kernel_rfl) ?_)); (conv => whnf)))))
      refine stepOp (good_callE [(0, 1)] (enters_clo rfl rfl F35) q1 rfl ⟨rfl, trivial⟩ rfl ⟨.inl rfl, trivial⟩) rfl rfl ?_
      (((first | (refine run Γ hm 400 ?_) | (refine runD Γ hm 400 (by kernel_rfl) ?_)); (conv => whnf)); repeat (first | (refine ⟨fun (h : false = true) => (Bool.false_ne_true h).elim, fun _ => ?_⟩; ((first | (refine run Γ hm 400 ?_) | (refine runD Γ hm 400 (by kernel_rfl) ?_)); (conv => whnf))) | (refine ⟨fun _ => ?_, fun (h : true = false) => (Bool.false_ne_true h.symm).elim⟩; ((first | (refine run Γ hm 400 ?_) | (refine runD Γ hm 400 (by kernel_rfl) ?_)); (conv => whnf)))))
      rw [hst]
      refine stepOp (good_callE [(0, 1)] (enters_clo rfl rfl F35) q2 rfl ⟨rfl, trivial⟩ rfl ⟨.inl rfl, trivial⟩) rfl rfl ?_
      (((first | (refine run Γ hm 400 ?_) | (refine runD Γ hm 400 (by kernel_rfl) ?_)); (conv => whnf)); repeat (first | (refine ⟨fun (h : false = true) => (Bool.false_ne_true h).elim, fun _ => ?_⟩; ((first | (refine run Γ hm 400 ?_) | (refine runD Γ hm 400 (by kernel_rfl) ?_)); (conv => whnf))) | (refine ⟨fun _ => ?_, fun (h : true = false) => (Bool.false_ne_true h.symm).elim⟩; ((first | (refine run Γ hm 400 ?_) | (refine runD Γ hm 400 (by kernel_rfl) ?_)); (conv => whnf)))))
      (repeat' (first | (refine ⟨fun h => ?_, fun h => ?_⟩ <;> (repeat (first | (simp only [decide_eq_true_eq] at h) | (simp only [decide_eq_false_iff_not] at h) | (simp only [beq_iff_eq] at h) | (simp only [beq_eq_false_iff_ne] at h) | (simp only [bne_iff_ne] at h) | (simp only [bne_eq_false_iff_eq] at h) | (simp only [Bool.and_eq_true] at h) | (simp only [Bool.or_eq_true] at h) | (simp only [Bool.and_eq_false_iff] at h) | (simp only [Bool.or_eq_false_iff] at h) | (simp only [Bool.not_eq_true'] at h) | (simp only [Bool.not_eq_false'] at h) | (simp only [Bool.not_eq_eq_eq_not] at h) | (simp only [Bool.not_true] at h) | (simp only [Bool.not_false] at h))) <;> (((first | (refine run Γ hm 400 ?_) | (refine runD Γ hm 400 (by kernel_rfl) ?_)); (conv => whnf)); repeat (first | (refine ⟨fun (h : false = true) => (Bool.false_ne_true h).elim, fun _ => ?_⟩; ((first | (refine run Γ hm 400 ?_) | (refine runD Γ hm 400 (by kernel_rfl) ?_)); (conv => whnf))) | (refine ⟨fun _ => ?_, fun (h : true = false) => (Bool.false_ne_true h.symm).elim⟩; ((first | (refine run Γ hm 400 ?_) | (refine runD Γ hm 400 (by kernel_rfl) ?_)); (conv => whnf)))))) | (refine done0 rfl (.cons .tmp .nil) ?_ rfl) | (refine ⟨(by kernel_rfl), ?_⟩; ((conv => whnf); repeat (first | (refine ⟨fun (h : false = true) => (Bool.false_ne_true h).elim, fun _ => ?_⟩; ((first | (refine run Γ hm 400 ?_) | (refine runD Γ hm 400 (by kernel_rfl) ?_)); (conv => whnf))) | (refine ⟨fun _ => ?_, fun (h : true = false) => (Bool.false_ne_true h.symm).elim⟩; ((first | (refine run Γ hm 400 ?_) | (refine runD Γ hm 400 (by kernel_rfl) ?_)); (conv => whnf)))))) | (refine ⟨by (first | (unfold I64; omega) | omega | (simp only [Int.toNat_natCast]; omega) | done), by (first | (unfold I64; omega) | omega | (simp only [Int.toNat_natCast]; omega) | done), ?_⟩; ((conv => whnf); repeat (first | (refine ⟨fun (h : false = true) => (Bool.false_ne_true h).elim, fun _ => ?_⟩; ((first | (refine run Γ hm 400 ?_) | (refine runD Γ hm 400 (by kernel_rfl) ?_)); (conv => whnf))) | (refine ⟨fun _ => ?_, fun (h : true = false) => (Bool.false_ne_true h.symm).elim⟩; ((first | (refine run Γ hm 400 ?_) | (refine runD Γ hm 400 (by kernel_rfl) ?_)); (conv => whnf)))))) | (refine ⟨by (first | (unfold I64; omega) | omega | (simp only [Int.toNat_natCast]; omega) | done), ?_⟩; ((conv => whnf); repeat (first | (refine ⟨fun (h : false = true) => (Bool.false_ne_true h).elim, fun _ => ?_⟩; ((first | (refine run Γ hm 400 ?_) | (refine runD Γ hm 400 (by kernel_rfl) ?_)); (conv => whnf))) | (refine ⟨fun _ => ?_, fun (h : true = false) => (Bool.false_ne_true h.symm).elim⟩; ((first | (refine run Γ hm 400 ?_) | (refine runD Γ hm 400 (by kernel_rfl) ?_)); (conv => whnf)))))) | (refine done rfl (.cons (.cell rfl rfl rfl rfl) .nil) [] (makerO n (nextN (nextN s))) (fun _ h => h) rfl rfl ⟨trivial, ⟨.inl rfl, rfl, .inl rfl, rfl, trivial⟩, rfl, rfl⟩)))
      all_goals (exfalso; clear hF q1 q2 hst; omega)
  · rename_i hc
    split
    · rename_i hk
      subst hk
      have hpos : 0 < n.irbs.length := by omega
      have hd3 := drawI_range (s := nextN (nextN (nextN s))) (b := n.irbs.length) (by omega)
      have hd4 := drawI_range (s := nextN (nextN (nextN (nextN s)))) (b := n.irbs.length) (by omega)
      have hd5 := drawI_range (s := nextN (nextN (nextN (nextN (nextN s))))) (b := 4) (by decide)
      have q3 := drawS (nextN (nextN s)) n.irbs.length
      have q4 := drawS (nextN (nextN (nextN s))) n.irbs.length
      have q5 := drawS (nextN (nextN (nextN (nextN s)))) 4
      generalize drawI (nextN (nextN (nextN s))) n.irbs.length = d3 at *
      generalize drawI (nextN (nextN (nextN (nextN s)))) n.irbs.length = d4 at *
      generalize drawI (nextN (nextN (nextN (nextN (nextN s))))) 4 = d5 at *
      rw [nth_eq (l := n.irbs) (i := d3) (by omega), nth_eq (l := n.irbs) (i := d4) (by omega)]
      have hx := hn _ (List.getElem_mem (show d3.toNat < n.irbs.length by omega))
      have hy := hn _ (List.getElem_mem (show d4.toNat < n.irbs.length by omega))
      obtain ⟨x, hx'⟩ : ∃ x, n.irbs[d3.toNat]'(by omega) = x := ⟨_, rfl⟩
      obtain ⟨y, hy'⟩ : ∃ y, n.irbs[d4.toNat]'(by omega) = y := ⟨_, rfl⟩
      rw [hx'] at hx ⊢
      rw [hy'] at hy ⊢
      obtain ⟨ax, hax⟩ : ∃ a : Nat, x.addr = a := ⟨x.addr.toNat, by omega⟩
      obtain ⟨ay, hay⟩ : ∃ a : Nat, y.addr = a := ⟨y.addr.toNat, by omega⟩
      have hto : ∃ to : Nat, IntKind.u32.wrap (firstI y.addr y.bits + d5) = to ∧ to < 4294967296 := ⟨(IntKind.u32.wrap (firstI y.addr y.bits + d5)).toNat, by rw [IntKind.wrap_u32]; omega, by rw [IntKind.wrap_u32]; omega⟩
      obtain ⟨to, hto1, hto2⟩ := hto
      have hto3 : IntKind.u32.wrap (firstI y.addr y.bits + IntKind.u32.wrap d5) = to := by
        rw [← hto1, IntKind.wrap_u32, IntKind.wrap_u32, IntKind.wrap_u32]
        omega
      rw [hto1, Int.toNat_natCast]
      have c1 := hostS ax (by omega)
      have c2 := addrFirstS ay y.bits (by omega)
      rw [← hax] at c1
      rw [← hay] at c2
      have c3 := ipPutS to hto2
      refine contract Γ hm 100 F71 Try.ntmps71 rfl fun F hF => by
        ((conv => whnf); repeat (first | (refine ⟨fun (h : false = true) => (Bool.false_ne_true h).elim, fun _ => ?_⟩; ((first | (refine run Γ hm 400 ?_) | (refine runD Γ hm 400 (by kernel_rfl) ?_)); (conv => whnf))) | (refine ⟨fun _ => ?_, fun (h : true = false) => (Bool.false_ne_true h.symm).elim⟩; ((first | (refine run Γ hm 400 ?_) | (refine runD Γ hm 400 (by kernel_rfl) ?_)); (conv => whnf)))))
        refine stepOp (good_callE [(0, 1)] (enters_clo rfl rfl F35) q1 rfl ⟨rfl, trivial⟩ rfl ⟨.inl rfl, trivial⟩) rfl rfl ?_
        (((first | (refine run Γ hm 400 ?_) | (refine runD Γ hm 400 (by kernel_rfl) ?_)); (conv => whnf)); repeat (first | (refine ⟨fun (h : false = true) => (Bool.false_ne_true h).elim, fun _ => ?_⟩; ((first | (refine run Γ hm 400 ?_) | (refine runD Γ hm 400 (by kernel_rfl) ?_)); (conv => whnf))) | (refine ⟨fun _ => ?_, fun (h : true = false) => (Bool.false_ne_true h.symm).elim⟩; ((first | (refine run Γ hm 400 ?_) | (refine runD Γ hm 400 (by kernel_rfl) ?_)); (conv => whnf)))))
        rw [hst]
        refine stepOp (good_callE [(0, 1)] (enters_clo rfl rfl F35) q2 rfl ⟨rfl, trivial⟩ rfl ⟨.inl rfl, trivial⟩) rfl rfl ?_
        (((first | (refine run Γ hm 400 ?_) | (refine runD Γ hm 400 (by kernel_rfl) ?_)); (conv => whnf)); repeat (first | (refine ⟨fun (h : false = true) => (Bool.false_ne_true h).elim, fun _ => ?_⟩; ((first | (refine run Γ hm 400 ?_) | (refine runD Γ hm 400 (by kernel_rfl) ?_)); (conv => whnf))) | (refine ⟨fun _ => ?_, fun (h : true = false) => (Bool.false_ne_true h.symm).elim⟩; ((first | (refine run Γ hm 400 ?_) | (refine runD Γ hm 400 (by kernel_rfl) ?_)); (conv => whnf)))))
        refine ⟨fun h => absurd (show (n.irbs.length : Int) = 0 by simpa using h) (by omega), fun _ => ?_⟩
        (((first | (refine run Γ hm 400 ?_) | (refine runD Γ hm 400 (by kernel_rfl) ?_)); (conv => whnf)); repeat (first | (refine ⟨fun (h : false = true) => (Bool.false_ne_true h).elim, fun _ => ?_⟩; ((first | (refine run Γ hm 400 ?_) | (refine runD Γ hm 400 (by kernel_rfl) ?_)); (conv => whnf))) | (refine ⟨fun _ => ?_, fun (h : true = false) => (Bool.false_ne_true h.symm).elim⟩; ((first | (refine run Γ hm 400 ?_) | (refine runD Γ hm 400 (by kernel_rfl) ?_)); (conv => whnf)))))
        refine stepOp (good_callE [(0, 1)] (enters_clo rfl rfl F35) q3 rfl ⟨rfl, trivial⟩ rfl ⟨.inl rfl, trivial⟩) rfl rfl ?_
        (((first | (refine run Γ hm 400 ?_) | (refine runD Γ hm 400 (by kernel_rfl) ?_)); (conv => whnf)); repeat (first | (refine ⟨fun (h : false = true) => (Bool.false_ne_true h).elim, fun _ => ?_⟩; ((first | (refine run Γ hm 400 ?_) | (refine runD Γ hm 400 (by kernel_rfl) ?_)); (conv => whnf))) | (refine ⟨fun _ => ?_, fun (h : true = false) => (Bool.false_ne_true h.symm).elim⟩; ((first | (refine run Γ hm 400 ?_) | (refine runD Γ hm 400 (by kernel_rfl) ?_)); (conv => whnf)))))
        refine ⟨rfl, by omega, by omega, ?_⟩
        rw [hx']
        ((conv => whnf); repeat (first | (refine ⟨fun (h : false = true) => (Bool.false_ne_true h).elim, fun _ => ?_⟩; ((first | (refine run Γ hm 400 ?_) | (refine runD Γ hm 400 (by kernel_rfl) ?_)); (conv => whnf))) | (refine ⟨fun _ => ?_, fun (h : true = false) => (Bool.false_ne_true h.symm).elim⟩; ((first | (refine run Γ hm 400 ?_) | (refine runD Γ hm 400 (by kernel_rfl) ?_)); (conv => whnf)))))
        refine call0 c1 F78 rfl rfl rfl rfl rfl ?_
        (((first | (refine run Γ hm 400 ?_) | (refine runD Γ hm 400 (by kernel_rfl) ?_)); (conv => whnf)); repeat (first | (refine ⟨fun (h : false = true) => (Bool.false_ne_true h).elim, fun _ => ?_⟩; ((first | (refine run Γ hm 400 ?_) | (refine runD Γ hm 400 (by kernel_rfl) ?_)); (conv => whnf))) | (refine ⟨fun _ => ?_, fun (h : true = false) => (Bool.false_ne_true h.symm).elim⟩; ((first | (refine run Γ hm 400 ?_) | (refine runD Γ hm 400 (by kernel_rfl) ?_)); (conv => whnf)))))
        refine stepOp (good_callE [(0, 1)] (enters_clo rfl rfl F35) q4 rfl ⟨rfl, trivial⟩ rfl ⟨.inl rfl, trivial⟩) rfl rfl ?_
        (((first | (refine run Γ hm 400 ?_) | (refine runD Γ hm 400 (by kernel_rfl) ?_)); (conv => whnf)); repeat (first | (refine ⟨fun (h : false = true) => (Bool.false_ne_true h).elim, fun _ => ?_⟩; ((first | (refine run Γ hm 400 ?_) | (refine runD Γ hm 400 (by kernel_rfl) ?_)); (conv => whnf))) | (refine ⟨fun _ => ?_, fun (h : true = false) => (Bool.false_ne_true h.symm).elim⟩; ((first | (refine run Γ hm 400 ?_) | (refine runD Γ hm 400 (by kernel_rfl) ?_)); (conv => whnf)))))
        refine ⟨rfl, by omega, by omega, ?_⟩
        rw [hy']
        ((conv => whnf); repeat (first | (refine ⟨fun (h : false = true) => (Bool.false_ne_true h).elim, fun _ => ?_⟩; ((first | (refine run Γ hm 400 ?_) | (refine runD Γ hm 400 (by kernel_rfl) ?_)); (conv => whnf))) | (refine ⟨fun _ => ?_, fun (h : true = false) => (Bool.false_ne_true h.symm).elim⟩; ((first | (refine run Γ hm 400 ?_) | (refine runD Γ hm 400 (by kernel_rfl) ?_)); (conv => whnf)))))
        refine call0 c2 F79 rfl rfl rfl rfl rfl ?_
        (((first | (refine run Γ hm 400 ?_) | (refine runD Γ hm 400 (by kernel_rfl) ?_)); (conv => whnf)); repeat (first | (refine ⟨fun (h : false = true) => (Bool.false_ne_true h).elim, fun _ => ?_⟩; ((first | (refine run Γ hm 400 ?_) | (refine runD Γ hm 400 (by kernel_rfl) ?_)); (conv => whnf))) | (refine ⟨fun _ => ?_, fun (h : true = false) => (Bool.false_ne_true h.symm).elim⟩; ((first | (refine run Γ hm 400 ?_) | (refine runD Γ hm 400 (by kernel_rfl) ?_)); (conv => whnf)))))
        refine stepOp (good_callE [(0, 1)] (enters_clo rfl rfl F35) q5 rfl ⟨rfl, trivial⟩ rfl ⟨.inl rfl, trivial⟩) rfl rfl ?_
        (((first | (refine run Γ hm 400 ?_) | (refine runD Γ hm 400 (by kernel_rfl) ?_)); (conv => whnf)); repeat (first | (refine ⟨fun (h : false = true) => (Bool.false_ne_true h).elim, fun _ => ?_⟩; ((first | (refine run Γ hm 400 ?_) | (refine runD Γ hm 400 (by kernel_rfl) ?_)); (conv => whnf))) | (refine ⟨fun _ => ?_, fun (h : true = false) => (Bool.false_ne_true h.symm).elim⟩; ((first | (refine run Γ hm 400 ?_) | (refine runD Γ hm 400 (by kernel_rfl) ?_)); (conv => whnf)))))
        rw [hto3]
        refine stepOp (good_call [(0, 87)] rfl F80 c3 rfl trivial rfl ⟨.inr rfl, trivial⟩) rfl rfl ?_
        (((first | (refine run Γ hm 400 ?_) | (refine runD Γ hm 400 (by kernel_rfl) ?_)); (conv => whnf)); repeat (first | (refine ⟨fun (h : false = true) => (Bool.false_ne_true h).elim, fun _ => ?_⟩; ((first | (refine run Γ hm 400 ?_) | (refine runD Γ hm 400 (by kernel_rfl) ?_)); (conv => whnf))) | (refine ⟨fun _ => ?_, fun (h : true = false) => (Bool.false_ne_true h.symm).elim⟩; ((first | (refine run Γ hm 400 ?_) | (refine runD Γ hm 400 (by kernel_rfl) ?_)); (conv => whnf)))))
        refine G_data 87 rfl ?_
        exact done rfl (.cons (.cell rfl rfl rfl rfl) .nil) [] (makerO n (nextN (nextN (nextN (nextN (nextN s)))))) (fun _ h => h) rfl rfl ⟨trivial, ⟨.inl rfl, rfl, .inl rfl, rfl, trivial⟩, rfl, rfl⟩
    · rename_i hk
      have hd3 := drawI_range (s := nextN (nextN (nextN s))) (b := 8) (by decide)
      have q3 := drawS (nextN (nextN s)) 8
      generalize drawI (nextN (nextN (nextN s))) 8 = d3 at *
      have hst3 := station_eq hd3.1 hd3.2
      refine Spec.viewR (R := frameR (u64SV (10995116277760 + d3.toNat : Nat)) (u64SV (10995116277760 + d1.toNat : Nat)) (intSV (34997 : Nat)) (.val (.slice none 0 0))) ?_ fun _ _ _ h => frameR_view (fun _ => Rd_nil_sl) h
      refine contract Γ hm 100 F71 Try.ntmps71 rfl fun F hF => by
        ((conv => whnf); repeat (first | (refine ⟨fun (h : false = true) => (Bool.false_ne_true h).elim, fun _ => ?_⟩; ((first | (refine run Γ hm 400 ?_) | (refine runD Γ hm 400 (by kernel_rfl) ?_)); (conv => whnf))) | (refine ⟨fun _ => ?_, fun (h : true = false) => (Bool.false_ne_true h.symm).elim⟩; ((first | (refine run Γ hm 400 ?_) | (refine runD Γ hm 400 (by kernel_rfl) ?_)); (conv => whnf)))))
        refine stepOp (good_callE [(0, 1)] (enters_clo rfl rfl F35) q1 rfl ⟨rfl, trivial⟩ rfl ⟨.inl rfl, trivial⟩) rfl rfl ?_
        (((first | (refine run Γ hm 400 ?_) | (refine runD Γ hm 400 (by kernel_rfl) ?_)); (conv => whnf)); repeat (first | (refine ⟨fun (h : false = true) => (Bool.false_ne_true h).elim, fun _ => ?_⟩; ((first | (refine run Γ hm 400 ?_) | (refine runD Γ hm 400 (by kernel_rfl) ?_)); (conv => whnf))) | (refine ⟨fun _ => ?_, fun (h : true = false) => (Bool.false_ne_true h.symm).elim⟩; ((first | (refine run Γ hm 400 ?_) | (refine runD Γ hm 400 (by kernel_rfl) ?_)); (conv => whnf)))))
        rw [hst]
        refine stepOp (good_callE [(0, 1)] (enters_clo rfl rfl F35) q2 rfl ⟨rfl, trivial⟩ rfl ⟨.inl rfl, trivial⟩) rfl rfl ?_
        (((first | (refine run Γ hm 400 ?_) | (refine runD Γ hm 400 (by kernel_rfl) ?_)); (conv => whnf)); repeat (first | (refine ⟨fun (h : false = true) => (Bool.false_ne_true h).elim, fun _ => ?_⟩; ((first | (refine run Γ hm 400 ?_) | (refine runD Γ hm 400 (by kernel_rfl) ?_)); (conv => whnf))) | (refine ⟨fun _ => ?_, fun (h : true = false) => (Bool.false_ne_true h.symm).elim⟩; ((first | (refine run Γ hm 400 ?_) | (refine runD Γ hm 400 (by kernel_rfl) ?_)); (conv => whnf)))))
        refine ⟨fun h => absurd (show d2 = 0 by simpa using h) (fun e => hc (.inl e)), fun _ => ?_⟩
        (((first | (refine run Γ hm 400 ?_) | (refine runD Γ hm 400 (by kernel_rfl) ?_)); (conv => whnf)); repeat (first | (refine ⟨fun (h : false = true) => (Bool.false_ne_true h).elim, fun _ => ?_⟩; ((first | (refine run Γ hm 400 ?_) | (refine runD Γ hm 400 (by kernel_rfl) ?_)); (conv => whnf))) | (refine ⟨fun _ => ?_, fun (h : true = false) => (Bool.false_ne_true h.symm).elim⟩; ((first | (refine run Γ hm 400 ?_) | (refine runD Γ hm 400 (by kernel_rfl) ?_)); (conv => whnf)))))
        refine ⟨fun h => absurd (show d2 = 1 by simpa using h) hk, fun _ => ?_⟩
        (((first | (refine run Γ hm 400 ?_) | (refine runD Γ hm 400 (by kernel_rfl) ?_)); (conv => whnf)); repeat (first | (refine ⟨fun (h : false = true) => (Bool.false_ne_true h).elim, fun _ => ?_⟩; ((first | (refine run Γ hm 400 ?_) | (refine runD Γ hm 400 (by kernel_rfl) ?_)); (conv => whnf))) | (refine ⟨fun _ => ?_, fun (h : true = false) => (Bool.false_ne_true h.symm).elim⟩; ((first | (refine run Γ hm 400 ?_) | (refine runD Γ hm 400 (by kernel_rfl) ?_)); (conv => whnf)))))
        refine ⟨fun h => absurd (show d2 = 1 by simpa using h) hk, fun _ => ?_⟩
        (((first | (refine run Γ hm 400 ?_) | (refine runD Γ hm 400 (by kernel_rfl) ?_)); (conv => whnf)); repeat (first | (refine ⟨fun (h : false = true) => (Bool.false_ne_true h).elim, fun _ => ?_⟩; ((first | (refine run Γ hm 400 ?_) | (refine runD Γ hm 400 (by kernel_rfl) ?_)); (conv => whnf))) | (refine ⟨fun _ => ?_, fun (h : true = false) => (Bool.false_ne_true h.symm).elim⟩; ((first | (refine run Γ hm 400 ?_) | (refine runD Γ hm 400 (by kernel_rfl) ?_)); (conv => whnf)))))
        refine stepOp (good_callE [(0, 1)] (enters_clo rfl rfl F35) q3 rfl ⟨rfl, trivial⟩ rfl ⟨.inl rfl, trivial⟩) rfl rfl ?_
        (((first | (refine run Γ hm 400 ?_) | (refine runD Γ hm 400 (by kernel_rfl) ?_)); (conv => whnf)); repeat (first | (refine ⟨fun (h : false = true) => (Bool.false_ne_true h).elim, fun _ => ?_⟩; ((first | (refine run Γ hm 400 ?_) | (refine runD Γ hm 400 (by kernel_rfl) ?_)); (conv => whnf))) | (refine ⟨fun _ => ?_, fun (h : true = false) => (Bool.false_ne_true h.symm).elim⟩; ((first | (refine run Γ hm 400 ?_) | (refine runD Γ hm 400 (by kernel_rfl) ?_)); (conv => whnf)))))
        rw [hst3]
        exact done rfl (.cons (.cell rfl rfl rfl rfl) .nil) [] (makerO n (nextN (nextN (nextN s)))) (fun _ h => h) rfl rfl ⟨trivial, ⟨.inl rfl, rfl, .inl rfl, rfl, trivial⟩, rfl, rfl⟩
end Go.Sy.Ytnccojbdjjnoiaa

namespace Go.Sy.Ytnccojbdjjnoiaa
open Go.Proofs

attribute [local irreducible] Go.Sy.G Go.Sy.DR
set_option maxRecDepth 100000
set_option maxHeartbeats 4000000

theorem r_port {n : Net} (h : netRightB n = true) {i : Nat} (hi : i < n.ports.length) : portB n i n.ports[i] = true := by
  simp only [netRightB, Bool.and_eq_true] at h
  exact allB_iff.1 h.1.1.1.1.1.2 i hi
theorem r_few {n : Net} (h : netRightB n = true) : n.devices.length ≤ 8 ∧ n.ports.length ≤ 40 ∧ n.links.length ≤ 20 ∧ n.domains.length ≤ 48 ∧ n.irbs.length ≤ 48 := by
  simp only [netRightB, fewB, Bool.and_eq_true, decide_eq_true_eq] at h
  omega

theorem rising_in {l : List Int} {a b : Int} (h : risingB l a b = true) {x : Int} (hx : x ∈ l) : a ≤ x ∧ x ≤ b := by
  simp only [risingB, Bool.and_eq_true, decide_eq_true_eq] at h
  obtain ⟨i, hi, rfl⟩ := List.getElem_of_mem hx
  have := allB_iff.1 h.2 i hi
  simp only [riseP, Bool.and_eq_true, decide_eq_true_eq] at this
  exact ⟨this.1.1, this.1.2⟩

theorem port_vlans {n : Net} (h : netRightB n = true) {i : Nat} (hi : i < n.ports.length) : vlansL n.ports[i] ≠ [] ∧ n.ports[i].tagged.length ≤ 16 ∧ 0 ≤ n.ports[i].native ∧ ∀ v ∈ vlansL n.ports[i], 0 ≤ v ∧ v ≤ 4094 := by
  have hp := r_port h hi
  simp only [portB, Bool.and_eq_true, decide_eq_true_eq, Bool.or_eq_true, Bool.not_eq_true', Bool.and_eq_false_iff, beq_eq_false_iff_ne, decide_eq_false_iff_not] at hp
  obtain ⟨⟨⟨⟨⟨⟨⟨⟨_, h1⟩, h2⟩, h3⟩, _⟩, h4⟩, _⟩, _⟩, _⟩ := hp
  generalize n.ports[i] = p at *
  have hl : p.tagged.length ≤ 16 := by
    rcases h3 with h3 | h3
    · omega
    · simp only [risingB, Bool.and_eq_true, decide_eq_true_eq] at h3; omega
  have ht : ∀ v ∈ p.tagged, 0 ≤ v ∧ v ≤ 4094 := fun v hv => by
    rcases h3 with h3 | h3
    · rw [List.eq_nil_of_length_eq_zero h3] at hv; cases hv
    · have := rising_in h3 hv; omega
  refine ⟨?_, hl, h1, ?_⟩
  · unfold vlansL
    split
    · simp
    · rename_i hz
      rcases h4 with h4 | h4
      · exact absurd h4 hz
      · intro e; rw [e] at h4; exact h4 rfl
  · unfold vlansL
    split
    · intro v hv
      rcases List.mem_cons.1 hv with rfl | hv
      · exact ⟨h1, h2⟩
      · exact ht v hv
    · exact ht

theorem ipL_length (to : Nat) : (ipL to).length = 20 := by simp [ipL, be_length]
theorem nth_addr {n : Net} (hn : AddrsIn n) (d : Int) : 0 ≤ (nth n.irbs d).addr ∧ (nth n.irbs d).addr < 4294967296 := by
  rw [nth]
  cases h : n.irbs[d.toNat]? with
  | none => exact ⟨by decide, by decide⟩
  | some x => exact hn x (List.mem_of_getElem? h)

theorem frameM_ok (n : Net) (s : Int) (hn : AddrsIn n) : (frameM n s).1.dst < 281474976710656 ∧ (frameM n s).1.src < 281474976710656 ∧ ((frameM n s).1.typ = 34997 ∨ (frameM n s).1.typ = 2048) ∧ (frameM n s).1.body.length ≤ 20 := by
  have hd1 := drawI_range (s := nextN s) (b := 8) (by decide)
  rw [frame_eq]
  split
  · exact ⟨by dsimp only; omega, by dsimp only; omega, .inl rfl, by simp⟩
  · split
    · have := nth_addr hn (drawI (nextN (nextN (nextN s))) n.irbs.length)
      exact ⟨by dsimp only; unfold hostN; omega, by dsimp only; omega, .inr rfl, by dsimp only; rw [ipL_length]; decide⟩
    · have hd3 := drawI_range (s := nextN (nextN (nextN s))) (b := 8) (by decide)
      exact ⟨by dsimp only; omega, by dsimp only; omega, .inl rfl, by simp⟩

theorem etherPutN (f : FrameM) (h : f.dst < 281474976710656 ∧ f.src < 281474976710656 ∧ f.typ ≤ 65535 ∧ f.body.length ≤ 1504) : Sy.Spec Try.prog 73 [frameSV f] [] (.tup [.osl 0, intSV 0]) [(0, .row 1 byteSV (frame f.dst f.src f.typ f.body))] :=
  etherPut_ok f.dst f.src f.typ f.body h.1 h.2.1 h.2.2.1 h.2.2.2

theorem injectS (n : Net) (s : Int) (hr : netRightB n = true) (hn : AddrsIn n) (hh : 0 < (hostsL n n.ports.length).length) :
    Sy.Spec Try.prog 56 [.ptr 0 0] (makerO n s) (stepSV (injectM n s).1) (makerO n (injectM n s).2) := by
  have hf := r_few hr
  have hhl := hostsL_length n n.ports.length
  obtain ⟨d, hd⟩ : ∃ d, drawI (nextN s) (hostsL n n.ports.length).length = d := ⟨_, rfl⟩
  have hdr := drawI_range (s := nextN s) (b := (hostsL n n.ports.length).length) (by omega)
  have q1 := drawS s (hostsL n n.ports.length).length
  rw [hd] at hdr q1
  have hmem := hostsL_mem (List.getElem_mem (show d.toNat < (hostsL n n.ports.length).length by omega))
  obtain ⟨port, hport⟩ : ∃ port, (hostsL n n.ports.length)[d.toNat]'(by omega) = port := ⟨_, rfl⟩
  rw [hport] at hmem
  have hpv := port_vlans hr (i := port.toNat) (by omega)
  have hp2 : nth n.ports port = n.ports[port.toNat]'(by omega) := nth_eq (by omega)
  obtain ⟨p, hp⟩ : ∃ p, n.ports[port.toNat]'(by omega) = p := ⟨_, rfl⟩
  rw [hp] at hpv hp2
  obtain ⟨hv1, hv2, hv3, hv4⟩ := hpv
  have q2 := vlanS n p (nextN s) (by omega) hv1
  obtain ⟨v, hv⟩ : ∃ v, vlanM p (nextN s) = v := ⟨_, rfl⟩
  have hvm : v.1 ∈ vlansL p := by
    have h0 : 0 < (vlansL p).length := List.length_pos_iff.2 hv1
    have := drawI_range (s := nextN (nextN s)) (b := (vlansL p).length) (by omega)
    rw [← hv, vlanM, nth_eq (by omega)]
    exact List.getElem_mem _
  have hvr := hv4 _ hvm
  rw [hv] at q2
  have q3 := frameS n v.2 hn (by omega)
  have hfo := frameM_ok n v.2 hn
  have hM : injectM n s = (let g := if v.1 ≠ p.native then tagM (frameM n v.2).1 v.1 else (frameM n v.2).1; (⟨1, port, 0, 0, frame g.dst g.src g.typ g.body, []⟩, (frameM n v.2).2)) := by
    simp only [injectM]
    rw [hd, nth_eq (by omega), hport, hp2, hv]
  rw [hM]
  obtain ⟨f, hf'⟩ : ∃ f, frameM n v.2 = f := ⟨_, rfl⟩
  rw [hf'] at q3 hfo ⊢
  obtain ⟨⟨fd, fs, ft, fb⟩, t⟩ := f
  obtain ⟨v, sv⟩ := v
  obtain ⟨vn, hvn⟩ : ∃ vn : Nat, v = vn := ⟨v.toNat, by simp only at hvr; omega⟩
  subst hvn
  dsimp only at *
  by_cases hne : (vn : Int) ≠ p.native
  · have q4 := tagAddS fd fs ft vn fb (by omega) (by omega) (by omega) (by omega)
    have q5 := etherPutN (tagM ⟨fd, fs, ft, fb⟩ vn) ⟨hfo.1, hfo.2.1, by simp [tagM], by simp [tagM]; omega⟩
    rw [if_pos hne]
    refine Spec.viewR (R := stepR (intSV 1) (intSV port) (intSV 0) (intSV 0) (.sl 1 byteSV (frame fd fs 33024 ([UInt8.ofNat (vn / 256), UInt8.ofNat vn, UInt8.ofNat (ft / 256), UInt8.ofNat ft] ++ fb))) (.val (.slice none 0 0))) ?_ fun _ _ _ h => stepR_view (fun _ h => h) (fun _ => Rd_nil_sl) h
    refine contract Γ hm 100 F56 Try.ntmps56 rfl fun F hF => by
      ((conv => whnf); repeat (first | (refine ⟨fun (h : false = true) => (Bool.false_ne_true h).elim, fun _ => ?_⟩; ((first | (refine run Γ hm 400 ?_) | (refine runD Γ hm 400 (by kernel_rfl) ?_)); (conv => whnf))) | (refine ⟨fun _ => ?_, fun (h : true = false) => (Bool.false_ne_true h.symm).elim⟩; ((first | (refine run Γ hm 400 ?_) | (refine runD Γ hm 400 (by kernel_rfl) ?_)); (conv => whnf)))))
      refine stepD (good_callE [(0, 1)] (enters_clo rfl rfl F35) q1 rfl ⟨rfl, trivial⟩ rfl ⟨.inl rfl, trivial⟩) (by kernel_rfl) rfl ?_
      (((first | (refine run Γ hm 400 ?_) | (refine runD Γ hm 400 (by kernel_rfl) ?_)); (conv => whnf)); repeat (first | (refine ⟨fun (h : false = true) => (Bool.false_ne_true h).elim, fun _ => ?_⟩; ((first | (refine run Γ hm 400 ?_) | (refine runD Γ hm 400 (by kernel_rfl) ?_)); (conv => whnf))) | (refine ⟨fun _ => ?_, fun (h : true = false) => (Bool.false_ne_true h.symm).elim⟩; ((first | (refine run Γ hm 400 ?_) | (refine runD Γ hm 400 (by kernel_rfl) ?_)); (conv => whnf)))))
      refine ⟨rfl, by omega, by omega, ?_⟩
      ((conv => whnf); repeat (first | (refine ⟨fun (h : false = true) => (Bool.false_ne_true h).elim, fun _ => ?_⟩; ((first | (refine run Γ hm 400 ?_) | (refine runD Γ hm 400 (by kernel_rfl) ?_)); (conv => whnf))) | (refine ⟨fun _ => ?_, fun (h : true = false) => (Bool.false_ne_true h.symm).elim⟩; ((first | (refine run Γ hm 400 ?_) | (refine runD Γ hm 400 (by kernel_rfl) ?_)); (conv => whnf)))))
      refine ⟨(by kernel_rfl), ?_⟩
      rw [hport]
      ((conv => whnf); repeat (first | (refine ⟨fun (h : false = true) => (Bool.false_ne_true h).elim, fun _ => ?_⟩; ((first | (refine run Γ hm 400 ?_) | (refine runD Γ hm 400 (by kernel_rfl) ?_)); (conv => whnf))) | (refine ⟨fun _ => ?_, fun (h : true = false) => (Bool.false_ne_true h.symm).elim⟩; ((first | (refine run Γ hm 400 ?_) | (refine runD Γ hm 400 (by kernel_rfl) ?_)); (conv => whnf)))))
      refine ⟨rfl, by omega, by omega, ?_⟩
      rw [hp]
      ((conv => whnf); repeat (first | (refine ⟨fun (h : false = true) => (Bool.false_ne_true h).elim, fun _ => ?_⟩; ((first | (refine run Γ hm 400 ?_) | (refine runD Γ hm 400 (by kernel_rfl) ?_)); (conv => whnf))) | (refine ⟨fun _ => ?_, fun (h : true = false) => (Bool.false_ne_true h.symm).elim⟩; ((first | (refine run Γ hm 400 ?_) | (refine runD Γ hm 400 (by kernel_rfl) ?_)); (conv => whnf)))))
      refine stepOp (good_call [] rfl F70 q2 rfl ⟨rfl, rfl, trivial⟩ rfl ⟨.inl rfl, .inl rfl, trivial⟩) rfl rfl ?_
      (((first | (refine run Γ hm 400 ?_) | (refine runD Γ hm 400 (by kernel_rfl) ?_)); (conv => whnf)); repeat (first | (refine ⟨fun (h : false = true) => (Bool.false_ne_true h).elim, fun _ => ?_⟩; ((first | (refine run Γ hm 400 ?_) | (refine runD Γ hm 400 (by kernel_rfl) ?_)); (conv => whnf))) | (refine ⟨fun _ => ?_, fun (h : true = false) => (Bool.false_ne_true h.symm).elim⟩; ((first | (refine run Γ hm 400 ?_) | (refine runD Γ hm 400 (by kernel_rfl) ?_)); (conv => whnf)))))
      refine stepOp (good_call [] rfl F71 q3 rfl ⟨rfl, rfl, trivial⟩ rfl ⟨.inl rfl, .inl rfl, trivial⟩) rfl rfl ?_
      (((first | (refine run Γ hm 400 ?_) | (refine runD Γ hm 400 (by kernel_rfl) ?_)); (conv => whnf)); repeat (first | (refine ⟨fun (h : false = true) => (Bool.false_ne_true h).elim, fun _ => ?_⟩; ((first | (refine run Γ hm 400 ?_) | (refine runD Γ hm 400 (by kernel_rfl) ?_)); (conv => whnf))) | (refine ⟨fun _ => ?_, fun (h : true = false) => (Bool.false_ne_true h.symm).elim⟩; ((first | (refine run Γ hm 400 ?_) | (refine runD Γ hm 400 (by kernel_rfl) ?_)); (conv => whnf)))))
      refine ⟨rfl, by omega, by omega, ?_⟩
      rw [hp]
      ((conv => whnf); repeat (first | (refine ⟨fun (h : false = true) => (Bool.false_ne_true h).elim, fun _ => ?_⟩; ((first | (refine run Γ hm 400 ?_) | (refine runD Γ hm 400 (by kernel_rfl) ?_)); (conv => whnf))) | (refine ⟨fun _ => ?_, fun (h : true = false) => (Bool.false_ne_true h.symm).elim⟩; ((first | (refine run Γ hm 400 ?_) | (refine runD Γ hm 400 (by kernel_rfl) ?_)); (conv => whnf)))))
      refine ⟨fun _ => ?_, fun h => absurd (show (vn : Int) = p.native by simpa using h) hne⟩
      (((first | (refine run Γ hm 400 ?_) | (refine runD Γ hm 400 (by kernel_rfl) ?_)); (conv => whnf)); repeat (first | (refine ⟨fun (h : false = true) => (Bool.false_ne_true h).elim, fun _ => ?_⟩; ((first | (refine run Γ hm 400 ?_) | (refine runD Γ hm 400 (by kernel_rfl) ?_)); (conv => whnf))) | (refine ⟨fun _ => ?_, fun (h : true = false) => (Bool.false_ne_true h.symm).elim⟩; ((first | (refine run Γ hm 400 ?_) | (refine runD Γ hm 400 (by kernel_rfl) ?_)); (conv => whnf)))))
      refine call0 q4 F72 rfl rfl rfl rfl rfl ?_
      (((first | (refine run Γ hm 400 ?_) | (refine runD Γ hm 400 (by kernel_rfl) ?_)); (conv => whnf)); repeat (first | (refine ⟨fun (h : false = true) => (Bool.false_ne_true h).elim, fun _ => ?_⟩; ((first | (refine run Γ hm 400 ?_) | (refine runD Γ hm 400 (by kernel_rfl) ?_)); (conv => whnf))) | (refine ⟨fun _ => ?_, fun (h : true = false) => (Bool.false_ne_true h.symm).elim⟩; ((first | (refine run Γ hm 400 ?_) | (refine runD Γ hm 400 (by kernel_rfl) ?_)); (conv => whnf)))))
      refine stepOp (good_call [(0, 55)] rfl F73 q5 rfl trivial rfl ⟨.inr rfl, trivial⟩) rfl rfl ?_
      (((first | (refine run Γ hm 400 ?_) | (refine runD Γ hm 400 (by kernel_rfl) ?_)); (conv => whnf)); repeat (first | (refine ⟨fun (h : false = true) => (Bool.false_ne_true h).elim, fun _ => ?_⟩; ((first | (refine run Γ hm 400 ?_) | (refine runD Γ hm 400 (by kernel_rfl) ?_)); (conv => whnf))) | (refine ⟨fun _ => ?_, fun (h : true = false) => (Bool.false_ne_true h.symm).elim⟩; ((first | (refine run Γ hm 400 ?_) | (refine runD Γ hm 400 (by kernel_rfl) ?_)); (conv => whnf)))))
      refine G_data 55 rfl ?_
      exact done rfl (.cons (.cell rfl rfl rfl rfl) .nil) [] (makerO n t) (fun _ h => h) rfl rfl ⟨trivial, ⟨.inl rfl, rfl, .inl rfl, rfl, trivial⟩, rfl, rfl⟩
  · have q5 := etherPutN ⟨fd, fs, ft, fb⟩ ⟨hfo.1, hfo.2.1, by dsimp only; omega, by dsimp only; omega⟩
    rw [if_neg hne]
    refine Spec.viewR (R := stepR (intSV 1) (intSV port) (intSV 0) (intSV 0) (.sl 1 byteSV (frame fd fs ft fb)) (.val (.slice none 0 0))) ?_ fun _ _ _ h => stepR_view (fun _ h => h) (fun _ => Rd_nil_sl) h
    refine contract Γ hm 100 F56 Try.ntmps56 rfl fun F hF => by
      ((conv => whnf); repeat (first | (refine ⟨fun (h : false = true) => (Bool.false_ne_true h).elim, fun _ => ?_⟩; ((first | (refine run Γ hm 400 ?_) | (refine runD Γ hm 400 (by kernel_rfl) ?_)); (conv => whnf))) | (refine ⟨fun _ => ?_, fun (h : true = false) => (Bool.false_ne_true h.symm).elim⟩; ((first | (refine run Γ hm 400 ?_) | (refine runD Γ hm 400 (by kernel_rfl) ?_)); (conv => whnf)))))
      refine stepD (good_callE [(0, 1)] (enters_clo rfl rfl F35) q1 rfl ⟨rfl, trivial⟩ rfl ⟨.inl rfl, trivial⟩) (by kernel_rfl) rfl ?_
      (((first | (refine run Γ hm 400 ?_) | (refine runD Γ hm 400 (by kernel_rfl) ?_)); (conv => whnf)); repeat (first | (refine ⟨fun (h : false = true) => (Bool.false_ne_true h).elim, fun _ => ?_⟩; ((first | (refine run Γ hm 400 ?_) | (refine runD Γ hm 400 (by kernel_rfl) ?_)); (conv => whnf))) | (refine ⟨fun _ => ?_, fun (h : true = false) => (Bool.false_ne_true h.symm).elim⟩; ((first | (refine run Γ hm 400 ?_) | (refine runD Γ hm 400 (by kernel_rfl) ?_)); (conv => whnf)))))
      refine ⟨rfl, by omega, by omega, ?_⟩
      ((conv => whnf); repeat (first | (refine ⟨fun (h : false = true) => (Bool.false_ne_true h).elim, fun _ => ?_⟩; ((first | (refine run Γ hm 400 ?_) | (refine runD Γ hm 400 (by kernel_rfl) ?_)); (conv => whnf))) | (refine ⟨fun _ => ?_, fun (h : true = false) => (Bool.false_ne_true h.symm).elim⟩; ((first | (refine run Γ hm 400 ?_) | (refine runD Γ hm 400 (by kernel_rfl) ?_)); (conv => whnf)))))
      refine ⟨(by kernel_rfl), ?_⟩
      rw [hport]
      ((conv => whnf); repeat (first | (refine ⟨fun (h : false = true) => (Bool.false_ne_true h).elim, fun _ => ?_⟩; ((first | (refine run Γ hm 400 ?_) | (refine runD Γ hm 400 (by kernel_rfl) ?_)); (conv => whnf))) | (refine ⟨fun _ => ?_, fun (h : true = false) => (Bool.false_ne_true h.symm).elim⟩; ((first | (refine run Γ hm 400 ?_) | (refine runD Γ hm 400 (by kernel_rfl) ?_)); (conv => whnf)))))
      refine ⟨rfl, by omega, by omega, ?_⟩
      rw [hp]
      ((conv => whnf); repeat (first | (refine ⟨fun (h : false = true) => (Bool.false_ne_true h).elim, fun _ => ?_⟩; ((first | (refine run Γ hm 400 ?_) | (refine runD Γ hm 400 (by kernel_rfl) ?_)); (conv => whnf))) | (refine ⟨fun _ => ?_, fun (h : true = false) => (Bool.false_ne_true h.symm).elim⟩; ((first | (refine run Γ hm 400 ?_) | (refine runD Γ hm 400 (by kernel_rfl) ?_)); (conv => whnf)))))
      refine stepOp (good_call [] rfl F70 q2 rfl ⟨rfl, rfl, trivial⟩ rfl ⟨.inl rfl, .inl rfl, trivial⟩) rfl rfl ?_
      (((first | (refine run Γ hm 400 ?_) | (refine runD Γ hm 400 (by kernel_rfl) ?_)); (conv => whnf)); repeat (first | (refine ⟨fun (h : false = true) => (Bool.false_ne_true h).elim, fun _ => ?_⟩; ((first | (refine run Γ hm 400 ?_) | (refine runD Γ hm 400 (by kernel_rfl) ?_)); (conv => whnf))) | (refine ⟨fun _ => ?_, fun (h : true = false) => (Bool.false_ne_true h.symm).elim⟩; ((first | (refine run Γ hm 400 ?_) | (refine runD Γ hm 400 (by kernel_rfl) ?_)); (conv => whnf)))))
      refine stepOp (good_call [] rfl F71 q3 rfl ⟨rfl, rfl, trivial⟩ rfl ⟨.inl rfl, .inl rfl, trivial⟩) rfl rfl ?_
      (((first | (refine run Γ hm 400 ?_) | (refine runD Γ hm 400 (by kernel_rfl) ?_)); (conv => whnf)); repeat (first | (refine ⟨fun (h : false = true) => (Bool.false_ne_true h).elim, fun _ => ?_⟩; ((first | (refine run Γ hm 400 ?_) | (refine runD Γ hm 400 (by kernel_rfl) ?_)); (conv => whnf))) | (refine ⟨fun _ => ?_, fun (h : true = false) => (Bool.false_ne_true h.symm).elim⟩; ((first | (refine run Γ hm 400 ?_) | (refine runD Γ hm 400 (by kernel_rfl) ?_)); (conv => whnf)))))
      refine ⟨rfl, by omega, by omega, ?_⟩
      rw [hp]
      ((conv => whnf); repeat (first | (refine ⟨fun (h : false = true) => (Bool.false_ne_true h).elim, fun _ => ?_⟩; ((first | (refine run Γ hm 400 ?_) | (refine runD Γ hm 400 (by kernel_rfl) ?_)); (conv => whnf))) | (refine ⟨fun _ => ?_, fun (h : true = false) => (Bool.false_ne_true h.symm).elim⟩; ((first | (refine run Γ hm 400 ?_) | (refine runD Γ hm 400 (by kernel_rfl) ?_)); (conv => whnf)))))
      refine ⟨fun h => absurd (show (vn : Int) ≠ p.native by simpa using h) hne, fun _ => ?_⟩
      (((first | (refine run Γ hm 400 ?_) | (refine runD Γ hm 400 (by kernel_rfl) ?_)); (conv => whnf)); repeat (first | (refine ⟨fun (h : false = true) => (Bool.false_ne_true h).elim, fun _ => ?_⟩; ((first | (refine run Γ hm 400 ?_) | (refine runD Γ hm 400 (by kernel_rfl) ?_)); (conv => whnf))) | (refine ⟨fun _ => ?_, fun (h : true = false) => (Bool.false_ne_true h.symm).elim⟩; ((first | (refine run Γ hm 400 ?_) | (refine runD Γ hm 400 (by kernel_rfl) ?_)); (conv => whnf)))))
      refine stepOp (good_call [(0, 55)] rfl F73 q5 rfl trivial rfl ⟨.inr rfl, trivial⟩) rfl rfl ?_
      (((first | (refine run Γ hm 400 ?_) | (refine runD Γ hm 400 (by kernel_rfl) ?_)); (conv => whnf)); repeat (first | (refine ⟨fun (h : false = true) => (Bool.false_ne_true h).elim, fun _ => ?_⟩; ((first | (refine run Γ hm 400 ?_) | (refine runD Γ hm 400 (by kernel_rfl) ?_)); (conv => whnf))) | (refine ⟨fun _ => ?_, fun (h : true = false) => (Bool.false_ne_true h.symm).elim⟩; ((first | (refine run Γ hm 400 ?_) | (refine runD Γ hm 400 (by kernel_rfl) ?_)); (conv => whnf)))))
      refine G_data 55 rfl ?_
      exact done rfl (.cons (.cell rfl rfl rfl rfl) .nil) [] (makerO n t) (fun _ h => h) rfl rfl ⟨trivial, ⟨.inl rfl, rfl, .inl rfl, rfl, trivial⟩, rfl, rfl⟩
end Go.Sy.Ytnccojbdjjnoiaa

namespace Go.Sy.Ytnccojbdjjnoiaa
open Go.Proofs

attribute [local irreducible] Go.Sy.G Go.Sy.DR
set_option maxRecDepth 100000
set_option maxHeartbeats 4000000

theorem step_eq (n : Net) (s : Int) : stepM n s =
    if drawI (nextN s) 10 < 3 ∧ 0 < (hostsL n n.ports.length).length then injectM n (nextN s)
    else if 3 ≤ drawI (nextN s) 10 ∧ drawI (nextN s) 10 < 8 ∧ 0 < n.domains.length then (⟨2, 0, drawI (nextN (nextN s)) n.domains.length, drawI (nextN (nextN (nextN s))) 3, [], []⟩, nextN (nextN (nextN s)))
    else if drawI (nextN s) 10 = 9 ∧ 0 < n.links.length then (⟨5, 0, 0, 0, [], (linksM n.links.length (nextN s)).1⟩, (linksM n.links.length (nextN s)).2)
    else (⟨4, 0, 0, 0, [], []⟩, nextN s) := rfl

theorem stepS (n : Net) (s : Int) (hr : netRightB n = true) (hn : AddrsIn n) : Sy.Spec Try.prog 37 [.ptr 0 0] (makerO n s) (stepSV (stepM n s).1) (makerO n (stepM n s).2) := by
  have hf := r_few hr
  have q1 := drawS s 10
  have qi := injectS n (nextN s) hr hn
  have ql := linksS n (nextN s) (by omega)
  have hd := drawI_range (s := nextN s) (b := 10) (by decide)
  rw [step_eq]
  generalize drawI (nextN s) 10 = k at *
  split
  · rename_i hc
    have qi := qi hc.2
    refine contract Γ hm 100 F37 Try.ntmps37 rfl fun F hF => by
      ((conv => whnf); repeat (first | (refine ⟨fun (h : false = true) => (Bool.false_ne_true h).elim, fun _ => ?_⟩; ((first | (refine run Γ hm 400 ?_) | (refine runD Γ hm 400 (by kernel_rfl) ?_)); (conv => whnf))) | (refine ⟨fun _ => ?_, fun (h : true = false) => (Bool.false_ne_true h.symm).elim⟩; ((first | (refine run Γ hm 400 ?_) | (refine runD Γ hm 400 (by kernel_rfl) ?_)); (conv => whnf)))))
      refine stepOp (good_callE [(0, 1)] (enters_clo rfl rfl F35) q1 rfl ⟨rfl, trivial⟩ rfl ⟨.inl rfl, trivial⟩) rfl rfl ?_
      (((first | (refine run Γ hm 400 ?_) | (refine runD Γ hm 400 (by kernel_rfl) ?_)); (conv => whnf)); repeat (first | (refine ⟨fun (h : false = true) => (Bool.false_ne_true h).elim, fun _ => ?_⟩; ((first | (refine run Γ hm 400 ?_) | (refine runD Γ hm 400 (by kernel_rfl) ?_)); (conv => whnf))) | (refine ⟨fun _ => ?_, fun (h : true = false) => (Bool.false_ne_true h.symm).elim⟩; ((first | (refine run Γ hm 400 ?_) | (refine runD Γ hm 400 (by kernel_rfl) ?_)); (conv => whnf)))))
      refine ⟨fun _ => ?_, fun h => absurd (of_decide_eq_false h) (by omega)⟩
      (((first | (refine run Γ hm 400 ?_) | (refine runD Γ hm 400 (by kernel_rfl) ?_)); (conv => whnf)); repeat (first | (refine ⟨fun (h : false = true) => (Bool.false_ne_true h).elim, fun _ => ?_⟩; ((first | (refine run Γ hm 400 ?_) | (refine runD Γ hm 400 (by kernel_rfl) ?_)); (conv => whnf))) | (refine ⟨fun _ => ?_, fun (h : true = false) => (Bool.false_ne_true h.symm).elim⟩; ((first | (refine run Γ hm 400 ?_) | (refine runD Γ hm 400 (by kernel_rfl) ?_)); (conv => whnf)))))
      refine ⟨fun _ => ?_, fun h => absurd (of_decide_eq_false h) (by omega)⟩
      (((first | (refine run Γ hm 400 ?_) | (refine runD Γ hm 400 (by kernel_rfl) ?_)); (conv => whnf)); repeat (first | (refine ⟨fun (h : false = true) => (Bool.false_ne_true h).elim, fun _ => ?_⟩; ((first | (refine run Γ hm 400 ?_) | (refine runD Γ hm 400 (by kernel_rfl) ?_)); (conv => whnf))) | (refine ⟨fun _ => ?_, fun (h : true = false) => (Bool.false_ne_true h.symm).elim⟩; ((first | (refine run Γ hm 400 ?_) | (refine runD Γ hm 400 (by kernel_rfl) ?_)); (conv => whnf)))))
      refine stepOp (good_call [] rfl F56 qi rfl ⟨rfl, rfl, trivial⟩ rfl ⟨.inl rfl, .inl rfl, trivial⟩) rfl rfl ?_
      (((first | (refine run Γ hm 400 ?_) | (refine runD Γ hm 400 (by kernel_rfl) ?_)); (conv => whnf)); repeat (first | (refine ⟨fun (h : false = true) => (Bool.false_ne_true h).elim, fun _ => ?_⟩; ((first | (refine run Γ hm 400 ?_) | (refine runD Γ hm 400 (by kernel_rfl) ?_)); (conv => whnf))) | (refine ⟨fun _ => ?_, fun (h : true = false) => (Bool.false_ne_true h.symm).elim⟩; ((first | (refine run Γ hm 400 ?_) | (refine runD Γ hm 400 (by kernel_rfl) ?_)); (conv => whnf)))))
      exact done rfl (.cons (.cell rfl rfl rfl rfl) .nil) [] (makerO n (injectM n (nextN s)).2) (fun _ h => h) rfl rfl ⟨trivial, ⟨.inl rfl, rfl, .inl rfl, rfl, trivial⟩, rfl, rfl⟩
  rename_i hc1
  split
  · rename_i hc
    have q2 := drawS (nextN s) n.domains.length
    have q3 := drawS (nextN (nextN s)) 3
    generalize drawI (nextN (nextN s)) n.domains.length = d at *
    generalize drawI (nextN (nextN (nextN s))) 3 = a at *
    refine Spec.viewR (R := stepR (intSV 2) (intSV 0) (intSV d) (intSV a) (.val (.slice none 0 0)) (.val (.slice none 0 0))) ?_ fun _ _ _ h => stepR_view (fun _ => Rd_nil_sl) (fun _ => Rd_nil_sl) h
    refine contract Γ hm 100 F37 Try.ntmps37 rfl fun F hF => by
      ((conv => whnf); repeat (first | (refine ⟨fun (h : false = true) => (Bool.false_ne_true h).elim, fun _ => ?_⟩; ((first | (refine run Γ hm 400 ?_) | (refine runD Γ hm 400 (by kernel_rfl) ?_)); (conv => whnf))) | (refine ⟨fun _ => ?_, fun (h : true = false) => (Bool.false_ne_true h.symm).elim⟩; ((first | (refine run Γ hm 400 ?_) | (refine runD Γ hm 400 (by kernel_rfl) ?_)); (conv => whnf)))))
      refine stepOp (good_callE [(0, 1)] (enters_clo rfl rfl F35) q1 rfl ⟨rfl, trivial⟩ rfl ⟨.inl rfl, trivial⟩) rfl rfl ?_
      (((first | (refine run Γ hm 400 ?_) | (refine runD Γ hm 400 (by kernel_rfl) ?_)); (conv => whnf)); repeat (first | (refine ⟨fun (h : false = true) => (Bool.false_ne_true h).elim, fun _ => ?_⟩; ((first | (refine run Γ hm 400 ?_) | (refine runD Γ hm 400 (by kernel_rfl) ?_)); (conv => whnf))) | (refine ⟨fun _ => ?_, fun (h : true = false) => (Bool.false_ne_true h.symm).elim⟩; ((first | (refine run Γ hm 400 ?_) | (refine runD Γ hm 400 (by kernel_rfl) ?_)); (conv => whnf)))))
      refine ⟨fun h => absurd (of_decide_eq_true h) (by omega), fun _ => ?_⟩
      (((first | (refine run Γ hm 400 ?_) | (refine runD Γ hm 400 (by kernel_rfl) ?_)); (conv => whnf)); repeat (first | (refine ⟨fun (h : false = true) => (Bool.false_ne_true h).elim, fun _ => ?_⟩; ((first | (refine run Γ hm 400 ?_) | (refine runD Γ hm 400 (by kernel_rfl) ?_)); (conv => whnf))) | (refine ⟨fun _ => ?_, fun (h : true = false) => (Bool.false_ne_true h.symm).elim⟩; ((first | (refine run Γ hm 400 ?_) | (refine runD Γ hm 400 (by kernel_rfl) ?_)); (conv => whnf)))))
      refine ⟨fun _ => ?_, fun h => absurd (of_decide_eq_false h) (by omega)⟩
      (((first | (refine run Γ hm 400 ?_) | (refine runD Γ hm 400 (by kernel_rfl) ?_)); (conv => whnf)); repeat (first | (refine ⟨fun (h : false = true) => (Bool.false_ne_true h).elim, fun _ => ?_⟩; ((first | (refine run Γ hm 400 ?_) | (refine runD Γ hm 400 (by kernel_rfl) ?_)); (conv => whnf))) | (refine ⟨fun _ => ?_, fun (h : true = false) => (Bool.false_ne_true h.symm).elim⟩; ((first | (refine run Γ hm 400 ?_) | (refine runD Γ hm 400 (by kernel_rfl) ?_)); (conv => whnf)))))
      refine ⟨fun _ => ?_, fun h => absurd (of_decide_eq_false h) (by omega)⟩
      (((first | (refine run Γ hm 400 ?_) | (refine runD Γ hm 400 (by kernel_rfl) ?_)); (conv => whnf)); repeat (first | (refine ⟨fun (h : false = true) => (Bool.false_ne_true h).elim, fun _ => ?_⟩; ((first | (refine run Γ hm 400 ?_) | (refine runD Γ hm 400 (by kernel_rfl) ?_)); (conv => whnf))) | (refine ⟨fun _ => ?_, fun (h : true = false) => (Bool.false_ne_true h.symm).elim⟩; ((first | (refine run Γ hm 400 ?_) | (refine runD Γ hm 400 (by kernel_rfl) ?_)); (conv => whnf)))))
      refine ⟨fun _ => ?_, fun h => absurd (of_decide_eq_false h) (by omega)⟩
      (((first | (refine run Γ hm 400 ?_) | (refine runD Γ hm 400 (by kernel_rfl) ?_)); (conv => whnf)); repeat (first | (refine ⟨fun (h : false = true) => (Bool.false_ne_true h).elim, fun _ => ?_⟩; ((first | (refine run Γ hm 400 ?_) | (refine runD Γ hm 400 (by kernel_rfl) ?_)); (conv => whnf))) | (refine ⟨fun _ => ?_, fun (h : true = false) => (Bool.false_ne_true h.symm).elim⟩; ((first | (refine run Γ hm 400 ?_) | (refine runD Γ hm 400 (by kernel_rfl) ?_)); (conv => whnf)))))
      refine stepD (good_callE [(0, 1)] (enters_clo rfl rfl F35) q2 rfl ⟨rfl, trivial⟩ rfl ⟨.inl rfl, trivial⟩) (by kernel_rfl) rfl ?_
      (((first | (refine run Γ hm 400 ?_) | (refine runD Γ hm 400 (by kernel_rfl) ?_)); (conv => whnf)); repeat (first | (refine ⟨fun (h : false = true) => (Bool.false_ne_true h).elim, fun _ => ?_⟩; ((first | (refine run Γ hm 400 ?_) | (refine runD Γ hm 400 (by kernel_rfl) ?_)); (conv => whnf))) | (refine ⟨fun _ => ?_, fun (h : true = false) => (Bool.false_ne_true h.symm).elim⟩; ((first | (refine run Γ hm 400 ?_) | (refine runD Γ hm 400 (by kernel_rfl) ?_)); (conv => whnf)))))
      refine ⟨(by kernel_rfl), ?_⟩
      ((conv => whnf); repeat (first | (refine ⟨fun (h : false = true) => (Bool.false_ne_true h).elim, fun _ => ?_⟩; ((first | (refine run Γ hm 400 ?_) | (refine runD Γ hm 400 (by kernel_rfl) ?_)); (conv => whnf))) | (refine ⟨fun _ => ?_, fun (h : true = false) => (Bool.false_ne_true h.symm).elim⟩; ((first | (refine run Γ hm 400 ?_) | (refine runD Γ hm 400 (by kernel_rfl) ?_)); (conv => whnf)))))
      refine stepOp (good_callE [(0, 1)] (enters_clo rfl rfl F35) q3 rfl ⟨rfl, trivial⟩ rfl ⟨.inl rfl, trivial⟩) rfl rfl ?_
      (((first | (refine run Γ hm 400 ?_) | (refine runD Γ hm 400 (by kernel_rfl) ?_)); (conv => whnf)); repeat (first | (refine ⟨fun (h : false = true) => (Bool.false_ne_true h).elim, fun _ => ?_⟩; ((first | (refine run Γ hm 400 ?_) | (refine runD Γ hm 400 (by kernel_rfl) ?_)); (conv => whnf))) | (refine ⟨fun _ => ?_, fun (h : true = false) => (Bool.false_ne_true h.symm).elim⟩; ((first | (refine run Γ hm 400 ?_) | (refine runD Γ hm 400 (by kernel_rfl) ?_)); (conv => whnf)))))
      exact done rfl (.cons (.cell rfl rfl rfl rfl) .nil) [] (makerO n (nextN (nextN (nextN s)))) (fun _ h => h) rfl rfl ⟨trivial, ⟨.inl rfl, rfl, .inl rfl, rfl, trivial⟩, rfl, rfl⟩
  rename_i hc2
  split
  · rename_i hc
    refine contract Γ hm 100 F37 Try.ntmps37 rfl fun F hF => by
      ((conv => whnf); repeat (first | (refine ⟨fun (h : false = true) => (Bool.false_ne_true h).elim, fun _ => ?_⟩; ((first | (refine run Γ hm 400 ?_) | (refine runD Γ hm 400 (by kernel_rfl) ?_)); (conv => whnf))) | (refine ⟨fun _ => ?_, fun (h : true = false) => (Bool.false_ne_true h.symm).elim⟩; ((first | (refine run Γ hm 400 ?_) | (refine runD Γ hm 400 (by kernel_rfl) ?_)); (conv => whnf)))))
      refine stepOp (good_callE [(0, 1)] (enters_clo rfl rfl F35) q1 rfl ⟨rfl, trivial⟩ rfl ⟨.inl rfl, trivial⟩) rfl rfl ?_
      (((first | (refine run Γ hm 400 ?_) | (refine runD Γ hm 400 (by kernel_rfl) ?_)); (conv => whnf)); repeat (first | (refine ⟨fun (h : false = true) => (Bool.false_ne_true h).elim, fun _ => ?_⟩; ((first | (refine run Γ hm 400 ?_) | (refine runD Γ hm 400 (by kernel_rfl) ?_)); (conv => whnf))) | (refine ⟨fun _ => ?_, fun (h : true = false) => (Bool.false_ne_true h.symm).elim⟩; ((first | (refine run Γ hm 400 ?_) | (refine runD Γ hm 400 (by kernel_rfl) ?_)); (conv => whnf)))))
      refine ⟨fun h => absurd (of_decide_eq_true h) (by omega), fun _ => ?_⟩
      (((first | (refine run Γ hm 400 ?_) | (refine runD Γ hm 400 (by kernel_rfl) ?_)); (conv => whnf)); repeat (first | (refine ⟨fun (h : false = true) => (Bool.false_ne_true h).elim, fun _ => ?_⟩; ((first | (refine run Γ hm 400 ?_) | (refine runD Γ hm 400 (by kernel_rfl) ?_)); (conv => whnf))) | (refine ⟨fun _ => ?_, fun (h : true = false) => (Bool.false_ne_true h.symm).elim⟩; ((first | (refine run Γ hm 400 ?_) | (refine runD Γ hm 400 (by kernel_rfl) ?_)); (conv => whnf)))))
      refine ⟨fun _ => ?_, fun h => absurd (of_decide_eq_false h) (by omega)⟩
      (((first | (refine run Γ hm 400 ?_) | (refine runD Γ hm 400 (by kernel_rfl) ?_)); (conv => whnf)); repeat (first | (refine ⟨fun (h : false = true) => (Bool.false_ne_true h).elim, fun _ => ?_⟩; ((first | (refine run Γ hm 400 ?_) | (refine runD Γ hm 400 (by kernel_rfl) ?_)); (conv => whnf))) | (refine ⟨fun _ => ?_, fun (h : true = false) => (Bool.false_ne_true h.symm).elim⟩; ((first | (refine run Γ hm 400 ?_) | (refine runD Γ hm 400 (by kernel_rfl) ?_)); (conv => whnf)))))
      refine ⟨fun h => absurd (of_decide_eq_true h) (by omega), fun _ => ?_⟩
      (((first | (refine run Γ hm 400 ?_) | (refine runD Γ hm 400 (by kernel_rfl) ?_)); (conv => whnf)); repeat (first | (refine ⟨fun (h : false = true) => (Bool.false_ne_true h).elim, fun _ => ?_⟩; ((first | (refine run Γ hm 400 ?_) | (refine runD Γ hm 400 (by kernel_rfl) ?_)); (conv => whnf))) | (refine ⟨fun _ => ?_, fun (h : true = false) => (Bool.false_ne_true h.symm).elim⟩; ((first | (refine run Γ hm 400 ?_) | (refine runD Γ hm 400 (by kernel_rfl) ?_)); (conv => whnf)))))
      refine ⟨fun _ => ?_, fun h => absurd hc.1 (by simpa using h)⟩
      (((first | (refine run Γ hm 400 ?_) | (refine runD Γ hm 400 (by kernel_rfl) ?_)); (conv => whnf)); repeat (first | (refine ⟨fun (h : false = true) => (Bool.false_ne_true h).elim, fun _ => ?_⟩; ((first | (refine run Γ hm 400 ?_) | (refine runD Γ hm 400 (by kernel_rfl) ?_)); (conv => whnf))) | (refine ⟨fun _ => ?_, fun (h : true = false) => (Bool.false_ne_true h.symm).elim⟩; ((first | (refine run Γ hm 400 ?_) | (refine runD Γ hm 400 (by kernel_rfl) ?_)); (conv => whnf)))))
      refine ⟨fun _ => ?_, fun h => absurd (of_decide_eq_false h) (by omega)⟩
      (((first | (refine run Γ hm 400 ?_) | (refine runD Γ hm 400 (by kernel_rfl) ?_)); (conv => whnf)); repeat (first | (refine ⟨fun (h : false = true) => (Bool.false_ne_true h).elim, fun _ => ?_⟩; ((first | (refine run Γ hm 400 ?_) | (refine runD Γ hm 400 (by kernel_rfl) ?_)); (conv => whnf))) | (refine ⟨fun _ => ?_, fun (h : true = false) => (Bool.false_ne_true h.symm).elim⟩; ((first | (refine run Γ hm 400 ?_) | (refine runD Γ hm 400 (by kernel_rfl) ?_)); (conv => whnf)))))
      refine stepOp (good_call [] rfl F57 ql rfl ⟨rfl, rfl, trivial⟩ rfl ⟨.inl rfl, .inl rfl, trivial⟩) rfl rfl ?_
      (((first | (refine run Γ hm 400 ?_) | (refine runD Γ hm 400 (by kernel_rfl) ?_)); (conv => whnf)); repeat (first | (refine ⟨fun (h : false = true) => (Bool.false_ne_true h).elim, fun _ => ?_⟩; ((first | (refine run Γ hm 400 ?_) | (refine runD Γ hm 400 (by kernel_rfl) ?_)); (conv => whnf))) | (refine ⟨fun _ => ?_, fun (h : true = false) => (Bool.false_ne_true h.symm).elim⟩; ((first | (refine run Γ hm 400 ?_) | (refine runD Γ hm 400 (by kernel_rfl) ?_)); (conv => whnf)))))
      exact done rfl (.cons (.cell rfl rfl rfl rfl) .nil) [] (makerO n (linksM n.links.length (nextN s)).2) (fun _ h => h) rfl rfl ⟨trivial, ⟨.inl rfl, rfl, .inl rfl, rfl, trivial⟩, rfl, rfl⟩
  · rename_i hc3
    refine Spec.viewR (R := stepR (intSV 4) (intSV 0) (intSV 0) (intSV 0) (.val (.slice none 0 0)) (.val (.slice none 0 0))) ?_ fun _ _ _ h => stepR_view (fun _ => Rd_nil_sl) (fun _ => Rd_nil_sl) h
    refine contract Γ hm 100 F37 Try.ntmps37 rfl fun F hF => by
      ((conv => whnf); repeat (first | (refine ⟨fun (h : false = true) => (Bool.false_ne_true h).elim, fun _ => ?_⟩; ((first | (refine run Γ hm 400 ?_) | (refine runD Γ hm 400 (by kernel_rfl) ?_)); (conv => whnf))) | (refine ⟨fun _ => ?_, fun (h : true = false) => (Bool.false_ne_true h.symm).elim⟩; ((first | (refine run Γ hm 400 ?_) | (refine runD Γ hm 400 (by kernel_rfl) ?_)); (conv => whnf)))))
      refine stepOp (good_callE [(0, 1)] (enters_clo rfl rfl F35) q1 rfl ⟨rfl, trivial⟩ rfl ⟨.inl rfl, trivial⟩) rfl rfl ?_
      (((first | (refine run Γ hm 400 ?_) | (refine runD Γ hm 400 (by kernel_rfl) ?_)); (conv => whnf)); repeat (first | (refine ⟨fun (h : false = true) => (Bool.false_ne_true h).elim, fun _ => ?_⟩; ((first | (refine run Γ hm 400 ?_) | (refine runD Γ hm 400 (by kernel_rfl) ?_)); (conv => whnf))) | (refine ⟨fun _ => ?_, fun (h : true = false) => (Bool.false_ne_true h.symm).elim⟩; ((first | (refine run Γ hm 400 ?_) | (refine runD Γ hm 400 (by kernel_rfl) ?_)); (conv => whnf)))))
      (repeat' (first | (refine ⟨fun h => ?_, fun h => ?_⟩ <;> (repeat (first | (simp only [decide_eq_true_eq] at h) | (simp only [decide_eq_false_iff_not] at h) | (simp only [beq_iff_eq] at h) | (simp only [beq_eq_false_iff_ne] at h) | (simp only [bne_iff_ne] at h) | (simp only [bne_eq_false_iff_eq] at h) | (simp only [Bool.and_eq_true] at h) | (simp only [Bool.or_eq_true] at h) | (simp only [Bool.and_eq_false_iff] at h) | (simp only [Bool.or_eq_false_iff] at h) | (simp only [Bool.not_eq_true'] at h) | (simp only [Bool.not_eq_false'] at h) | (simp only [Bool.not_eq_eq_eq_not] at h) | (simp only [Bool.not_true] at h) | (simp only [Bool.not_false] at h))) <;> (((first | (refine run Γ hm 400 ?_) | (refine runD Γ hm 400 (by kernel_rfl) ?_)); (conv => whnf)); repeat (first | (refine ⟨fun (h : false = true) => (Bool.false_ne_true h).elim, fun _ => ?_⟩; ((first | (refine run Γ hm 400 ?_) | (refine runD Γ hm 400 (by kernel_rfl) ?_)); (conv => whnf))) | (refine ⟨fun _ => ?_, fun (h : true = false) => (Bool.false_ne_true h.symm).elim⟩; ((first | (refine run Γ hm 400 ?_) | (refine runD Γ hm 400 (by kernel_rfl) ?_)); (conv => whnf)))))) | (refine done0 rfl (.cons .tmp .nil) ?_ rfl) | (refine ⟨(by kernel_rfl), ?_⟩; ((conv => whnf); repeat (first | (refine ⟨fun (h : false = true) => (Bool.false_ne_true h).elim, fun _ => ?_⟩; ((first | (refine run Γ hm 400 ?_) | (refine runD Γ hm 400 (by kernel_rfl) ?_)); (conv => whnf))) | (refine ⟨fun _ => ?_, fun (h : true = false) => (Bool.false_ne_true h.symm).elim⟩; ((first | (refine run Γ hm 400 ?_) | (refine runD Γ hm 400 (by kernel_rfl) ?_)); (conv => whnf)))))) | (refine ⟨by (first | (unfold I64; omega) | omega | (simp only [Int.toNat_natCast]; omega) | done), by (first | (unfold I64; omega) | omega | (simp only [Int.toNat_natCast]; omega) | done), ?_⟩; ((conv => whnf); repeat (first | (refine ⟨fun (h : false = true) => (Bool.false_ne_true h).elim, fun _ => ?_⟩; ((first | (refine run Γ hm 400 ?_) | (refine runD Γ hm 400 (by kernel_rfl) ?_)); (conv => whnf))) | (refine ⟨fun _ => ?_, fun (h : true = false) => (Bool.false_ne_true h.symm).elim⟩; ((first | (refine run Γ hm 400 ?_) | (refine runD Γ hm 400 (by kernel_rfl) ?_)); (conv => whnf)))))) | (refine ⟨by (first | (unfold I64; omega) | omega | (simp only [Int.toNat_natCast]; omega) | done), ?_⟩; ((conv => whnf); repeat (first | (refine ⟨fun (h : false = true) => (Bool.false_ne_true h).elim, fun _ => ?_⟩; ((first | (refine run Γ hm 400 ?_) | (refine runD Γ hm 400 (by kernel_rfl) ?_)); (conv => whnf))) | (refine ⟨fun _ => ?_, fun (h : true = false) => (Bool.false_ne_true h.symm).elim⟩; ((first | (refine run Γ hm 400 ?_) | (refine runD Γ hm 400 (by kernel_rfl) ?_)); (conv => whnf)))))) | (refine done rfl (.cons (.cell rfl rfl rfl rfl) .nil) [] (makerO n (nextN s)) (fun _ h => h) rfl rfl ⟨trivial, ⟨.inl rfl, rfl, .inl rfl, rfl, trivial⟩, rfl, rfl⟩)))
      all_goals (exfalso; clear hF q1 qi ql; omega)

theorem scriptS (n : Net) (s : Int) (size : Nat) (hsz : size < 100000) (hr : netRightB n = true) (hn : AddrsIn n) : Sy.Spec Try.prog 14 [.ptr 0 0, intSV size] (makerO n s) (.sl 6 stepSV (scriptM n size s).1) (makerO n (scriptM n size s).2) := contract Γ hm 100 F14 Try.ntmps14 rfl fun F hF => by
  ((conv => whnf); repeat (first | (refine ⟨fun (h : false = true) => (Bool.false_ne_true h).elim, fun _ => ?_⟩; ((first | (refine run Γ hm 400 ?_) | (refine runD Γ hm 400 (by kernel_rfl) ?_)); (conv => whnf))) | (refine ⟨fun _ => ?_, fun (h : true = false) => (Bool.false_ne_true h.symm).elim⟩; ((first | (refine run Γ hm 400 ?_) | (refine runD Γ hm 400 (by kernel_rfl) ?_)); (conv => whnf)))))
  refine G_adopt 5 1000 6 stepSV rfl rfl ?_
  refine G_count size (fun j => [(0, .ptr 0 0), (5, .osl 1000), (6, intSV size), (7, intSV j)]) (fun j => [(0, .box (makerL n (.sl 1 intSV (hostsL n n.ports.length)) 1)), (1, .box [u64SV (scriptM n j s).2]), (1000, .row 6 stepSV (scriptM n j s).1)]) []
    ⟨⟨rfl, rfl, rfl, rfl, rfl, rfl, rfl, rfl, trivial⟩, ⟨.inl rfl, rfl, .inl rfl, rfl, .inl rfl, rfl, trivial⟩, rfl, rfl⟩ ?_
  intro j hj
  have hlen := scriptM_length n j s
  have hsucc : scriptM n (j + 1) s = ((scriptM n j s).1 ++ [(stepM n (scriptM n j s).2).1], (stepM n (scriptM n j s).2).2) := rfl
  obtain ⟨r, hr'⟩ : ∃ r, scriptM n j s = r := ⟨_, rfl⟩
  rw [hr'] at hlen hsucc ⊢
  obtain ⟨u, t⟩ := r
  have hst := stepS n t hr hn
  dsimp only at hlen hsucc ⊢
  generalize stepM n t = x at *
  (((first | (refine run Γ hm 400 ?_) | (refine runD Γ hm 400 (by kernel_rfl) ?_)); (conv => whnf)); repeat (first | (refine ⟨fun (h : false = true) => (Bool.false_ne_true h).elim, fun _ => ?_⟩; ((first | (refine run Γ hm 400 ?_) | (refine runD Γ hm 400 (by kernel_rfl) ?_)); (conv => whnf))) | (refine ⟨fun _ => ?_, fun (h : true = false) => (Bool.false_ne_true h.symm).elim⟩; ((first | (refine run Γ hm 400 ?_) | (refine runD Γ hm 400 (by kernel_rfl) ?_)); (conv => whnf)))))
  refine ⟨fun h => ?_, fun h => ?_⟩
  · have hlt : j < size := by simpa using h
    (((first | (refine run Γ hm 400 ?_) | (refine runD Γ hm 400 (by kernel_rfl) ?_)); (conv => whnf)); repeat (first | (refine ⟨fun (h : false = true) => (Bool.false_ne_true h).elim, fun _ => ?_⟩; ((first | (refine run Γ hm 400 ?_) | (refine runD Γ hm 400 (by kernel_rfl) ?_)); (conv => whnf))) | (refine ⟨fun _ => ?_, fun (h : true = false) => (Bool.false_ne_true h.symm).elim⟩; ((first | (refine run Γ hm 400 ?_) | (refine runD Γ hm 400 (by kernel_rfl) ?_)); (conv => whnf)))))
    refine stepOp (good_call [] rfl F37 hst rfl ⟨rfl, rfl, trivial⟩ rfl ⟨.inl rfl, .inl rfl, trivial⟩) rfl rfl ?_
    (((first | (refine run Γ hm 400 ?_) | (refine runD Γ hm 400 (by kernel_rfl) ?_)); (conv => whnf)); repeat (first | (refine ⟨fun (h : false = true) => (Bool.false_ne_true h).elim, fun _ => ?_⟩; ((first | (refine run Γ hm 400 ?_) | (refine runD Γ hm 400 (by kernel_rfl) ?_)); (conv => whnf))) | (refine ⟨fun _ => ?_, fun (h : true = false) => (Bool.false_ne_true h.symm).elim⟩; ((first | (refine run Γ hm 400 ?_) | (refine runD Γ hm 400 (by kernel_rfl) ?_)); (conv => whnf)))))
    refine stepOp (good_appendT Γ.toTy 13 rfl rfl rfl rfl rfl (.row rfl) (.lit (e := stepSV) (l := [x.1]) rfl rfl) (by simp) (by simp; omega) (by simp; omega)) rfl rfl ?_
    (((first | (refine run Γ hm 400 ?_) | (refine runD Γ hm 400 (by kernel_rfl) ?_)); (conv => whnf)); repeat (first | (refine ⟨fun (h : false = true) => (Bool.false_ne_true h).elim, fun _ => ?_⟩; ((first | (refine run Γ hm 400 ?_) | (refine runD Γ hm 400 (by kernel_rfl) ?_)); (conv => whnf))) | (refine ⟨fun _ => ?_, fun (h : true = false) => (Bool.false_ne_true h.symm).elim⟩; ((first | (refine run Γ hm 400 ?_) | (refine runD Γ hm 400 (by kernel_rfl) ?_)); (conv => whnf)))))
    refine ⟨by unfold I64; omega, ?_⟩
    ((conv => whnf); repeat (first | (refine ⟨fun (h : false = true) => (Bool.false_ne_true h).elim, fun _ => ?_⟩; ((first | (refine run Γ hm 400 ?_) | (refine runD Γ hm 400 (by kernel_rfl) ?_)); (conv => whnf))) | (refine ⟨fun _ => ?_, fun (h : true = false) => (Bool.false_ne_true h.symm).elim⟩; ((first | (refine run Γ hm 400 ?_) | (refine runD Γ hm 400 (by kernel_rfl) ?_)); (conv => whnf)))))
    refine G_next [(1000, 13)] hlt ⟨⟨rfl, rfl, rfl, rfl, rfl, rfl, rfl, rfl, trivial⟩, ⟨.inl rfl, rfl, .inl ?_, rfl, .inl ?_, rfl, trivial⟩, rfl, rfl⟩
    · rw [hsucc]; rfl
    · rw [hsucc]; rfl
  · have hjl : j = size := by
      have : ¬ j < size := by simpa using h
      omega
    subst hjl
    rw [hr']
    (((first | (refine run Γ hm 400 ?_) | (refine runD Γ hm 400 (by kernel_rfl) ?_)); (conv => whnf)); repeat (first | (refine ⟨fun (h : false = true) => (Bool.false_ne_true h).elim, fun _ => ?_⟩; ((first | (refine run Γ hm 400 ?_) | (refine runD Γ hm 400 (by kernel_rfl) ?_)); (conv => whnf))) | (refine ⟨fun _ => ?_, fun (h : true = false) => (Bool.false_ne_true h.symm).elim⟩; ((first | (refine run Γ hm 400 ?_) | (refine runD Γ hm 400 (by kernel_rfl) ?_)); (conv => whnf)))))
    refine G_data 1000 rfl ?_
    exact done rfl (.cons .tmp .nil) [] (makerO n t) (fun _ h => h) rfl rfl ⟨trivial, ⟨.inl rfl, rfl, .inl rfl, rfl, trivial⟩, rfl, rfl⟩

/-- May a script be made? -/
def drillB (n : Net) (size : Int) : Bool := decide (0 ≤ size ∧ size ≤ 60) && netRightB n

theorem drillScriptBad (n : Net) (s size : Int) (hn : n.Fin) (h : drillB n size = false) : Sy.Spec Try.prog 7 [netSV n, u64SV s, intSV size] [] (.tup [.sl 6 stepSV [], u64SV 0, intSV 2]) [] := contract Γ hm 100 F7 Try.ntmps7 rfl fun F hF => by
  have h' : ¬ ((0 ≤ size ∧ size ≤ 60) ∧ netRightB n = true) := fun hh => by simp [drillB, hh.1, hh.2] at h
  ((conv => whnf); repeat (first | (refine ⟨fun (h : false = true) => (Bool.false_ne_true h).elim, fun _ => ?_⟩; ((first | (refine run Γ hm 400 ?_) | (refine runD Γ hm 400 (by kernel_rfl) ?_)); (conv => whnf))) | (refine ⟨fun _ => ?_, fun (h : true = false) => (Bool.false_ne_true h.symm).elim⟩; ((first | (refine run Γ hm 400 ?_) | (refine runD Γ hm 400 (by kernel_rfl) ?_)); (conv => whnf)))))
  (repeat' (first | (refine ⟨fun h => ?_, fun h => ?_⟩ <;> (repeat (first | (simp only [decide_eq_true_eq] at h) | (simp only [decide_eq_false_iff_not] at h) | (simp only [beq_iff_eq] at h) | (simp only [beq_eq_false_iff_ne] at h) | (simp only [bne_iff_ne] at h) | (simp only [bne_eq_false_iff_eq] at h) | (simp only [Bool.and_eq_true] at h) | (simp only [Bool.or_eq_true] at h) | (simp only [Bool.and_eq_false_iff] at h) | (simp only [Bool.or_eq_false_iff] at h) | (simp only [Bool.not_eq_true'] at h) | (simp only [Bool.not_eq_false'] at h) | (simp only [Bool.not_eq_eq_eq_not] at h) | (simp only [Bool.not_true] at h) | (simp only [Bool.not_false] at h))) <;> (((first | (refine run Γ hm 400 ?_) | (refine runD Γ hm 400 (by kernel_rfl) ?_)); (conv => whnf)); repeat (first | (refine ⟨fun (h : false = true) => (Bool.false_ne_true h).elim, fun _ => ?_⟩; ((first | (refine run Γ hm 400 ?_) | (refine runD Γ hm 400 (by kernel_rfl) ?_)); (conv => whnf))) | (refine ⟨fun _ => ?_, fun (h : true = false) => (Bool.false_ne_true h.symm).elim⟩; ((first | (refine run Γ hm 400 ?_) | (refine runD Γ hm 400 (by kernel_rfl) ?_)); (conv => whnf)))))) | (refine done0 rfl (.cons .tmp .nil) ?_ rfl) | (refine ⟨(by kernel_rfl), ?_⟩; ((conv => whnf); repeat (first | (refine ⟨fun (h : false = true) => (Bool.false_ne_true h).elim, fun _ => ?_⟩; ((first | (refine run Γ hm 400 ?_) | (refine runD Γ hm 400 (by kernel_rfl) ?_)); (conv => whnf))) | (refine ⟨fun _ => ?_, fun (h : true = false) => (Bool.false_ne_true h.symm).elim⟩; ((first | (refine run Γ hm 400 ?_) | (refine runD Γ hm 400 (by kernel_rfl) ?_)); (conv => whnf)))))) | (refine ⟨by (first | (unfold I64; omega) | omega | (simp only [Int.toNat_natCast]; omega) | done), by (first | (unfold I64; omega) | omega | (simp only [Int.toNat_natCast]; omega) | done), ?_⟩; ((conv => whnf); repeat (first | (refine ⟨fun (h : false = true) => (Bool.false_ne_true h).elim, fun _ => ?_⟩; ((first | (refine run Γ hm 400 ?_) | (refine runD Γ hm 400 (by kernel_rfl) ?_)); (conv => whnf))) | (refine ⟨fun _ => ?_, fun (h : true = false) => (Bool.false_ne_true h.symm).elim⟩; ((first | (refine run Γ hm 400 ?_) | (refine runD Γ hm 400 (by kernel_rfl) ?_)); (conv => whnf)))))) | (refine ⟨by (first | (unfold I64; omega) | omega | (simp only [Int.toNat_natCast]; omega) | done), ?_⟩; ((conv => whnf); repeat (first | (refine ⟨fun (h : false = true) => (Bool.false_ne_true h).elim, fun _ => ?_⟩; ((first | (refine run Γ hm 400 ?_) | (refine runD Γ hm 400 (by kernel_rfl) ?_)); (conv => whnf))) | (refine ⟨fun _ => ?_, fun (h : true = false) => (Bool.false_ne_true h.symm).elim⟩; ((first | (refine run Γ hm 400 ?_) | (refine runD Γ hm 400 (by kernel_rfl) ?_)); (conv => whnf)))))) | (refine call0 (namesRightS n hn) F12 rfl rfl rfl rfl rfl ?_; (((first | (refine run Γ hm 400 ?_) | (refine runD Γ hm 400 (by kernel_rfl) ?_)); (conv => whnf)); repeat (first | (refine ⟨fun (h : false = true) => (Bool.false_ne_true h).elim, fun _ => ?_⟩; ((first | (refine run Γ hm 400 ?_) | (refine runD Γ hm 400 (by kernel_rfl) ?_)); (conv => whnf))) | (refine ⟨fun _ => ?_, fun (h : true = false) => (Bool.false_ne_true h.symm).elim⟩; ((first | (refine run Γ hm 400 ?_) | (refine runD Γ hm 400 (by kernel_rfl) ?_)); (conv => whnf)))))) | (refine callD0 (namesRightS n hn) F12 rfl rfl rfl (by kernel_rfl) rfl ?_; (((first | (refine run Γ hm 400 ?_) | (refine runD Γ hm 400 (by kernel_rfl) ?_)); (conv => whnf)); repeat (first | (refine ⟨fun (h : false = true) => (Bool.false_ne_true h).elim, fun _ => ?_⟩; ((first | (refine run Γ hm 400 ?_) | (refine runD Γ hm 400 (by kernel_rfl) ?_)); (conv => whnf))) | (refine ⟨fun _ => ?_, fun (h : true = false) => (Bool.false_ne_true h.symm).elim⟩; ((first | (refine run Γ hm 400 ?_) | (refine runD Γ hm 400 (by kernel_rfl) ?_)); (conv => whnf)))))) | (refine G_nilsl 6 6 stepSV rfl ?_; refine done0 rfl (.cons .tmp (.cons .tmp (.cons .tmp .nil))) rfl rfl)))
  all_goals exact absurd ⟨by omega, by assumption⟩ h'

theorem drillScriptOK (n : Net) (s : Int) (size : Nat) (hn : n.Fin) (hr : netRightB n = true) (hsz : size ≤ 60) (ha : AddrsIn n) : Sy.Spec Try.prog 7 [netSV n, u64SV s, intSV size] [] (.tup [.sl 6 stepSV (scriptM n size s).1, u64SV (scriptM n size s).2, intSV 0]) [] := contract Γ hm 100 F7 Try.ntmps7 rfl fun F hF => by
  have hf := r_few hr
  have hrt := namesRightS n hn
  rw [hr] at hrt
  have qm := madeS n s (by omega)
  have qs := scriptS n s size (by omega) hr ha
  have qla := lastS (scriptM n size s).2
  generalize scriptM n size s = r at *
  ((conv => whnf); repeat (first | (refine ⟨fun (h : false = true) => (Bool.false_ne_true h).elim, fun _ => ?_⟩; ((first | (refine run Γ hm 400 ?_) | (refine runD Γ hm 400 (by kernel_rfl) ?_)); (conv => whnf))) | (refine ⟨fun _ => ?_, fun (h : true = false) => (Bool.false_ne_true h.symm).elim⟩; ((first | (refine run Γ hm 400 ?_) | (refine runD Γ hm 400 (by kernel_rfl) ?_)); (conv => whnf)))))
  refine ⟨fun h => absurd (of_decide_eq_true h) (by omega), fun _ => ?_⟩
  (((first | (refine run Γ hm 400 ?_) | (refine runD Γ hm 400 (by kernel_rfl) ?_)); (conv => whnf)); repeat (first | (refine ⟨fun (h : false = true) => (Bool.false_ne_true h).elim, fun _ => ?_⟩; ((first | (refine run Γ hm 400 ?_) | (refine runD Γ hm 400 (by kernel_rfl) ?_)); (conv => whnf))) | (refine ⟨fun _ => ?_, fun (h : true = false) => (Bool.false_ne_true h.symm).elim⟩; ((first | (refine run Γ hm 400 ?_) | (refine runD Γ hm 400 (by kernel_rfl) ?_)); (conv => whnf)))))
  refine call0 hrt F12 rfl rfl rfl rfl rfl ?_
  (((first | (refine run Γ hm 400 ?_) | (refine runD Γ hm 400 (by kernel_rfl) ?_)); (conv => whnf)); repeat (first | (refine ⟨fun (h : false = true) => (Bool.false_ne_true h).elim, fun _ => ?_⟩; ((first | (refine run Γ hm 400 ?_) | (refine runD Γ hm 400 (by kernel_rfl) ?_)); (conv => whnf))) | (refine ⟨fun _ => ?_, fun (h : true = false) => (Bool.false_ne_true h.symm).elim⟩; ((first | (refine run Γ hm 400 ?_) | (refine runD Γ hm 400 (by kernel_rfl) ?_)); (conv => whnf)))))
  refine stepOp (good_call [(0, 26), (1, 27)] rfl F13 qm rfl trivial rfl ⟨.inr rfl, .inr rfl, trivial⟩) rfl rfl ?_
  (((first | (refine run Γ hm 400 ?_) | (refine runD Γ hm 400 (by kernel_rfl) ?_)); (conv => whnf)); repeat (first | (refine ⟨fun (h : false = true) => (Bool.false_ne_true h).elim, fun _ => ?_⟩; ((first | (refine run Γ hm 400 ?_) | (refine runD Γ hm 400 (by kernel_rfl) ?_)); (conv => whnf))) | (refine ⟨fun _ => ?_, fun (h : true = false) => (Bool.false_ne_true h.symm).elim⟩; ((first | (refine run Γ hm 400 ?_) | (refine runD Γ hm 400 (by kernel_rfl) ?_)); (conv => whnf)))))
  refine stepOp (good_call [(0, 26), (1, 27)] rfl F14 qs rfl ⟨rfl, rfl, trivial⟩ rfl ⟨.inl rfl, .inl rfl, trivial⟩) rfl rfl ?_
  (((first | (refine run Γ hm 400 ?_) | (refine runD Γ hm 400 (by kernel_rfl) ?_)); (conv => whnf)); repeat (first | (refine ⟨fun (h : false = true) => (Bool.false_ne_true h).elim, fun _ => ?_⟩; ((first | (refine run Γ hm 400 ?_) | (refine runD Γ hm 400 (by kernel_rfl) ?_)); (conv => whnf))) | (refine ⟨fun _ => ?_, fun (h : true = false) => (Bool.false_ne_true h.symm).elim⟩; ((first | (refine run Γ hm 400 ?_) | (refine runD Γ hm 400 (by kernel_rfl) ?_)); (conv => whnf)))))
  refine stepOp (good_callE [(0, 27)] (enters_clo rfl rfl F36) qla rfl ⟨rfl, trivial⟩ rfl ⟨.inl rfl, trivial⟩) rfl rfl ?_
  (((first | (refine run Γ hm 400 ?_) | (refine runD Γ hm 400 (by kernel_rfl) ?_)); (conv => whnf)); repeat (first | (refine ⟨fun (h : false = true) => (Bool.false_ne_true h).elim, fun _ => ?_⟩; ((first | (refine run Γ hm 400 ?_) | (refine runD Γ hm 400 (by kernel_rfl) ?_)); (conv => whnf))) | (refine ⟨fun _ => ?_, fun (h : true = false) => (Bool.false_ne_true h.symm).elim⟩; ((first | (refine run Γ hm 400 ?_) | (refine runD Γ hm 400 (by kernel_rfl) ?_)); (conv => whnf)))))
  exact done0 rfl (.cons .tmp (.cons .tmp (.cons .tmp .nil))) rfl rfl
end Go.Sy.Ytnccojbdjjnoiaa
