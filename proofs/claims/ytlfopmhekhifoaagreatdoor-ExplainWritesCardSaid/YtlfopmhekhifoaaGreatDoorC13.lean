/-
  Contracts: a member that a predicate is true of; which VRF sees which one; routes. Contracts: prefixes; the greatest by a comparison; routes. Contracts: routes looked up. Contracts: routes looked up, 2.
-/
import Derived.Test.YtlfopmhekhifoaaGreatDoorC12

namespace Go.Sy.YtlfopmhekhifoaaGreatDoor
open Go.Proofs
-- SIMP: placeB

attribute [local irreducible] Go.Sy.G Go.Sy.DR
set_option maxRecDepth 20000
set_option maxHeartbeats 4000000

theorem indexFuncS_Int (l : List Int) (p : Int → Bool) (f : FuncId) (first cap : List SV) (hc : (SV.clo (.func f) first cap).inn [] = true) (hf : ∀ x ∈ l, FunS Tryz.prog f (first ++ [intSV x] ++ cap) (boolSV (p x))) (hl : Short l) :
    Sy.Spec Tryz.prog 176 [.sl 1 intSV l, .clo (.func f) first cap] [] (intSV (idxI p l)) [] := contract Γ hm 100 F176 Tryz.ntmps176 rfl fun F hF => by
  unfold Short at hl
  have hin : ∀ x : Int, innL [] (first ++ [intSV x] ++ cap) = true := fun x => clo_inn hc rfl
  ((conv=>whnf);repeat((first|refine aF ?_|refine aT ?_);(first|refine rG Γ hm ?_|refine rD Γ hm (by kernel_rfl) ?_);conv=>whnf))
  refine G_countP l.length (fun j => Upto (fun _ x => !(p x)) l j) (fun j => [(0, .sl 1 intSV l), (1, .clo (.func f) first cap), (7, intSV l.length), (8, intSV j)]) (fun _ => []) [] (upto_zero _ _) ⟨⟨rfl, rfl, ren_id _, hc, rfl, rfl, rfl, rfl, trivial⟩, trivial, rfl, rfl⟩ ?_
  intro j hj hI
  ((first|refine rG Γ hm ?_|refine rD Γ hm (by kernel_rfl) ?_);(conv=>whnf);repeat((first|refine aF ?_|refine aT ?_);(first|refine rG Γ hm ?_|refine rD Γ hm (by kernel_rfl) ?_);conv=>whnf))
  refine ⟨fun h => ?_, fun h => ?_⟩
  · have h := of_decide_eq_true h
    have hj2 : j < l.length := by omega
    ((first|refine rG Γ hm ?_|refine rD Γ hm (by kernel_rfl) ?_);(conv=>whnf);repeat((first|refine aF ?_|refine aT ?_);(first|refine rG Γ hm ?_|refine rD Γ hm (by kernel_rfl) ?_);conv=>whnf))
    refine ⟨rfl, by omega, by omega, ?_⟩
    ((conv=>whnf);repeat((first|refine aF ?_|refine aT ?_);(first|refine rG Γ hm ?_|refine rD Γ hm (by kernel_rfl) ?_);conv=>whnf))
    refine callC (hf l[j] (List.getElem_mem hj2)) rfl rfl rfl (by simp only [hin]; rfl) rfl rfl ?_
    ((first|refine rG Γ hm ?_|refine rD Γ hm (by kernel_rfl) ?_);(conv=>whnf);repeat((first|refine aF ?_|refine aT ?_);(first|refine rG Γ hm ?_|refine rD Γ hm (by kernel_rfl) ?_);conv=>whnf))
    refine ⟨fun h2 => ?_, fun h2 => ?_⟩
    · ((first|refine rG Γ hm ?_|refine rD Γ hm (by kernel_rfl) ?_);(conv=>whnf);repeat((first|refine aF ?_|refine aT ?_);(first|refine rG Γ hm ?_|refine rD Γ hm (by kernel_rfl) ?_);conv=>whnf))
      refine done0 rfl (.cons .tmp .nil) (congrArg intSV ?_) rfl
      exact idxI_found hj2 (fun i hi hij => by simpa using hI i hi hij) h2
    · ((first|refine rG Γ hm ?_|refine rD Γ hm (by kernel_rfl) ?_);(conv=>whnf);repeat((first|refine aF ?_|refine aT ?_);(first|refine rG Γ hm ?_|refine rD Γ hm (by kernel_rfl) ?_);conv=>whnf))
      refine ⟨by unfold I64; omega, ?_⟩
      ((conv=>whnf);repeat((first|refine aF ?_|refine aT ?_);(first|refine rG Γ hm ?_|refine rD Γ hm (by kernel_rfl) ?_);conv=>whnf))
      exact G_nextP [] hI hj2 (upto_next hI hj2 (by simp [h2])) ⟨⟨rfl, rfl, ren_id _, hc, rfl, rfl, rfl, rfl, trivial⟩, trivial, rfl, rfl⟩
  · have h := of_decide_eq_false h
    ((first|refine rG Γ hm ?_|refine rD Γ hm (by kernel_rfl) ?_);(conv=>whnf);repeat((first|refine aF ?_|refine aT ?_);(first|refine rG Γ hm ?_|refine rD Γ hm (by kernel_rfl) ?_);conv=>whnf))
    refine done0 rfl (.cons .tmp .nil) (congrArg intSV ?_) rfl
    exact idxI_none (fun i hi => by simpa using hI i hi (by omega))

theorem containsFuncS_Int (l : List Int) (p : Int → Bool) (f : FuncId) (first cap : List SV) (hc : (SV.clo (.func f) first cap).inn [] = true) (hf : ∀ x ∈ l, FunS Tryz.prog f (first ++ [intSV x] ++ cap) (boolSV (p x))) (hl : Short l) :
    Sy.Spec Tryz.prog 175 [.sl 1 intSV l, .clo (.func f) first cap] [] (boolSV (decide (0 ≤ idxI p l))) [] := contract Γ hm 100 F175 Tryz.ntmps175 rfl fun F hF => by
  have h0 : innL [] [.sl 1 intSV l, .clo (.func f) first cap] = true := by simp only [innL, hc]; rfl
  ((conv=>whnf);repeat((first|refine aF ?_|refine aT ?_);(first|refine rG Γ hm ?_|refine rD Γ hm (by kernel_rfl) ?_);conv=>whnf))
  refine call0 (indexFuncS_Int l p f first cap hc hf hl) F176 rfl rfl (by simp only [h0]; rfl) rfl rfl ?_
  ((first|refine rG Γ hm ?_|refine rD Γ hm (by kernel_rfl) ?_);(conv=>whnf);repeat((first|refine aF ?_|refine aT ?_);(first|refine rG Γ hm ?_|refine rD Γ hm (by kernel_rfl) ?_);conv=>whnf))
  exact done0 rfl (.cons .tmp .nil) rfl rfl

theorem indexFuncS_Irb (l : List Irb) (p : Irb → Bool) (f : FuncId) (first cap : List SV) (hc : (SV.clo (.func f) first cap).inn [] = true) (hf : ∀ x ∈ l, FunS Tryz.prog f (first ++ [irbSV x] ++ cap) (boolSV (p x))) (hl : Short l) :
    Sy.Spec Tryz.prog 139 [.sl 5 irbSV l, .clo (.func f) first cap] [] (intSV (idxI p l)) [] := contract Γ hm 100 F139 Tryz.ntmps139 rfl fun F hF => by
  unfold Short at hl
  have hin : ∀ x : Irb, innL [] (first ++ [irbSV x] ++ cap) = true := fun x => clo_inn hc rfl
  ((conv=>whnf);repeat((first|refine aF ?_|refine aT ?_);(first|refine rG Γ hm ?_|refine rD Γ hm (by kernel_rfl) ?_);conv=>whnf))
  refine G_countP l.length (fun j => Upto (fun _ x => !(p x)) l j) (fun j => [(0, .sl 5 irbSV l), (1, .clo (.func f) first cap), (7, intSV l.length), (8, intSV j)]) (fun _ => []) [] (upto_zero _ _) ⟨⟨rfl, rfl, ren_id _, hc, rfl, rfl, rfl, rfl, trivial⟩, trivial, rfl, rfl⟩ ?_
  intro j hj hI
  ((first|refine rG Γ hm ?_|refine rD Γ hm (by kernel_rfl) ?_);(conv=>whnf);repeat((first|refine aF ?_|refine aT ?_);(first|refine rG Γ hm ?_|refine rD Γ hm (by kernel_rfl) ?_);conv=>whnf))
  refine ⟨fun h => ?_, fun h => ?_⟩
  · have h := of_decide_eq_true h
    have hj2 : j < l.length := by omega
    ((first|refine rG Γ hm ?_|refine rD Γ hm (by kernel_rfl) ?_);(conv=>whnf);repeat((first|refine aF ?_|refine aT ?_);(first|refine rG Γ hm ?_|refine rD Γ hm (by kernel_rfl) ?_);conv=>whnf))
    refine ⟨rfl, by omega, by omega, ?_⟩
    ((conv=>whnf);repeat((first|refine aF ?_|refine aT ?_);(first|refine rG Γ hm ?_|refine rD Γ hm (by kernel_rfl) ?_);conv=>whnf))
    refine callC (hf l[j] (List.getElem_mem hj2)) rfl rfl rfl (by simp only [hin]; rfl) rfl rfl ?_
    ((first|refine rG Γ hm ?_|refine rD Γ hm (by kernel_rfl) ?_);(conv=>whnf);repeat((first|refine aF ?_|refine aT ?_);(first|refine rG Γ hm ?_|refine rD Γ hm (by kernel_rfl) ?_);conv=>whnf))
    refine ⟨fun h2 => ?_, fun h2 => ?_⟩
    · ((first|refine rG Γ hm ?_|refine rD Γ hm (by kernel_rfl) ?_);(conv=>whnf);repeat((first|refine aF ?_|refine aT ?_);(first|refine rG Γ hm ?_|refine rD Γ hm (by kernel_rfl) ?_);conv=>whnf))
      refine done0 rfl (.cons .tmp .nil) (congrArg intSV ?_) rfl
      exact idxI_found hj2 (fun i hi hij => by simpa using hI i hi hij) h2
    · ((first|refine rG Γ hm ?_|refine rD Γ hm (by kernel_rfl) ?_);(conv=>whnf);repeat((first|refine aF ?_|refine aT ?_);(first|refine rG Γ hm ?_|refine rD Γ hm (by kernel_rfl) ?_);conv=>whnf))
      refine ⟨by unfold I64; omega, ?_⟩
      ((conv=>whnf);repeat((first|refine aF ?_|refine aT ?_);(first|refine rG Γ hm ?_|refine rD Γ hm (by kernel_rfl) ?_);conv=>whnf))
      exact G_nextP [] hI hj2 (upto_next hI hj2 (by simp [h2])) ⟨⟨rfl, rfl, ren_id _, hc, rfl, rfl, rfl, rfl, trivial⟩, trivial, rfl, rfl⟩
  · have h := of_decide_eq_false h
    ((first|refine rG Γ hm ?_|refine rD Γ hm (by kernel_rfl) ?_);(conv=>whnf);repeat((first|refine aF ?_|refine aT ?_);(first|refine rG Γ hm ?_|refine rD Γ hm (by kernel_rfl) ?_);conv=>whnf))
    refine done0 rfl (.cons .tmp .nil) (congrArg intSV ?_) rfl
    exact idxI_none (fun i hi => by simpa using hI i hi (by omega))

theorem containsFuncS_Irb (l : List Irb) (p : Irb → Bool) (f : FuncId) (first cap : List SV) (hc : (SV.clo (.func f) first cap).inn [] = true) (hf : ∀ x ∈ l, FunS Tryz.prog f (first ++ [irbSV x] ++ cap) (boolSV (p x))) (hl : Short l) :
    Sy.Spec Tryz.prog 116 [.sl 5 irbSV l, .clo (.func f) first cap] [] (boolSV (decide (0 ≤ idxI p l))) [] := contract Γ hm 100 F116 Tryz.ntmps116 rfl fun F hF => by
  have h0 : innL [] [.sl 5 irbSV l, .clo (.func f) first cap] = true := by simp only [innL, hc]; rfl
  ((conv=>whnf);repeat((first|refine aF ?_|refine aT ?_);(first|refine rG Γ hm ?_|refine rD Γ hm (by kernel_rfl) ?_);conv=>whnf))
  refine call0 (indexFuncS_Irb l p f first cap hc hf hl) F139 rfl rfl (by simp only [h0]; rfl) rfl rfl ?_
  ((first|refine rG Γ hm ?_|refine rD Γ hm (by kernel_rfl) ?_);(conv=>whnf);repeat((first|refine aF ?_|refine aT ?_);(first|refine rG Γ hm ?_|refine rD Γ hm (by kernel_rfl) ?_);conv=>whnf))
  exact done0 rfl (.cons .tmp .nil) rfl rfl

/-- Is a target wanted by a VRF? -/
theorem wantedC (v : Vrf) (hv : Short v.imports) (t : Int) : Sy.Spec Tryz.prog 174 [intSV t, .ref 5 (vrfSV v) 0] [] (boolSV (inB v.imports t)) [] := contract Γ hm 100 F174 Tryz.ntmps174 rfl fun F hF => by
  have q := containsS v.imports t hv
  ((conv=>whnf);repeat((first|refine aF ?_|refine aT ?_);(first|refine rG Γ hm ?_|refine rD Γ hm (by kernel_rfl) ?_);conv=>whnf))
  refine call0 q F55 rfl rfl rfl rfl rfl ?_
  ((first|refine rG Γ hm ?_|refine rD Γ hm (by kernel_rfl) ?_);(conv=>whnf);repeat((first|refine aF ?_|refine aT ?_);(first|refine rG Γ hm ?_|refine rD Γ hm (by kernel_rfl) ?_);conv=>whnf))
  exact done0 rfl (.cons .tmp .nil) rfl rfl

/-- Does one VRF leak into another one, in a net that may be? -/
def leaksB (n : Net) (i k : Int) : Bool := i == k || (nth n.vrfs i).dev == (nth n.vrfs k).dev && decide (0 ≤ idxI (inB (nth n.vrfs k).imports) (nth n.vrfs i).exports)

theorem vrfsLeaksS (n : Net) (hn : n.Fin) (hb : netRightB n = true) (i k : Int) (hi : 0 ≤ i ∧ i.toNat < n.vrfs.length) (hk : 0 ≤ k ∧ k.toNat < n.vrfs.length) :
    Sy.Spec Tryz.prog 173 [netSV n, intSV i, intSV k] [] (boolSV (leaksB n i k)) [] := contract Γ hm 100 F173 Tryz.ntmps173 rfl fun F hF => by
  have hr := namesRightS n hn
  rw [hb] at hr
  have him := hn.imports _ (List.getElem_mem hk.2)
  have hex := hn.exports _ (List.getElem_mem hi.2)
  rw [leaksB, nth_eq hi.2, nth_eq hk.2]
  obtain ⟨a, ha⟩ : ∃ a, n.vrfs[i.toNat]'hi.2 = a := ⟨_, rfl⟩
  obtain ⟨b, hbb⟩ : ∃ b, n.vrfs[k.toNat]'hk.2 = b := ⟨_, rfl⟩
  rw [ha] at hex ⊢
  rw [hbb] at him ⊢
  have q := containsFuncS_Int a.exports (inB b.imports) 174 [] [.ref 5 (vrfSV b) 0] rfl (fun t _ => ⟨⟨_, _, F174⟩, wantedC b him t⟩) hex
  ((conv=>whnf);repeat((first|refine aF ?_|refine aT ?_);(first|refine rG Γ hm ?_|refine rD Γ hm (by kernel_rfl) ?_);conv=>whnf))
  refine ⟨fun h => absurd (of_decide_eq_true h) (by omega), fun _ => ?_⟩
  ((first|refine rG Γ hm ?_|refine rD Γ hm (by kernel_rfl) ?_);(conv=>whnf);repeat((first|refine aF ?_|refine aT ?_);(first|refine rG Γ hm ?_|refine rD Γ hm (by kernel_rfl) ?_);conv=>whnf))
  refine ⟨fun h => absurd (of_decide_eq_true h) (by omega), fun _ => ?_⟩
  ((first|refine rG Γ hm ?_|refine rD Γ hm (by kernel_rfl) ?_);(conv=>whnf);repeat((first|refine aF ?_|refine aT ?_);(first|refine rG Γ hm ?_|refine rD Γ hm (by kernel_rfl) ?_);conv=>whnf))
  refine ⟨fun h => absurd (of_decide_eq_true h) (by omega), fun _ => ?_⟩
  ((first|refine rG Γ hm ?_|refine rD Γ hm (by kernel_rfl) ?_);(conv=>whnf);repeat((first|refine aF ?_|refine aT ?_);(first|refine rG Γ hm ?_|refine rD Γ hm (by kernel_rfl) ?_);conv=>whnf))
  refine ⟨fun h => absurd (of_decide_eq_true h) (by omega), fun _ => ?_⟩
  ((first|refine rG Γ hm ?_|refine rD Γ hm (by kernel_rfl) ?_);(conv=>whnf);repeat((first|refine aF ?_|refine aT ?_);(first|refine rG Γ hm ?_|refine rD Γ hm (by kernel_rfl) ?_);conv=>whnf))
  refine call0 hr F15 rfl rfl rfl rfl rfl ?_
  ((first|refine rG Γ hm ?_|refine rD Γ hm (by kernel_rfl) ?_);(conv=>whnf);repeat((first|refine aF ?_|refine aT ?_);(first|refine rG Γ hm ?_|refine rD Γ hm (by kernel_rfl) ?_);conv=>whnf))
  refine ⟨rfl, hi.1, hi.2, ?_⟩
  rw [ha]
  ((conv=>whnf);repeat((first|refine aF ?_|refine aT ?_);(first|refine rG Γ hm ?_|refine rD Γ hm (by kernel_rfl) ?_);conv=>whnf))
  refine ⟨rfl, hk.1, hk.2, ?_⟩
  rw [hbb]
  ((conv=>whnf);repeat((first|refine aF ?_|refine aT ?_);(first|refine rG Γ hm ?_|refine rD Γ hm (by kernel_rfl) ?_);conv=>whnf))
  refine ⟨(by kernel_rfl), ?_⟩
  ((conv=>whnf);repeat((first|refine aF ?_|refine aT ?_);(first|refine rG Γ hm ?_|refine rD Γ hm (by kernel_rfl) ?_);conv=>whnf))
  refine ⟨fun h => ?_, fun h => ?_⟩
  · rw [h, Bool.true_or]
    ((first|refine rG Γ hm ?_|refine rD Γ hm (by kernel_rfl) ?_);(conv=>whnf);repeat((first|refine aF ?_|refine aT ?_);(first|refine rG Γ hm ?_|refine rD Γ hm (by kernel_rfl) ?_);conv=>whnf))
    exact done0 rfl (.cons .tmp .nil) rfl rfl
  rw [h, Bool.false_or]
  ((first|refine rG Γ hm ?_|refine rD Γ hm (by kernel_rfl) ?_);(conv=>whnf);repeat((first|refine aF ?_|refine aT ?_);(first|refine rG Γ hm ?_|refine rD Γ hm (by kernel_rfl) ?_);conv=>whnf))
  refine ⟨fun h => ?_, fun h => ?_⟩
  · rw [h, Bool.true_and]
    refine G_box 8 5 (vrfSV b) rfl rfl rfl ?_
    ((first|refine rG Γ hm ?_|refine rD Γ hm (by kernel_rfl) ?_);(conv=>whnf);repeat((first|refine aF ?_|refine aT ?_);(first|refine rG Γ hm ?_|refine rD Γ hm (by kernel_rfl) ?_);conv=>whnf))
    refine call0 q F175 rfl rfl rfl rfl rfl ?_
    ((first|refine rG Γ hm ?_|refine rD Γ hm (by kernel_rfl) ?_);(conv=>whnf);repeat((first|refine aF ?_|refine aT ?_);(first|refine rG Γ hm ?_|refine rD Γ hm (by kernel_rfl) ?_);conv=>whnf))
    exact done0 rfl (.cons .tmp .nil) rfl rfl
  · rw [h, Bool.false_and]
    ((first|refine rG Γ hm ?_|refine rD Γ hm (by kernel_rfl) ?_);(conv=>whnf);repeat((first|refine aF ?_|refine aT ?_);(first|refine rG Γ hm ?_|refine rD Γ hm (by kernel_rfl) ?_);conv=>whnf))
    exact done0 rfl (.cons .tmp .nil) rfl rfl

/-- The device of a routed interface. -/
def irbDev (n : Net) (i : Int) : Int := (nth n.domains (nth n.irbs i).domain).dev

theorem e_irb {n : Net} (h : netRightB n = true) {i : Nat} (hi : i < n.irbs.length) : irbB n i n.irbs[i] = true := by
  simp only [netRightB, Bool.and_eq_true] at h
  exact allB_iff.1 h.2 i hi

theorem e_irb_facts {n : Net} (h : netRightB n = true) {i : Nat} (hi : i < n.irbs.length) :
    (0 ≤ n.irbs[i].domain ∧ n.irbs[i].domain.toNat < n.domains.length) ∧ (0 ≤ n.irbs[i].vrf ∧ n.irbs[i].vrf.toNat < n.vrfs.length) ∧ (0 ≤ n.irbs[i].bits ∧ n.irbs[i].bits ≤ 32) := by
  have := e_irb h hi
  simp only [irbB, placeB, Bool.and_eq_true, decide_eq_true_eq] at this
  omega

theorem routeDeviceS (n : Net) (hb : netRightB n = true) (i : Int) (hi : 0 ≤ i ∧ i.toNat < n.irbs.length) : Sy.Spec Tryz.prog 157 [netSV n, intSV i] [] (intSV (irbDev n i)) [] := contract Γ hm 100 F157 Tryz.ntmps157 rfl fun F hF => by
  have hf := (e_irb_facts hb hi.2).1
  rw [irbDev, nth_eq hi.2]
  obtain ⟨x, hx⟩ : ∃ x, n.irbs[i.toNat]'hi.2 = x := ⟨_, rfl⟩
  rw [hx] at hf ⊢
  rw [nth_eq hf.2]
  obtain ⟨d, hd⟩ : ∃ d, n.domains[x.domain.toNat]'hf.2 = d := ⟨_, rfl⟩
  rw [hd]
  ((conv=>whnf);repeat((first|refine aF ?_|refine aT ?_);(first|refine rG Γ hm ?_|refine rD Γ hm (by kernel_rfl) ?_);conv=>whnf))
  refine ⟨rfl, hi.1, hi.2, ?_⟩
  rw [hx]
  ((conv=>whnf);repeat((first|refine aF ?_|refine aT ?_);(first|refine rG Γ hm ?_|refine rD Γ hm (by kernel_rfl) ?_);conv=>whnf))
  refine ⟨rfl, hf.1, hf.2, ?_⟩
  rw [hd]
  ((conv=>whnf);repeat((first|refine aF ?_|refine aT ?_);(first|refine rG Γ hm ?_|refine rD Γ hm (by kernel_rfl) ?_);conv=>whnf))
  refine ⟨(by kernel_rfl), ?_⟩
  ((conv=>whnf);repeat((first|refine aF ?_|refine aT ?_);(first|refine rG Γ hm ?_|refine rD Γ hm (by kernel_rfl) ?_);conv=>whnf))
  exact done0 rfl (.cons .tmp .nil) rfl rfl

def seesB (n : Net) (i k : Int) : Bool := irbDev n i == irbDev n k && leaksB n (nth n.irbs k).vrf (nth n.irbs i).vrf

theorem routeSeesS (n : Net) (hn : n.Fin) (hb : netRightB n = true) (i k : Int) (hi : 0 ≤ i ∧ i.toNat < n.irbs.length) (hk : 0 ≤ k ∧ k.toNat < n.irbs.length) :
    Sy.Spec Tryz.prog 159 [netSV n, intSV i, intSV k] [] (boolSV (seesB n i k)) [] := contract Γ hm 100 F159 Tryz.ntmps159 rfl fun F hF => by
  have q1 := routeDeviceS n hb i hi
  have q2 := routeDeviceS n hb k hk
  have f1 := (e_irb_facts hb hi.2).2.1
  have f2 := (e_irb_facts hb hk.2).2.1
  have q3 := vrfsLeaksS n hn hb _ _ f2 f1
  rw [seesB, nth_eq hi.2, nth_eq hk.2]
  obtain ⟨x, hx⟩ : ∃ x, n.irbs[i.toNat]'hi.2 = x := ⟨_, rfl⟩
  obtain ⟨y, hy⟩ : ∃ y, n.irbs[k.toNat]'hk.2 = y := ⟨_, rfl⟩
  rw [hx, hy] at q3
  rw [hx, hy]
  generalize irbDev n i = di at *
  generalize irbDev n k = dk at *
  ((conv=>whnf);repeat((first|refine aF ?_|refine aT ?_);(first|refine rG Γ hm ?_|refine rD Γ hm (by kernel_rfl) ?_);conv=>whnf))
  refine callD0 q1 F157 rfl rfl rfl (by kernel_rfl) rfl ?_
  ((first|refine rG Γ hm ?_|refine rD Γ hm (by kernel_rfl) ?_);(conv=>whnf);repeat((first|refine aF ?_|refine aT ?_);(first|refine rG Γ hm ?_|refine rD Γ hm (by kernel_rfl) ?_);conv=>whnf))
  refine callD0 q2 F157 rfl rfl rfl (by kernel_rfl) rfl ?_
  ((first|refine rG Γ hm ?_|refine rD Γ hm (by kernel_rfl) ?_);(conv=>whnf);repeat((first|refine aF ?_|refine aT ?_);(first|refine rG Γ hm ?_|refine rD Γ hm (by kernel_rfl) ?_);conv=>whnf))
  refine ⟨fun h => ?_, fun h => ?_⟩
  · rw [h, Bool.true_and]
    ((first|refine rG Γ hm ?_|refine rD Γ hm (by kernel_rfl) ?_);(conv=>whnf);repeat((first|refine aF ?_|refine aT ?_);(first|refine rG Γ hm ?_|refine rD Γ hm (by kernel_rfl) ?_);conv=>whnf))
    refine ⟨rfl, hk.1, hk.2, ?_⟩
    rw [hy]
    ((conv=>whnf);repeat((first|refine aF ?_|refine aT ?_);(first|refine rG Γ hm ?_|refine rD Γ hm (by kernel_rfl) ?_);conv=>whnf))
    refine ⟨rfl, hi.1, hi.2, ?_⟩
    rw [hx]
    ((conv=>whnf);repeat((first|refine aF ?_|refine aT ?_);(first|refine rG Γ hm ?_|refine rD Γ hm (by kernel_rfl) ?_);conv=>whnf))
    refine callD0 q3 F173 rfl rfl rfl (by kernel_rfl) rfl ?_
    ((first|refine rG Γ hm ?_|refine rD Γ hm (by kernel_rfl) ?_);(conv=>whnf);repeat((first|refine aF ?_|refine aT ?_);(first|refine rG Γ hm ?_|refine rD Γ hm (by kernel_rfl) ?_);conv=>whnf))
    refine ⟨(by kernel_rfl), ?_⟩
    ((conv=>whnf);repeat((first|refine aF ?_|refine aT ?_);(first|refine rG Γ hm ?_|refine rD Γ hm (by kernel_rfl) ?_);conv=>whnf))
    exact done0 rfl (.cons .tmp .nil) rfl rfl
  · rw [h, Bool.false_and]
    ((first|refine rG Γ hm ?_|refine rD Γ hm (by kernel_rfl) ?_);(conv=>whnf);repeat((first|refine aF ?_|refine aT ?_);(first|refine rG Γ hm ?_|refine rD Γ hm (by kernel_rfl) ?_);conv=>whnf))
    refine ⟨(by kernel_rfl), ?_⟩
    ((conv=>whnf);repeat((first|refine aF ?_|refine aT ?_);(first|refine rG Γ hm ?_|refine rD Γ hm (by kernel_rfl) ?_);conv=>whnf))
    exact done0 rfl (.cons .tmp .nil) rfl rfl

end Go.Sy.YtlfopmhekhifoaaGreatDoor

namespace Go.Sy.YtlfopmhekhifoaaGreatDoor
open Go.Proofs
-- SIMP: placeB

attribute [local irreducible] Go.Sy.G Go.Sy.DR
set_option maxRecDepth 20000
set_option maxHeartbeats 4000000

abbrev pfxSV (a b : Int) : SV := .agg [u32SV a, intSV b]

theorem pfxRightS (a b : Int) (h : 0 ≤ b ∧ b ≤ 32) : Sy.Spec Tryz.prog 163 [pfxSV a b] [] (boolSV true) [] := contract Γ hm 100 F163 Tryz.ntmps163 rfl fun F hF => by
  ((conv=>whnf);repeat((first|refine aF ?_|refine aT ?_);(first|refine rG Γ hm ?_|refine rD Γ hm (by kernel_rfl) ?_);conv=>whnf))
  refine ⟨fun _ => ?_, fun h2 => absurd (of_decide_eq_false h2) (by omega)⟩
  ((first|refine rG Γ hm ?_|refine rD Γ hm (by kernel_rfl) ?_);(conv=>whnf);repeat((first|refine aF ?_|refine aT ?_);(first|refine rG Γ hm ?_|refine rD Γ hm (by kernel_rfl) ?_);conv=>whnf))
  refine done0 rfl (.cons .tmp .nil) (congrArg boolSV ?_) rfl
  simp; omega

def restI (b : Int) : Int := IntKind.u32.wrap (IntKind.u32.wrap (1 * 2 ^ (min (32 - b).toNat IntKind.u32.bits)) - 1)
theorem pfxRestS (a b : Int) (h : 0 ≤ b ∧ b ≤ 32) : Sy.Spec Tryz.prog 164 [pfxSV a b] [] (u32SV (restI b)) [] := contract Γ hm 100 F164 Tryz.ntmps164 rfl fun F hF => by
  ((conv=>whnf);repeat((first|refine aF ?_|refine aT ?_);(first|refine rG Γ hm ?_|refine rD Γ hm (by kernel_rfl) ?_);conv=>whnf))
  refine ⟨by unfold I64; omega, ?_⟩
  ((conv=>whnf);repeat((first|refine aF ?_|refine aT ?_);(first|refine rG Γ hm ?_|refine rD Γ hm (by kernel_rfl) ?_);conv=>whnf))
  refine ⟨by omega, ?_⟩
  ((conv=>whnf);repeat((first|refine aF ?_|refine aT ?_);(first|refine rG Γ hm ?_|refine rD Γ hm (by kernel_rfl) ?_);conv=>whnf))
  exact done0 rfl (.cons .tmp .nil) rfl rfl

/-- Is an address one of a prefix's? -/
def hasB (a b x : Int) : Bool := bits .andNot .u32 (bits .xor .u32 a x) (restI b) == 0

theorem addrHasS (a b x : Int) (h : 0 ≤ b ∧ b ≤ 32) : Sy.Spec Tryz.prog 158 [pfxSV a b, u32SV x] [] (boolSV (hasB a b x)) [] := contract Γ hm 100 F158 Tryz.ntmps158 rfl fun F hF => by
  have q1 := pfxRightS a b h
  have q2 := pfxRestS a b h
  rw [hasB]
  generalize restI b = r at *
  ((conv=>whnf);repeat((first|refine aF ?_|refine aT ?_);(first|refine rG Γ hm ?_|refine rD Γ hm (by kernel_rfl) ?_);conv=>whnf))
  refine callD0 q1 F163 rfl rfl rfl (by kernel_rfl) rfl ?_
  ((first|refine rG Γ hm ?_|refine rD Γ hm (by kernel_rfl) ?_);(conv=>whnf);repeat((first|refine aF ?_|refine aT ?_);(first|refine rG Γ hm ?_|refine rD Γ hm (by kernel_rfl) ?_);conv=>whnf))
  refine callD0 q2 F164 rfl rfl rfl (by kernel_rfl) rfl ?_
  ((first|refine rG Γ hm ?_|refine rD Γ hm (by kernel_rfl) ?_);(conv=>whnf);repeat((first|refine aF ?_|refine aT ?_);(first|refine rG Γ hm ?_|refine rD Γ hm (by kernel_rfl) ?_);conv=>whnf))
  refine ⟨(by kernel_rfl), ?_⟩
  ((conv=>whnf);repeat((first|refine aF ?_|refine aT ?_);(first|refine rG Γ hm ?_|refine rD Γ hm (by kernel_rfl) ?_);conv=>whnf))
  exact done0 rfl (.cons .tmp .nil) rfl rfl

/-- The greatest one of a list, the first of those. -/
def maxI (c : Int → Int → Int) (l : List Int) (j : Nat) : Int := ((l.drop 1).take j).foldl (fun m x => if 0 < c x m then x else m) (nth l 0)

theorem maxI_succ (c : Int → Int → Int) (l : List Int) (j : Nat) (h : j + 1 < l.length) : maxI c l (j + 1) = if 0 < c l[j + 1] (maxI c l j) then l[j + 1] else maxI c l j := by
  have hl : j < (l.drop 1).length := by rw [List.length_drop]; omega
  rw [maxI, List.take_succ_eq_append_getElem hl, List.foldl_append]
  have e : (l.drop 1)[j] = l[j + 1] := by rw [List.getElem_drop]; congr 1; omega
  simp only [List.foldl_cons, List.foldl_nil, e]
  rfl

theorem maxI_mem (c : Int → Int → Int) (l : List Int) (h : 0 < l.length) : ∀ j, j + 1 ≤ l.length → maxI c l j ∈ l
  | 0, _ => by
    rw [maxI, List.take_zero, List.foldl_nil, nth_eq (l := l) (i := 0) (by simpa using h)]
    exact List.getElem_mem _
  | j + 1, hj => by
    rw [maxI_succ c l j (by omega)]
    split
    · exact List.getElem_mem _
    · exact maxI_mem c l h j (by omega)

theorem maxFuncS (l : List Int) (c : Int → Int → Int) (f : FuncId) (first cap : List SV) (hc : (SV.clo (.func f) first cap).inn [] = true) (h0 : 0 < l.length) (hl : Short l)
    (hf : ∀ x ∈ l, ∀ y ∈ l, FunS Tryz.prog f (first ++ [intSV x, intSV y] ++ cap) (intSV (c x y))) :
    Sy.Spec Tryz.prog 161 [.sl 1 intSV l, .clo (.func f) first cap] [] (intSV (maxI c l (l.length - 1))) [] := contract Γ hm 100 F161 Tryz.ntmps161 rfl fun F hF => by
  unfold Short at hl
  have hin : ∀ x y : Int, innL [] (first ++ [intSV x, intSV y] ++ cap) = true := fun x y => clo_inn hc rfl
  have hmem := maxI_mem c l h0
  have hsucc := maxI_succ c l
  have hz : maxI c l 0 = l[0] := by rw [maxI, List.take_zero, List.foldl_nil, nth_eq (l := l) (i := 0) (by simpa using h0)]; rfl
  generalize maxI c l = m at *
  ((conv=>whnf);repeat((first|refine aF ?_|refine aT ?_);(first|refine rG Γ hm ?_|refine rD Γ hm (by kernel_rfl) ?_);conv=>whnf))
  refine ⟨fun h => absurd (of_decide_eq_true h) (by omega), fun _ => ?_⟩
  ((first|refine rG Γ hm ?_|refine rD Γ hm (by kernel_rfl) ?_);(conv=>whnf);repeat((first|refine aF ?_|refine aT ?_);(first|refine rG Γ hm ?_|refine rD Γ hm (by kernel_rfl) ?_);conv=>whnf))
  refine ⟨rfl, by omega, by simpa using h0, ?_⟩
  ((conv=>whnf);repeat((first|refine aF ?_|refine aT ?_);(first|refine rG Γ hm ?_|refine rD Γ hm (by kernel_rfl) ?_);conv=>whnf))
  refine G_count (l.length - 1) (fun j => [(0, .sl 1 intSV l), (1, .clo (.func f) first cap), (5, intSV (m j)), (6, intSV ((j : Int) + 1))]) (fun _ => []) []
    ⟨⟨rfl, rfl, ren_id _, hc, congrArg intSV hz, rfl, rfl, rfl, trivial⟩, trivial, rfl, rfl⟩ ?_
  intro j hj
  have hmj := hmem j (by omega)
  have hsj := hsucc j
  ((first|refine rG Γ hm ?_|refine rD Γ hm (by kernel_rfl) ?_);(conv=>whnf);repeat((first|refine aF ?_|refine aT ?_);(first|refine rG Γ hm ?_|refine rD Γ hm (by kernel_rfl) ?_);conv=>whnf))
  refine ⟨fun h => ?_, fun h => ?_⟩
  · have hlt : j + 1 < l.length := by have := of_decide_eq_true h; omega
    have hsj := hsj hlt
    have hk : ((j : Int) + 1).toNat < l.length := by omega
    have e1 : l[((j : Int) + 1).toNat]'hk = l[j + 1] := by congr 1
    obtain ⟨x, hx⟩ : ∃ x, l[j + 1] = x := ⟨_, rfl⟩
    have hxm : x ∈ l := hx ▸ List.getElem_mem hlt
    rw [hx] at e1 hsj
    ((first|refine rG Γ hm ?_|refine rD Γ hm (by kernel_rfl) ?_);(conv=>whnf);repeat((first|refine aF ?_|refine aT ?_);(first|refine rG Γ hm ?_|refine rD Γ hm (by kernel_rfl) ?_);conv=>whnf))
    refine ⟨rfl, by omega, hk, ?_⟩
    rw [e1]
    ((conv=>whnf);repeat((first|refine aF ?_|refine aT ?_);(first|refine rG Γ hm ?_|refine rD Γ hm (by kernel_rfl) ?_);conv=>whnf))
    refine callC (hf x hxm (m j) hmj) rfl rfl rfl (by simp only [hin]; rfl) rfl rfl ?_
    ((first|refine rG Γ hm ?_|refine rD Γ hm (by kernel_rfl) ?_);(conv=>whnf);repeat((first|refine aF ?_|refine aT ?_);(first|refine rG Γ hm ?_|refine rD Γ hm (by kernel_rfl) ?_);conv=>whnf))
    refine ⟨fun h2 => ?_, fun h2 => ?_⟩
    · rw [if_pos (of_decide_eq_true h2)] at hsj
      ((first|refine rG Γ hm ?_|refine rD Γ hm (by kernel_rfl) ?_);(conv=>whnf);repeat((first|refine aF ?_|refine aT ?_);(first|refine rG Γ hm ?_|refine rD Γ hm (by kernel_rfl) ?_);conv=>whnf))
      refine ⟨rfl, by omega, hk, ?_⟩
      rw [e1]
      ((conv=>whnf);repeat((first|refine aF ?_|refine aT ?_);(first|refine rG Γ hm ?_|refine rD Γ hm (by kernel_rfl) ?_);conv=>whnf))
      refine ⟨by unfold I64; omega, ?_⟩
      ((conv=>whnf);repeat((first|refine aF ?_|refine aT ?_);(first|refine rG Γ hm ?_|refine rD Γ hm (by kernel_rfl) ?_);conv=>whnf))
      exact G_next [] (by omega) ⟨⟨rfl, rfl, ren_id _, hc, congrArg intSV hsj, rfl, congrArg intSV (by omega), rfl, trivial⟩, trivial, rfl, rfl⟩
    · rw [if_neg (of_decide_eq_false h2)] at hsj
      ((first|refine rG Γ hm ?_|refine rD Γ hm (by kernel_rfl) ?_);(conv=>whnf);repeat((first|refine aF ?_|refine aT ?_);(first|refine rG Γ hm ?_|refine rD Γ hm (by kernel_rfl) ?_);conv=>whnf))
      refine ⟨by unfold I64; omega, ?_⟩
      ((conv=>whnf);repeat((first|refine aF ?_|refine aT ?_);(first|refine rG Γ hm ?_|refine rD Γ hm (by kernel_rfl) ?_);conv=>whnf))
      exact G_next [] (by omega) ⟨⟨rfl, rfl, ren_id _, hc, congrArg intSV hsj, rfl, congrArg intSV (by omega), rfl, trivial⟩, trivial, rfl, rfl⟩
  · have : j = l.length - 1 := by have := of_decide_eq_false h; omega
    subst this
    ((first|refine rG Γ hm ?_|refine rD Γ hm (by kernel_rfl) ?_);(conv=>whnf);repeat((first|refine aF ?_|refine aT ?_);(first|refine rG Γ hm ?_|refine rD Γ hm (by kernel_rfl) ?_);conv=>whnf))
    exact done0 rfl (.cons .tmp .nil) rfl rfl

end Go.Sy.YtlfopmhekhifoaaGreatDoor

namespace Go.Sy.YtlfopmhekhifoaaGreatDoor
open Go.Proofs
-- SIMP: placeB

attribute [local irreducible] Go.Sy.G Go.Sy.DR
set_option maxRecDepth 20000
set_option maxHeartbeats 4000000

def ownV (n : Net) (irb i : Int) : Int := if (nth n.irbs i).vrf = (nth n.irbs irb).vrf then 1 else 0

abbrev InIrbs (n : Net) (i : Int) : Prop := 0 ≤ i ∧ i.toNat < n.irbs.length

theorem lookOwnC (n : Net) (irb i : Int) (hi : InIrbs n i) (hk : InIrbs n irb) : Sy.Spec Tryz.prog 160 [intSV i, .ref 8 (netSV n) 0, .ref 1 (intSV irb) 0] [] (intSV (ownV n irb i)) [] := contract Γ hm 100 F160 Tryz.ntmps160 rfl fun F hF => by
  rw [ownV, nth_eq hi.2, nth_eq hk.2]
  obtain ⟨x, hx⟩ : ∃ x, n.irbs[i.toNat]'hi.2 = x := ⟨_, rfl⟩
  obtain ⟨y, hy⟩ : ∃ y, n.irbs[irb.toNat]'hk.2 = y := ⟨_, rfl⟩
  rw [hx, hy]
  ((conv=>whnf);repeat((first|refine aF ?_|refine aT ?_);(first|refine rG Γ hm ?_|refine rD Γ hm (by kernel_rfl) ?_);conv=>whnf))
  refine ⟨rfl, hi.1, hi.2, ?_⟩
  rw [hx]
  ((conv=>whnf);repeat((first|refine aF ?_|refine aT ?_);(first|refine rG Γ hm ?_|refine rD Γ hm (by kernel_rfl) ?_);conv=>whnf))
  refine ⟨rfl, hk.1, hk.2, ?_⟩
  rw [hy]
  ((conv=>whnf);repeat((first|refine aF ?_|refine aT ?_);(first|refine rG Γ hm ?_|refine rD Γ hm (by kernel_rfl) ?_);conv=>whnf))
  refine ⟨(by kernel_rfl), ?_⟩
  ((conv=>whnf);repeat((first|refine aF ?_|refine aT ?_);(first|refine rG Γ hm ?_|refine rD Γ hm (by kernel_rfl) ?_);conv=>whnf))
  refine ⟨fun h => ?_, fun h => ?_⟩
  · rw [if_pos (by simpa using h)]
    ((first|refine rG Γ hm ?_|refine rD Γ hm (by kernel_rfl) ?_);(conv=>whnf);repeat((first|refine aF ?_|refine aT ?_);(first|refine rG Γ hm ?_|refine rD Γ hm (by kernel_rfl) ?_);conv=>whnf))
    exact done0 rfl (.cons .tmp .nil) rfl rfl
  · rw [if_neg (by simpa using h)]
    ((first|refine rG Γ hm ?_|refine rD Γ hm (by kernel_rfl) ?_);(conv=>whnf);repeat((first|refine aF ?_|refine aT ?_);(first|refine rG Γ hm ?_|refine rD Γ hm (by kernel_rfl) ?_);conv=>whnf))
    exact done0 rfl (.cons .tmp .nil) rfl rfl

def cmpR (n : Net) (irb a b : Int) : Int := if (nth n.irbs a).bits ≠ (nth n.irbs b).bits then (nth n.irbs a).bits - (nth n.irbs b).bits else ownV n irb a - ownV n irb b

theorem ownV_le (n : Net) (irb i : Int) : 0 ≤ ownV n irb i ∧ ownV n irb i ≤ 1 := by
  unfold ownV; split <;> omega

theorem lookCmpC (n : Net) (hb : netRightB n = true) (irb a b : Int) (hk : InIrbs n irb) (ha : InIrbs n a) (hb2 : InIrbs n b) :
    Sy.Spec Tryz.prog 162 [intSV a, intSV b, .ref 8 (netSV n) 0, .ref 1 (.clo (.func 160) [] [.ref 8 (netSV n) 0, .ref 1 (intSV irb) 0]) 0] [] (intSV (cmpR n irb a b)) [] := contract Γ hm 100 F162 Tryz.ntmps162 rfl fun F hF => by
  have fa := (e_irb_facts hb ha.2).2.2
  have fb := (e_irb_facts hb hb2.2).2.2
  have q1 := lookOwnC n irb a ha hk
  have q2 := lookOwnC n irb b hb2 hk
  have l1 := ownV_le n irb a
  have l2 := ownV_le n irb b
  rw [cmpR, nth_eq ha.2, nth_eq hb2.2]
  obtain ⟨x, hx⟩ : ∃ x, n.irbs[a.toNat]'ha.2 = x := ⟨_, rfl⟩
  obtain ⟨y, hy⟩ : ∃ y, n.irbs[b.toNat]'hb2.2 = y := ⟨_, rfl⟩
  rw [hx] at fa ⊢
  rw [hy] at fb ⊢
  generalize ownV n irb a = oa at *
  generalize ownV n irb b = ob at *
  ((conv=>whnf);repeat((first|refine aF ?_|refine aT ?_);(first|refine rG Γ hm ?_|refine rD Γ hm (by kernel_rfl) ?_);conv=>whnf))
  refine ⟨rfl, ha.1, ha.2, ?_⟩
  rw [hx]
  ((conv=>whnf);repeat((first|refine aF ?_|refine aT ?_);(first|refine rG Γ hm ?_|refine rD Γ hm (by kernel_rfl) ?_);conv=>whnf))
  refine ⟨rfl, hb2.1, hb2.2, ?_⟩
  rw [hy]
  ((conv=>whnf);repeat((first|refine aF ?_|refine aT ?_);(first|refine rG Γ hm ?_|refine rD Γ hm (by kernel_rfl) ?_);conv=>whnf))
  refine ⟨(by kernel_rfl), ?_⟩
  ((conv=>whnf);repeat((first|refine aF ?_|refine aT ?_);(first|refine rG Γ hm ?_|refine rD Γ hm (by kernel_rfl) ?_);conv=>whnf))
  refine ⟨fun h => ?_, fun h => ?_⟩
  · rw [if_pos (by simpa using h)]
    ((first|refine rG Γ hm ?_|refine rD Γ hm (by kernel_rfl) ?_);(conv=>whnf);repeat((first|refine aF ?_|refine aT ?_);(first|refine rG Γ hm ?_|refine rD Γ hm (by kernel_rfl) ?_);conv=>whnf))
    refine ⟨by unfold I64; omega, ?_⟩
    ((conv=>whnf);repeat((first|refine aF ?_|refine aT ?_);(first|refine rG Γ hm ?_|refine rD Γ hm (by kernel_rfl) ?_);conv=>whnf))
    exact done0 rfl (.cons .tmp .nil) rfl rfl
  · rw [if_neg (by simpa using h)]
    ((first|refine rG Γ hm ?_|refine rD Γ hm (by kernel_rfl) ?_);(conv=>whnf);repeat((first|refine aF ?_|refine aT ?_);(first|refine rG Γ hm ?_|refine rD Γ hm (by kernel_rfl) ?_);conv=>whnf))
    refine callDC ⟨⟨_, _, F160⟩, q1⟩ rfl rfl rfl rfl (by kernel_rfl) rfl ?_
    ((first|refine rG Γ hm ?_|refine rD Γ hm (by kernel_rfl) ?_);(conv=>whnf);repeat((first|refine aF ?_|refine aT ?_);(first|refine rG Γ hm ?_|refine rD Γ hm (by kernel_rfl) ?_);conv=>whnf))
    refine callDC ⟨⟨_, _, F160⟩, q2⟩ rfl rfl rfl rfl (by kernel_rfl) rfl ?_
    ((first|refine rG Γ hm ?_|refine rD Γ hm (by kernel_rfl) ?_);(conv=>whnf);repeat((first|refine aF ?_|refine aT ?_);(first|refine rG Γ hm ?_|refine rD Γ hm (by kernel_rfl) ?_);conv=>whnf))
    refine ⟨by unfold I64; omega, ?_⟩
    ((conv=>whnf);repeat((first|refine aF ?_|refine aT ?_);(first|refine rG Γ hm ?_|refine rD Γ hm (by kernel_rfl) ?_);conv=>whnf))
    refine ⟨(by kernel_rfl), ?_⟩
    ((conv=>whnf);repeat((first|refine aF ?_|refine aT ?_);(first|refine rG Γ hm ?_|refine rD Γ hm (by kernel_rfl) ?_);conv=>whnf))
    exact done0 rfl (.cons .tmp .nil) rfl rfl

end Go.Sy.YtlfopmhekhifoaaGreatDoor

namespace Go.Sy.YtlfopmhekhifoaaGreatDoor
open Go.Proofs
-- SIMP: placeB

attribute [local irreducible] Go.Sy.G Go.Sy.DR
set_option maxRecDepth 20000
set_option maxHeartbeats 4000000

def takenB (n : Net) (irb dst : Int) (i : Nat) : Bool := irbDev n i == irbDev n irb && (nth n.irbs i).addr == dst
def wayB (n : Net) (irb dst : Int) (i : Nat) : Bool := hasB (nth n.irbs i).addr (nth n.irbs i).bits dst && seesB n irb i
def waysL (n : Net) (irb dst : Int) : List Int := filtI (wayB n irb dst) n.irbs.length
def lookT (n : Net) (irb dst : Int) : Int × Bool :=
  if (List.range n.irbs.length).any (takenB n irb dst) = true then (0, false)
  else if waysL n irb dst = [] then (0, false) else (maxI (cmpR n irb) (waysL n irb dst) ((waysL n irb dst).length - 1), true)

theorem lookupS (n : Net) (hn : n.Fin) (hb : netRightB n = true) (irb dst : Int) (hk : InIrbs n irb) : Sy.Spec Tryz.prog 138 [netSV n, intSV irb, u32SV dst] [] (.tup [intSV (lookT n irb dst).1, boolSV (lookT n irb dst).2]) [] := contract Γ hm 100 F138 Tryz.ntmps138 rfl fun F hF => by
  have hlk := lookT.eq_1 n irb dst
  generalize lookT n irb dst = r at *
  have hsi := hn.irbs
  unfold Short at hsi
  have qk := routeDeviceS n hb irb hk
  ((conv=>whnf);repeat((first|refine aF ?_|refine aT ?_);(first|refine rG Γ hm ?_|refine rD Γ hm (by kernel_rfl) ?_);conv=>whnf))
  refine G_box 3 8 (netSV n) rfl rfl rfl ?_
  refine G_box 4 1 (intSV irb) rfl rfl rfl ?_
  refine G_adopt 8 1000 1 intSV rfl rfl ?_
  refine G_countP n.irbs.length (fun j => ∀ i, i < j → takenB n irb dst i = false) (fun j => [(2, u32SV dst), (3, .ref 8 (netSV n) 0), (4, .ref 1 (intSV irb) 0), (8, .osl 1000), (13, .sl 5 irbSV n.irbs), (14, intSV n.irbs.length), (15, intSV j)]) (fun j => [(1000, .row 1 intSV (filtI (wayB n irb dst) j))]) [] (fun i hi => absurd hi (by omega))
    ⟨⟨rfl, rfl, rfl, rfl, rfl, rfl, rfl, rfl, rfl, rfl, rfl, rfl, rfl, rfl, trivial⟩, ⟨.inl rfl, rfl, trivial⟩, rfl, rfl⟩ ?_
  intro j hj hI
  ((first|refine rG Γ hm ?_|refine rD Γ hm (by kernel_rfl) ?_);(conv=>whnf);repeat((first|refine aF ?_|refine aT ?_);(first|refine rG Γ hm ?_|refine rD Γ hm (by kernel_rfl) ?_);conv=>whnf))
  refine ⟨fun h => ?_, fun h => ?_⟩
  · have hlt : j < n.irbs.length := by simpa using h
    have hij : InIrbs n (j : Int) := ⟨by omega, by simpa using hlt⟩
    have qj := routeDeviceS n hb j hij
    have hsucc := filtI_succ (wayB n irb dst) j
    have hfl := filtI_length (wayB n irb dst) j
    have hta : takenB n irb dst j = (irbDev n j == irbDev n irb && (nth n.irbs j).addr == dst) := rfl
    have hwa : wayB n irb dst j = (hasB (nth n.irbs j).addr (nth n.irbs j).bits dst && seesB n irb j) := rfl
    have enj : nth n.irbs (j : Int) = n.irbs[j] := nth_eq (l := n.irbs) (i := (j : Int)) (by simpa using hlt)
    have hf := (e_irb_facts hb hlt).2.2
    have e1 : n.irbs[(j : Int).toNat]'(by omega) = n.irbs[j] := rfl
    rw [enj] at hta hwa
    obtain ⟨x, hx⟩ : ∃ x, n.irbs[j] = x := ⟨_, rfl⟩
    rw [hx] at e1 hta hwa hf
    have q1 := addrHasS x.addr x.bits dst hf
    have q2 := routeSeesS n hn hb irb j hk hij
    rw [hwa] at hsucc
    obtain ⟨u, hu⟩ : ∃ u, filtI (wayB n irb dst) j = u := ⟨_, rfl⟩
    rw [hu] at hsucc hfl ⊢
    ((first|refine rG Γ hm ?_|refine rD Γ hm (by kernel_rfl) ?_);(conv=>whnf);repeat((first|refine aF ?_|refine aT ?_);(first|refine rG Γ hm ?_|refine rD Γ hm (by kernel_rfl) ?_);conv=>whnf))
    refine ⟨rfl, by omega, by omega, ?_⟩
    rw [e1]
    ((conv=>whnf);repeat((first|refine aF ?_|refine aT ?_);(first|refine rG Γ hm ?_|refine rD Γ hm (by kernel_rfl) ?_);conv=>whnf))
    refine callD0 qj F157 rfl rfl rfl (by kernel_rfl) rfl ?_
    ((first|refine rG Γ hm ?_|refine rD Γ hm (by kernel_rfl) ?_);(conv=>whnf);repeat((first|refine aF ?_|refine aT ?_);(first|refine rG Γ hm ?_|refine rD Γ hm (by kernel_rfl) ?_);conv=>whnf))
    refine callD0 qk F157 rfl rfl rfl (by kernel_rfl) rfl ?_
    ((first|refine rG Γ hm ?_|refine rD Γ hm (by kernel_rfl) ?_);(conv=>whnf);repeat((first|refine aF ?_|refine aT ?_);(first|refine rG Γ hm ?_|refine rD Γ hm (by kernel_rfl) ?_);conv=>whnf))
    refine ⟨fun h2 => ?_, fun h2 => ?_⟩
    · rw [h2, Bool.true_and] at hta
      ((first|refine rG Γ hm ?_|refine rD Γ hm (by kernel_rfl) ?_);(conv=>whnf);repeat((first|refine aF ?_|refine aT ?_);(first|refine rG Γ hm ?_|refine rD Γ hm (by kernel_rfl) ?_);conv=>whnf))
      refine ⟨(by kernel_rfl), ?_⟩
      ((conv=>whnf);repeat((first|refine aF ?_|refine aT ?_);(first|refine rG Γ hm ?_|refine rD Γ hm (by kernel_rfl) ?_);conv=>whnf))
      refine ⟨fun h3 => ?_, fun h3 => ?_⟩
      · have : (List.range n.irbs.length).any (takenB n irb dst) = true := List.any_eq_true.2 ⟨j, by simpa using hlt, hta.trans h3⟩
        rw [if_pos this] at hlk
        subst hlk
        ((first|refine rG Γ hm ?_|refine rD Γ hm (by kernel_rfl) ?_);(conv=>whnf);repeat((first|refine aF ?_|refine aT ?_);(first|refine rG Γ hm ?_|refine rD Γ hm (by kernel_rfl) ?_);conv=>whnf))
        exact done0 rfl (.cons .tmp (.cons .tmp .nil)) rfl rfl
      · have hnt := hta.trans h3
        ((first|refine rG Γ hm ?_|refine rD Γ hm (by kernel_rfl) ?_);(conv=>whnf);repeat((first|refine aF ?_|refine aT ?_);(first|refine rG Γ hm ?_|refine rD Γ hm (by kernel_rfl) ?_);conv=>whnf))
        refine call0 q1 F158 rfl rfl rfl rfl rfl ?_
        ((first|refine rG Γ hm ?_|refine rD Γ hm (by kernel_rfl) ?_);(conv=>whnf);repeat((first|refine aF ?_|refine aT ?_);(first|refine rG Γ hm ?_|refine rD Γ hm (by kernel_rfl) ?_);conv=>whnf))
        refine ⟨fun h4 => ?_, fun h4 => ?_⟩
        · rw [h4, Bool.true_and] at hsucc
          ((first|refine rG Γ hm ?_|refine rD Γ hm (by kernel_rfl) ?_);(conv=>whnf);repeat((first|refine aF ?_|refine aT ?_);(first|refine rG Γ hm ?_|refine rD Γ hm (by kernel_rfl) ?_);conv=>whnf))
          refine call0 q2 F159 rfl rfl rfl rfl rfl ?_
          ((first|refine rG Γ hm ?_|refine rD Γ hm (by kernel_rfl) ?_);(conv=>whnf);repeat((first|refine aF ?_|refine aT ?_);(first|refine rG Γ hm ?_|refine rD Γ hm (by kernel_rfl) ?_);conv=>whnf))
          refine ⟨fun h5 => ?_, fun h5 => ?_⟩
          · rw [if_pos h5] at hsucc
            ((first|refine rG Γ hm ?_|refine rD Γ hm (by kernel_rfl) ?_);(conv=>whnf);repeat((first|refine aF ?_|refine aT ?_);(first|refine rG Γ hm ?_|refine rD Γ hm (by kernel_rfl) ?_);conv=>whnf))
            refine stepOp (good_appendT Γ.toTy 47 rfl rfl rfl rfl rfl (.row rfl) (.lit (e := intSV) (l := [(j : Int)]) rfl rfl) (by simp) (by simp; omega) (by simp; omega)) rfl rfl ?_
            ((first|refine rG Γ hm ?_|refine rD Γ hm (by kernel_rfl) ?_);(conv=>whnf);repeat((first|refine aF ?_|refine aT ?_);(first|refine rG Γ hm ?_|refine rD Γ hm (by kernel_rfl) ?_);conv=>whnf))
            refine ⟨by unfold I64; omega, ?_⟩
            ((conv=>whnf);repeat((first|refine aF ?_|refine aT ?_);(first|refine rG Γ hm ?_|refine rD Γ hm (by kernel_rfl) ?_);conv=>whnf))
            exact G_nextP [(1000, 47)] hI hlt (fun i hi => if e : i = j then (by rw [e]; exact hnt) else hI i (by omega)) ⟨⟨rfl, rfl, rfl, rfl, rfl, rfl, rfl, rfl, rfl, rfl, rfl, rfl, rfl, rfl, trivial⟩, ⟨.inl (congrArg (Ob.row 1 intSV) hsucc), rfl, trivial⟩, rfl, rfl⟩
          · rw [if_neg (by simp [h5])] at hsucc
            ((first|refine rG Γ hm ?_|refine rD Γ hm (by kernel_rfl) ?_);(conv=>whnf);repeat((first|refine aF ?_|refine aT ?_);(first|refine rG Γ hm ?_|refine rD Γ hm (by kernel_rfl) ?_);conv=>whnf))
            refine ⟨by unfold I64; omega, ?_⟩
            ((conv=>whnf);repeat((first|refine aF ?_|refine aT ?_);(first|refine rG Γ hm ?_|refine rD Γ hm (by kernel_rfl) ?_);conv=>whnf))
            exact G_nextP [] hI hlt (fun i hi => if e : i = j then (by rw [e]; exact hnt) else hI i (by omega)) ⟨⟨rfl, rfl, rfl, rfl, rfl, rfl, rfl, rfl, rfl, rfl, rfl, rfl, rfl, rfl, trivial⟩, ⟨.inl (congrArg (Ob.row 1 intSV) hsucc), rfl, trivial⟩, rfl, rfl⟩
        · rw [if_neg (by simp [h4])] at hsucc
          ((first|refine rG Γ hm ?_|refine rD Γ hm (by kernel_rfl) ?_);(conv=>whnf);repeat((first|refine aF ?_|refine aT ?_);(first|refine rG Γ hm ?_|refine rD Γ hm (by kernel_rfl) ?_);conv=>whnf))
          refine ⟨by unfold I64; omega, ?_⟩
          ((conv=>whnf);repeat((first|refine aF ?_|refine aT ?_);(first|refine rG Γ hm ?_|refine rD Γ hm (by kernel_rfl) ?_);conv=>whnf))
          exact G_nextP [] hI hlt (fun i hi => if e : i = j then (by rw [e]; exact hnt) else hI i (by omega)) ⟨⟨rfl, rfl, rfl, rfl, rfl, rfl, rfl, rfl, rfl, rfl, rfl, rfl, rfl, rfl, trivial⟩, ⟨.inl (congrArg (Ob.row 1 intSV) hsucc), rfl, trivial⟩, rfl, rfl⟩
    · have hnt : takenB n irb dst j = false := by rw [hta, h2, Bool.false_and]
      ((first|refine rG Γ hm ?_|refine rD Γ hm (by kernel_rfl) ?_);(conv=>whnf);repeat((first|refine aF ?_|refine aT ?_);(first|refine rG Γ hm ?_|refine rD Γ hm (by kernel_rfl) ?_);conv=>whnf))
      refine ⟨(by kernel_rfl), ?_⟩
      ((conv=>whnf);repeat((first|refine aF ?_|refine aT ?_);(first|refine rG Γ hm ?_|refine rD Γ hm (by kernel_rfl) ?_);conv=>whnf))
      refine call0 q1 F158 rfl rfl rfl rfl rfl ?_
      ((first|refine rG Γ hm ?_|refine rD Γ hm (by kernel_rfl) ?_);(conv=>whnf);repeat((first|refine aF ?_|refine aT ?_);(first|refine rG Γ hm ?_|refine rD Γ hm (by kernel_rfl) ?_);conv=>whnf))
      refine ⟨fun h4 => ?_, fun h4 => ?_⟩
      · rw [h4, Bool.true_and] at hsucc
        ((first|refine rG Γ hm ?_|refine rD Γ hm (by kernel_rfl) ?_);(conv=>whnf);repeat((first|refine aF ?_|refine aT ?_);(first|refine rG Γ hm ?_|refine rD Γ hm (by kernel_rfl) ?_);conv=>whnf))
        refine call0 q2 F159 rfl rfl rfl rfl rfl ?_
        ((first|refine rG Γ hm ?_|refine rD Γ hm (by kernel_rfl) ?_);(conv=>whnf);repeat((first|refine aF ?_|refine aT ?_);(first|refine rG Γ hm ?_|refine rD Γ hm (by kernel_rfl) ?_);conv=>whnf))
        refine ⟨fun h5 => ?_, fun h5 => ?_⟩
        · rw [if_pos h5] at hsucc
          ((first|refine rG Γ hm ?_|refine rD Γ hm (by kernel_rfl) ?_);(conv=>whnf);repeat((first|refine aF ?_|refine aT ?_);(first|refine rG Γ hm ?_|refine rD Γ hm (by kernel_rfl) ?_);conv=>whnf))
          refine stepOp (good_appendT Γ.toTy 47 rfl rfl rfl rfl rfl (.row rfl) (.lit (e := intSV) (l := [(j : Int)]) rfl rfl) (by simp) (by simp; omega) (by simp; omega)) rfl rfl ?_
          ((first|refine rG Γ hm ?_|refine rD Γ hm (by kernel_rfl) ?_);(conv=>whnf);repeat((first|refine aF ?_|refine aT ?_);(first|refine rG Γ hm ?_|refine rD Γ hm (by kernel_rfl) ?_);conv=>whnf))
          refine ⟨by unfold I64; omega, ?_⟩
          ((conv=>whnf);repeat((first|refine aF ?_|refine aT ?_);(first|refine rG Γ hm ?_|refine rD Γ hm (by kernel_rfl) ?_);conv=>whnf))
          exact G_nextP [(1000, 47)] hI hlt (fun i hi => if e : i = j then (by rw [e]; exact hnt) else hI i (by omega)) ⟨⟨rfl, rfl, rfl, rfl, rfl, rfl, rfl, rfl, rfl, rfl, rfl, rfl, rfl, rfl, trivial⟩, ⟨.inl (congrArg (Ob.row 1 intSV) hsucc), rfl, trivial⟩, rfl, rfl⟩
        · rw [if_neg (by simp [h5])] at hsucc
          ((first|refine rG Γ hm ?_|refine rD Γ hm (by kernel_rfl) ?_);(conv=>whnf);repeat((first|refine aF ?_|refine aT ?_);(first|refine rG Γ hm ?_|refine rD Γ hm (by kernel_rfl) ?_);conv=>whnf))
          refine ⟨by unfold I64; omega, ?_⟩
          ((conv=>whnf);repeat((first|refine aF ?_|refine aT ?_);(first|refine rG Γ hm ?_|refine rD Γ hm (by kernel_rfl) ?_);conv=>whnf))
          exact G_nextP [] hI hlt (fun i hi => if e : i = j then (by rw [e]; exact hnt) else hI i (by omega)) ⟨⟨rfl, rfl, rfl, rfl, rfl, rfl, rfl, rfl, rfl, rfl, rfl, rfl, rfl, rfl, trivial⟩, ⟨.inl (congrArg (Ob.row 1 intSV) hsucc), rfl, trivial⟩, rfl, rfl⟩
      · rw [if_neg (by simp [h4])] at hsucc
        ((first|refine rG Γ hm ?_|refine rD Γ hm (by kernel_rfl) ?_);(conv=>whnf);repeat((first|refine aF ?_|refine aT ?_);(first|refine rG Γ hm ?_|refine rD Γ hm (by kernel_rfl) ?_);conv=>whnf))
        refine ⟨by unfold I64; omega, ?_⟩
        ((conv=>whnf);repeat((first|refine aF ?_|refine aT ?_);(first|refine rG Γ hm ?_|refine rD Γ hm (by kernel_rfl) ?_);conv=>whnf))
        exact G_nextP [] hI hlt (fun i hi => if e : i = j then (by rw [e]; exact hnt) else hI i (by omega)) ⟨⟨rfl, rfl, rfl, rfl, rfl, rfl, rfl, rfl, rfl, rfl, rfl, rfl, rfl, rfl, trivial⟩, ⟨.inl (congrArg (Ob.row 1 intSV) hsucc), rfl, trivial⟩, rfl, rfl⟩
  · have : j = n.irbs.length := by have := of_decide_eq_false h; omega
    subst this
    have hno : ¬ (List.range n.irbs.length).any (takenB n irb dst) = true := fun h => by
      obtain ⟨i, h1, h2⟩ := List.any_eq_true.1 h
      rw [hI i (by simpa using h1)] at h2
      cases h2
    rw [if_neg hno] at hlk
    have hin : ∀ y ∈ waysL n irb dst, InIrbs n y := fun y hy => by
      have := (filtI_mem (p := wayB n irb dst) (j := n.irbs.length)).1 hy
      exact ⟨this.1, by omega⟩
    have hwl := filtI_length (wayB n irb dst) n.irbs.length
    have hwe : filtI (wayB n irb dst) n.irbs.length = waysL n irb dst := rfl
    rw [hwe] at hwl ⊢
    have q : ∀ h0 : 0 < (waysL n irb dst).length, _ := fun h0 => maxFuncS (waysL n irb dst) (cmpR n irb) 162 [] [.ref 8 (netSV n) 0, .ref 1 (.clo (.func 160) [] [.ref 8 (netSV n) 0, .ref 1 (intSV irb) 0]) 0] rfl h0 (by unfold Short; omega) (fun y hy z hz => ⟨⟨_, _, F162⟩, lookCmpC n hb irb y z hk (hin y hy) (hin z hz)⟩)
    generalize waysL n irb dst = l at *
    refine G_data 1000 rfl ?_
    ((first|refine rG Γ hm ?_|refine rD Γ hm (by kernel_rfl) ?_);(conv=>whnf);repeat((first|refine aF ?_|refine aT ?_);(first|refine rG Γ hm ?_|refine rD Γ hm (by kernel_rfl) ?_);conv=>whnf))
    refine ⟨fun h3 => ?_, fun h3 => ?_⟩
    · have h4 : l = [] := by simpa using h3
      rw [if_pos h4] at hlk
      subst hlk
      ((first|refine rG Γ hm ?_|refine rD Γ hm (by kernel_rfl) ?_);(conv=>whnf);repeat((first|refine aF ?_|refine aT ?_);(first|refine rG Γ hm ?_|refine rD Γ hm (by kernel_rfl) ?_);conv=>whnf))
      exact done0 rfl (.cons .tmp (.cons .tmp .nil)) rfl rfl
    · have h4 : ¬ l = [] := by simpa using h3
      rw [if_neg h4] at hlk
      have q := q (List.length_pos_iff.2 h4)
      subst hlk
      ((first|refine rG Γ hm ?_|refine rD Γ hm (by kernel_rfl) ?_);(conv=>whnf);repeat((first|refine aF ?_|refine aT ?_);(first|refine rG Γ hm ?_|refine rD Γ hm (by kernel_rfl) ?_);conv=>whnf))
      refine G_box 11 1 (.clo (.func 160) [] [.ref 8 (netSV n) 0, .ref 1 (intSV irb) 0]) rfl rfl rfl ?_
      ((first|refine rG Γ hm ?_|refine rD Γ hm (by kernel_rfl) ?_);(conv=>whnf);repeat((first|refine aF ?_|refine aT ?_);(first|refine rG Γ hm ?_|refine rD Γ hm (by kernel_rfl) ?_);conv=>whnf))
      refine call0 q F161 rfl rfl rfl rfl rfl ?_
      ((first|refine rG Γ hm ?_|refine rD Γ hm (by kernel_rfl) ?_);(conv=>whnf);repeat((first|refine aF ?_|refine aT ?_);(first|refine rG Γ hm ?_|refine rD Γ hm (by kernel_rfl) ?_);conv=>whnf))
      exact done0 rfl (.cons .tmp (.cons .tmp .nil)) rfl rfl

theorem routeLookupS (n : Net) (hn : n.Fin) (hb : netRightB n = true) (irb dst : Int) (hk : InIrbs n irb) : Sy.Spec Tryz.prog 115 [netSV n, intSV irb, u32SV dst] [] (.tup [intSV (lookT n irb dst).1, boolSV (lookT n irb dst).2]) [] := contract Γ hm 100 F115 Tryz.ntmps115 rfl fun F hF => by
  have hr := namesRightS n hn
  rw [hb] at hr
  have q := lookupS n hn hb irb dst hk
  generalize lookT n irb dst = r at *
  ((conv=>whnf);repeat((first|refine aF ?_|refine aT ?_);(first|refine rG Γ hm ?_|refine rD Γ hm (by kernel_rfl) ?_);conv=>whnf))
  refine ⟨fun h => absurd (of_decide_eq_true h) (by omega), fun _ => ?_⟩
  ((first|refine rG Γ hm ?_|refine rD Γ hm (by kernel_rfl) ?_);(conv=>whnf);repeat((first|refine aF ?_|refine aT ?_);(first|refine rG Γ hm ?_|refine rD Γ hm (by kernel_rfl) ?_);conv=>whnf))
  refine ⟨fun h => absurd (of_decide_eq_true h) (by omega), fun _ => ?_⟩
  ((first|refine rG Γ hm ?_|refine rD Γ hm (by kernel_rfl) ?_);(conv=>whnf);repeat((first|refine aF ?_|refine aT ?_);(first|refine rG Γ hm ?_|refine rD Γ hm (by kernel_rfl) ?_);conv=>whnf))
  refine call0 hr F15 rfl rfl rfl rfl rfl ?_
  ((first|refine rG Γ hm ?_|refine rD Γ hm (by kernel_rfl) ?_);(conv=>whnf);repeat((first|refine aF ?_|refine aT ?_);(first|refine rG Γ hm ?_|refine rD Γ hm (by kernel_rfl) ?_);conv=>whnf))
  refine call0 q F138 rfl rfl rfl rfl rfl ?_
  ((first|refine rG Γ hm ?_|refine rD Γ hm (by kernel_rfl) ?_);(conv=>whnf);repeat((first|refine aF ?_|refine aT ?_);(first|refine rG Γ hm ?_|refine rD Γ hm (by kernel_rfl) ?_);conv=>whnf))
  exact done0 rfl (.cons .tmp (.cons .tmp .nil)) rfl rfl

end Go.Sy.YtlfopmhekhifoaaGreatDoor
