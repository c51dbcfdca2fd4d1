/-
  Machine: reports written. The symbolic layer, 33: an array that is held as a value is asked for a member. Bytes and truths read; which step a word names. Truths read; which step a word names; ports by their texts. Machine: a row read as a step, by the program.
-/
import Derived.Test.YtjomehmhkcnadaaGreatDoorB7
import Derived.Test.YtjomehmhkcnadaaGreatDoorB6
import Derived.Test.YtjomehmhkcnadaaGreatDoorB4

namespace Go.Sy.YtjomehmhkcnadaaGreatDoor
open Go.Proofs
-- SIMP: placeB

attribute [local irreducible] Go.Sy.G Go.Sy.DR
set_option maxRecDepth 100000
set_option maxHeartbeats 4000000

structure ReportM where
  kind : Int
  where_ : Int
  row : Int
  error : Int
  from_ : Int
  to : Int
  script : List StepM
def reportSV (r : ReportM) : SV := .agg [intSV r.kind, intSV r.where_, intSV r.row, intSV r.error, intSV r.from_, intSV r.to, .sl 6 stepSV r.script]

abbrev wNone : ByteArray := ⟨#[45]⟩
abbrev wIsolated : ByteArray := ⟨#[105, 115, 111, 108, 97, 116, 101, 100]⟩
abbrev wLeak : ByteArray := ⟨#[108, 101, 97, 107]⟩
abbrev wReject : ByteArray := ⟨#[114, 101, 106, 101, 99, 116]⟩

def reportWords (n : Net) (r : ReportM) : List ByteArray :=
  if r.kind = 1 then [wIsolated] else if r.kind = 2 then [wLeak, endT n r.from_, endT n r.to] else if r.kind = 3 then [wReject, placeT r.where_, numT r.row, numT r.error] else [wNone]
def reportT (n : Net) (r : ReportM) : List UInt8 :=
  (joinT (reportWords n r) ⟨#[32]⟩).data.toList ++ [10] ++ (if r.kind = 2 then (printT n r.script).1 else [])

theorem endT_size {n : Net} (hnm : Named n) (i : Int) : (endT n i).size ≤ 700 := by
  unfold endT
  split
  · rename_i h
    exact portText_size h.2 hnm (placeB_in h.1)
  · show 1 ≤ _; omega
theorem placeT_size (w : Int) : (placeT w).size ≤ 6 := by
  unfold placeT
  split
  · show 6 ≤ _; omega
  split
  · show 6 ≤ _; omega
  · show 1 ≤ _; omega

theorem printT_le {n : Net} (l : List StepM) : (printT n l).1.length ≤ 20000 := by
  unfold printT
  split
  · exact Nat.zero_le _
  split
  · exact Nat.zero_le _
  split
  · exact Nat.zero_le _
  · dsimp only; omega

theorem sizes4 (a b c d : ByteArray) : sizes [a, b, c, d] = a.size + (b.size + (c.size + (d.size + 0))) := rfl
theorem join1s (a : ByteArray) : joinT [a] ⟨#[32]⟩ = a := by
  apply ext_list
  simp [joinT, Lib.join]
theorem join4s (a b c d : ByteArray) : joinT [a, b, c, d] ⟨#[32]⟩ = a ++ ⟨#[32]⟩ ++ b ++ ⟨#[32]⟩ ++ c ++ ⟨#[32]⟩ ++ d := by
  apply ext_list
  simp [joinT, Lib.join]

theorem machineReportS (n : Net) (hn : n.Fin) (hnm : Named n) (r : ReportM) (hl : r.script.length ≤ 1000) (hs : ∀ x ∈ r.script, StepOK x) (hrow : Word64 r.row) (her : Word64 r.error) :
    Sy.Spec Tryz.prog 16 [netSV n, reportSV r] [verbsO 900] (.sl 1 byteSV (reportT n r)) [verbsO 900] := contract Γ hm 100 F16 Tryz.ntmps16 rfl fun F hF => by
  have hres := reportT.eq_1 n r
  have hwd := reportWords.eq_1 n r
  obtain ⟨kd, wh, row, er, fr, to, sc⟩ := r
  dsimp only at hl hs hrow her hres hwd
  generalize reportT n ⟨kd, wh, row, er, fr, to, sc⟩ = res at *
  generalize reportWords n ⟨kd, wh, row, er, fr, to, sc⟩ = wd at *
  have q1 := machineEndS n hn hnm fr
  have q2 := machineEndS n hn hnm to
  have z1 := endT_size hnm fr
  have z2 := endT_size hnm to
  have q3 := machinePrintS n hn hnm sc hl hs
  have z3 := printT_le (n := n) sc
  have q4 := machinePlaceS wh
  have z4 := placeT_size wh
  have q5 := numText2S row hrow
  have z5 := numT_size21 hrow
  have q6 := numText2S er her
  have z6 := numT_size21 her
  generalize endT n fr = te at *
  generalize endT n to = tt at *
  generalize placeT wh = tp at *
  generalize numT row = tr at *
  generalize numT er = tx at *
  generalize printT n sc = sp at *
  obtain ⟨sp, spe⟩ := sp
  dsimp only at q3 z3 hres
  have zz : sizes wd ≤ 2000 ∧ wd.length ≤ 4 := by
    rw [hwd]
    have c1 : wIsolated.size = 8 := rfl
    have c2 : wLeak.size = 4 := rfl
    have c3 : wReject.size = 6 := rfl
    have c4 : wNone.size = 1 := rfl
    split
    · exact ⟨by show 8 + 0 ≤ _; omega, by decide⟩
    split
    · exact ⟨by rw [sizes3]; omega, by simp⟩
    split
    · exact ⟨by rw [sizes4]; omega, by simp⟩
    · exact ⟨by show 1 + 0 ≤ _; omega, by decide⟩
  have qj := lineJoinS wd (by omega) (by omega)
  have zj := joinT_size wd ⟨#[32]⟩
  have c1 : (⟨#[32]⟩ : ByteArray).size = 1 := rfl
  rw [c1, Nat.one_mul] at zj
  generalize joinT wd ⟨#[32]⟩ = tj at *
  have e1 : tj.data.toList.length = tj.size := rfl
  ((conv=>whnf);repeat((first|refine aF ?_|refine aT ?_);(first|refine rG Γ hm ?_|refine rD Γ hm (by kernel_rfl) ?_);conv=>whnf))
  refine ⟨fun h => ?_, fun h => ?_⟩
  · obtain rfl : kd = 1 := by simpa using h
    rw [if_pos rfl] at hwd
    rw [if_neg (by decide), List.append_nil] at hres
    ((first|refine rG Γ hm ?_|refine rD Γ hm (by kernel_rfl) ?_);(conv=>whnf);repeat((first|refine aF ?_|refine aT ?_);(first|refine rG Γ hm ?_|refine rD Γ hm (by kernel_rfl) ?_);conv=>whnf))
    refine callK [12] qj F27 rfl (.cons (.lit rfl (by rw [hwd]; rfl) rfl) .nil) rfl rfl rfl ?_
    ((first|refine rG Γ hm ?_|refine rD Γ hm (by kernel_rfl) ?_);(conv=>whnf);repeat((first|refine aF ?_|refine aT ?_);(first|refine rG Γ hm ?_|refine rD Γ hm (by kernel_rfl) ?_);conv=>whnf))
    refine stepOp (good_string_bytes (d := 45) Γ.toTy rfl rfl rfl rfl rfl rfl rfl rfl rfl) rfl rfl ?_
    ((first|refine rG Γ hm ?_|refine rD Γ hm (by kernel_rfl) ?_);(conv=>whnf);repeat((first|refine aF ?_|refine aT ?_);(first|refine rG Γ hm ?_|refine rD Γ hm (by kernel_rfl) ?_);conv=>whnf))
    refine stepOp (good_appendT Γ.toTy 47 rfl rfl rfl rfl rfl (.row rfl) (.lit (e := byteSV) (l := [10]) rfl rfl) (by simp) (by simp; omega) (by simp; omega)) rfl rfl ?_
    ((first|refine rG Γ hm ?_|refine rD Γ hm (by kernel_rfl) ?_);(conv=>whnf);repeat((first|refine aF ?_|refine aT ?_);(first|refine rG Γ hm ?_|refine rD Γ hm (by kernel_rfl) ?_);conv=>whnf))
    refine stepOp (good_appendT Γ.toTy 49 rfl rfl rfl rfl rfl (.row rfl) (.nil (e := byteSV)) (by simp) (by simp; omega) (by simp; omega)) rfl rfl ?_
    rw [List.append_nil]
    refine G_data 49 rfl ?_
    subst hres
    ((first|refine rG Γ hm ?_|refine rD Γ hm (by kernel_rfl) ?_);(conv=>whnf);repeat((first|refine aF ?_|refine aT ?_);(first|refine rG Γ hm ?_|refine rD Γ hm (by kernel_rfl) ?_);conv=>whnf))
    exact done rfl (.cons .tmp .nil) [] [verbsO 900] (fun _ h => h) rfl rfl ⟨trivial, ⟨.inl rfl, rfl, trivial⟩, rfl, rfl⟩
  rw [if_neg (by simpa using h)] at hwd
  ((first|refine rG Γ hm ?_|refine rD Γ hm (by kernel_rfl) ?_);(conv=>whnf);repeat((first|refine aF ?_|refine aT ?_);(first|refine rG Γ hm ?_|refine rD Γ hm (by kernel_rfl) ?_);conv=>whnf))
  refine ⟨fun h => ?_, fun h => ?_⟩
  · obtain rfl : kd = 2 := by simpa using h
    rw [if_pos rfl] at hwd hres
    ((first|refine rG Γ hm ?_|refine rD Γ hm (by kernel_rfl) ?_);(conv=>whnf);repeat((first|refine aF ?_|refine aT ?_);(first|refine rG Γ hm ?_|refine rD Γ hm (by kernel_rfl) ?_);conv=>whnf))
    refine callD0 q1 F35 rfl rfl rfl (by kernel_rfl) rfl ?_
    ((first|refine rG Γ hm ?_|refine rD Γ hm (by kernel_rfl) ?_);(conv=>whnf);repeat((first|refine aF ?_|refine aT ?_);(first|refine rG Γ hm ?_|refine rD Γ hm (by kernel_rfl) ?_);conv=>whnf))
    refine callD0 q2 F35 rfl rfl rfl (by kernel_rfl) rfl ?_
    ((first|refine rG Γ hm ?_|refine rD Γ hm (by kernel_rfl) ?_);(conv=>whnf);repeat((first|refine aF ?_|refine aT ?_);(first|refine rG Γ hm ?_|refine rD Γ hm (by kernel_rfl) ?_);conv=>whnf))
    refine ⟨(by kernel_rfl), ?_⟩
    ((conv=>whnf);repeat((first|refine aF ?_|refine aT ?_);(first|refine rG Γ hm ?_|refine rD Γ hm (by kernel_rfl) ?_);conv=>whnf))
    refine stepOp (good_call [(900, 900)] rfl F9 q3 rfl ⟨rfl, trivial⟩ rfl ⟨.inl rfl, trivial⟩) rfl rfl ?_
    ((first|refine rG Γ hm ?_|refine rD Γ hm (by kernel_rfl) ?_);(conv=>whnf);repeat((first|refine aF ?_|refine aT ?_);(first|refine rG Γ hm ?_|refine rD Γ hm (by kernel_rfl) ?_);conv=>whnf))
    refine callK [23] qj F27 rfl (.cons (.lit rfl (by rw [hwd]; rfl) rfl) .nil) rfl rfl rfl ?_
    ((first|refine rG Γ hm ?_|refine rD Γ hm (by kernel_rfl) ?_);(conv=>whnf);repeat((first|refine aF ?_|refine aT ?_);(first|refine rG Γ hm ?_|refine rD Γ hm (by kernel_rfl) ?_);conv=>whnf))
    refine stepOp (good_string_bytes (d := 45) Γ.toTy rfl rfl rfl rfl rfl rfl rfl rfl rfl) rfl rfl ?_
    ((first|refine rG Γ hm ?_|refine rD Γ hm (by kernel_rfl) ?_);(conv=>whnf);repeat((first|refine aF ?_|refine aT ?_);(first|refine rG Γ hm ?_|refine rD Γ hm (by kernel_rfl) ?_);conv=>whnf))
    refine stepOp (good_appendT Γ.toTy 47 rfl rfl rfl rfl rfl (.row rfl) (.lit (e := byteSV) (l := [10]) rfl rfl) (by simp) (by simp; omega) (by simp; omega)) rfl rfl ?_
    ((first|refine rG Γ hm ?_|refine rD Γ hm (by kernel_rfl) ?_);(conv=>whnf);repeat((first|refine aF ?_|refine aT ?_);(first|refine rG Γ hm ?_|refine rD Γ hm (by kernel_rfl) ?_);conv=>whnf))
    refine stepOp (good_appendT Γ.toTy 49 rfl rfl rfl rfl rfl (.row rfl) (.sl (e := byteSV)) (by simp) (by simp; omega) (by simp; omega)) rfl rfl ?_
    refine G_data 49 rfl ?_
    subst hres
    ((first|refine rG Γ hm ?_|refine rD Γ hm (by kernel_rfl) ?_);(conv=>whnf);repeat((first|refine aF ?_|refine aT ?_);(first|refine rG Γ hm ?_|refine rD Γ hm (by kernel_rfl) ?_);conv=>whnf))
    exact done rfl (.cons .tmp .nil) [] [verbsO 900] (fun _ h => h) rfl rfl ⟨trivial, ⟨.inl rfl, rfl, trivial⟩, rfl, rfl⟩
  have h2 : kd ≠ 2 := by simpa using h
  rw [if_neg h2] at hwd hres
  rw [List.append_nil] at hres
  ((first|refine rG Γ hm ?_|refine rD Γ hm (by kernel_rfl) ?_);(conv=>whnf);repeat((first|refine aF ?_|refine aT ?_);(first|refine rG Γ hm ?_|refine rD Γ hm (by kernel_rfl) ?_);conv=>whnf))
  refine ⟨fun h => ?_, fun h => ?_⟩
  · obtain rfl : kd = 3 := by simpa using h
    rw [if_pos rfl] at hwd
    ((first|refine rG Γ hm ?_|refine rD Γ hm (by kernel_rfl) ?_);(conv=>whnf);repeat((first|refine aF ?_|refine aT ?_);(first|refine rG Γ hm ?_|refine rD Γ hm (by kernel_rfl) ?_);conv=>whnf))
    refine callD0 q4 F36 rfl rfl rfl (by kernel_rfl) rfl ?_
    ((first|refine rG Γ hm ?_|refine rD Γ hm (by kernel_rfl) ?_);(conv=>whnf);repeat((first|refine aF ?_|refine aT ?_);(first|refine rG Γ hm ?_|refine rD Γ hm (by kernel_rfl) ?_);conv=>whnf))
    refine callD0 q5 F29 rfl rfl rfl (by kernel_rfl) rfl ?_
    ((first|refine rG Γ hm ?_|refine rD Γ hm (by kernel_rfl) ?_);(conv=>whnf);repeat((first|refine aF ?_|refine aT ?_);(first|refine rG Γ hm ?_|refine rD Γ hm (by kernel_rfl) ?_);conv=>whnf))
    refine callD0 q6 F29 rfl rfl rfl (by kernel_rfl) rfl ?_
    ((first|refine rG Γ hm ?_|refine rD Γ hm (by kernel_rfl) ?_);(conv=>whnf);repeat((first|refine aF ?_|refine aT ?_);(first|refine rG Γ hm ?_|refine rD Γ hm (by kernel_rfl) ?_);conv=>whnf))
    refine ⟨(by kernel_rfl), ?_⟩
    ((conv=>whnf);repeat((first|refine aF ?_|refine aT ?_);(first|refine rG Γ hm ?_|refine rD Γ hm (by kernel_rfl) ?_);conv=>whnf))
    refine callK [42] qj F27 rfl (.cons (.lit rfl (by rw [hwd]; rfl) rfl) .nil) rfl rfl rfl ?_
    ((first|refine rG Γ hm ?_|refine rD Γ hm (by kernel_rfl) ?_);(conv=>whnf);repeat((first|refine aF ?_|refine aT ?_);(first|refine rG Γ hm ?_|refine rD Γ hm (by kernel_rfl) ?_);conv=>whnf))
    refine stepOp (good_string_bytes (d := 45) Γ.toTy rfl rfl rfl rfl rfl rfl rfl rfl rfl) rfl rfl ?_
    ((first|refine rG Γ hm ?_|refine rD Γ hm (by kernel_rfl) ?_);(conv=>whnf);repeat((first|refine aF ?_|refine aT ?_);(first|refine rG Γ hm ?_|refine rD Γ hm (by kernel_rfl) ?_);conv=>whnf))
    refine stepOp (good_appendT Γ.toTy 47 rfl rfl rfl rfl rfl (.row rfl) (.lit (e := byteSV) (l := [10]) rfl rfl) (by simp) (by simp; omega) (by simp; omega)) rfl rfl ?_
    ((first|refine rG Γ hm ?_|refine rD Γ hm (by kernel_rfl) ?_);(conv=>whnf);repeat((first|refine aF ?_|refine aT ?_);(first|refine rG Γ hm ?_|refine rD Γ hm (by kernel_rfl) ?_);conv=>whnf))
    refine stepOp (good_appendT Γ.toTy 49 rfl rfl rfl rfl rfl (.row rfl) (.nil (e := byteSV)) (by simp) (by simp; omega) (by simp; omega)) rfl rfl ?_
    rw [List.append_nil]
    refine G_data 49 rfl ?_
    subst hres
    ((first|refine rG Γ hm ?_|refine rD Γ hm (by kernel_rfl) ?_);(conv=>whnf);repeat((first|refine aF ?_|refine aT ?_);(first|refine rG Γ hm ?_|refine rD Γ hm (by kernel_rfl) ?_);conv=>whnf))
    exact done rfl (.cons .tmp .nil) [] [verbsO 900] (fun _ h => h) rfl rfl ⟨trivial, ⟨.inl rfl, rfl, trivial⟩, rfl, rfl⟩
  rw [if_neg (by simpa using h)] at hwd
  ((first|refine rG Γ hm ?_|refine rD Γ hm (by kernel_rfl) ?_);(conv=>whnf);repeat((first|refine aF ?_|refine aT ?_);(first|refine rG Γ hm ?_|refine rD Γ hm (by kernel_rfl) ?_);conv=>whnf))
  refine callK [7] qj F27 rfl (.cons (.lit rfl (by rw [hwd]; rfl) rfl) .nil) rfl rfl rfl ?_
  ((first|refine rG Γ hm ?_|refine rD Γ hm (by kernel_rfl) ?_);(conv=>whnf);repeat((first|refine aF ?_|refine aT ?_);(first|refine rG Γ hm ?_|refine rD Γ hm (by kernel_rfl) ?_);conv=>whnf))
  refine stepOp (good_string_bytes (d := 45) Γ.toTy rfl rfl rfl rfl rfl rfl rfl rfl rfl) rfl rfl ?_
  ((first|refine rG Γ hm ?_|refine rD Γ hm (by kernel_rfl) ?_);(conv=>whnf);repeat((first|refine aF ?_|refine aT ?_);(first|refine rG Γ hm ?_|refine rD Γ hm (by kernel_rfl) ?_);conv=>whnf))
  refine stepOp (good_appendT Γ.toTy 47 rfl rfl rfl rfl rfl (.row rfl) (.lit (e := byteSV) (l := [10]) rfl rfl) (by simp) (by simp; omega) (by simp; omega)) rfl rfl ?_
  ((first|refine rG Γ hm ?_|refine rD Γ hm (by kernel_rfl) ?_);(conv=>whnf);repeat((first|refine aF ?_|refine aT ?_);(first|refine rG Γ hm ?_|refine rD Γ hm (by kernel_rfl) ?_);conv=>whnf))
  refine stepOp (good_appendT Γ.toTy 49 rfl rfl rfl rfl rfl (.row rfl) (.nil (e := byteSV)) (by simp) (by simp; omega) (by simp; omega)) rfl rfl ?_
  rw [List.append_nil]
  refine G_data 49 rfl ?_
  subst hres
  ((first|refine rG Γ hm ?_|refine rD Γ hm (by kernel_rfl) ?_);(conv=>whnf);repeat((first|refine aF ?_|refine aT ?_);(first|refine rG Γ hm ?_|refine rD Γ hm (by kernel_rfl) ?_);conv=>whnf))
  exact done rfl (.cons .tmp .nil) [] [verbsO 900] (fun _ h => h) rfl rfl ⟨trivial, ⟨.inl rfl, rfl, trivial⟩, rfl, rfl⟩

theorem ref39ReportS (n : Net) (hn : n.Fin) (hnm : Named n) (r : ReportM) (hl : r.script.length ≤ 1000) (hs : ∀ x ∈ r.script, StepOK x) (hrow : Word64 r.row) (her : Word64 r.error) :
    Sy.Spec Tryz.prog 17 [netSV n, reportSV r] [] (strSV (mkT (reportT n r))) [] := contract Γ hm 100 F17 Tryz.ntmps17 rfl fun F hF => by
  have hres := reportT.eq_1 n r
  have hwd := reportWords.eq_1 n r
  obtain ⟨kd, wh, row, er, fr, to, sc⟩ := r
  dsimp only at hl hs hrow her hres hwd
  generalize reportT n ⟨kd, wh, row, er, fr, to, sc⟩ = res at *
  generalize reportWords n ⟨kd, wh, row, er, fr, to, sc⟩ = wd at *
  have q1 := ref39EndS n hn hnm fr
  have q2 := ref39EndS n hn hnm to
  have z1 := endT_size hnm fr
  have z2 := endT_size hnm to
  have q3 := ref39PrintS n hn hnm sc hl hs
  have z3 := printT_le (n := n) sc
  have z4 := placeT_size wh
  have q5 := refNumText2S row hrow
  have z5 := numT_size21 hrow
  have q6 := refNumText2S er her
  have z6 := numT_size21 her
  have hpl := placeT.eq_1 wh
  generalize endT n fr = te at *
  generalize endT n to = tt at *
  generalize placeT wh = tp at *
  generalize numT row = tr at *
  generalize numT er = tx at *
  generalize printT n sc = sp at *
  obtain ⟨sp, spe⟩ := sp
  dsimp only at q3 z3 hres
  have zs := mkT_size sp
  have c32 : (⟨#[32]⟩ : ByteArray).size = 1 := rfl
  have c10 : (⟨#[10]⟩ : ByteArray).size = 1 := rfl
  have e10 : mkT [10] = ⟨#[10]⟩ := rfl
  have l1 : wLeak.size = 4 := rfl
  have l2 : wReject.size = 6 := rfl
  have hres := congrArg mkT hres
  rw [← mkT_append, ← mkT_append, mkT_bytes, e10] at hres
  obtain ⟨r2, hr2⟩ : ∃ r2, mkT res = r2 := ⟨_, rfl⟩
  obtain ⟨ss, hss⟩ : ∃ ss, mkT sp = ss := ⟨_, rfl⟩
  have e0 : ∀ u : ByteArray, u ++ ⟨#[]⟩ = u := fun u => by apply ext_list; simp
  have hres2 : r2 = joinT wd ⟨#[32]⟩ ++ ⟨#[10]⟩ ++ (if kd = 2 then ss else ⟨#[]⟩) := by
    rw [← hr2, hres]
    split
    · rw [hss]
    · rfl
  rw [hss] at q3 zs
  rw [hr2]
  clear hres hr2 hss
  ((conv=>whnf);repeat((first|refine aF ?_|refine aT ?_);(first|refine rG Γ hm ?_|refine rD Γ hm (by kernel_rfl) ?_);conv=>whnf))
  by_cases h1 : kd = 1
  · subst h1
    rw [if_pos rfl] at hwd
    subst hwd
    rw [if_neg (by decide), join1s, e0] at hres2
    subst hres2
    (repeat (first | (refine ⟨fun h => False.elim (by first | (exact absurd h (by decide)) | (simp at h; done) | (simp at h; omega)), fun _ => ?_⟩; ((first|refine rG Γ hm ?_|refine rD Γ hm (by kernel_rfl) ?_);(conv=>whnf);repeat((first|refine aF ?_|refine aT ?_);(first|refine rG Γ hm ?_|refine rD Γ hm (by kernel_rfl) ?_);conv=>whnf))) | (refine ⟨fun _ => ?_, fun h => False.elim (by first | (exact absurd h (by decide)) | (simp at h; done) | (simp at h; omega))⟩; ((first|refine rG Γ hm ?_|refine rD Γ hm (by kernel_rfl) ?_);(conv=>whnf);repeat((first|refine aF ?_|refine aT ?_);(first|refine rG Γ hm ?_|refine rD Γ hm (by kernel_rfl) ?_);conv=>whnf)))))
    exact done0 rfl (.cons .tmp .nil) rfl rfl
  rw [if_neg h1] at hwd
  (refine ⟨fun h => False.elim (by first | (exact absurd h (by decide)) | (simp at h; done) | (simp at h; omega)), fun _ => ?_⟩; ((first|refine rG Γ hm ?_|refine rD Γ hm (by kernel_rfl) ?_);(conv=>whnf);repeat((first|refine aF ?_|refine aT ?_);(first|refine rG Γ hm ?_|refine rD Γ hm (by kernel_rfl) ?_);conv=>whnf)))
  by_cases h2 : kd = 2
  · subst h2
    rw [if_pos rfl] at hwd hres2
    subst hwd
    rw [join3s] at hres2
    have y0 := size_app wLeak ⟨#[32]⟩
    have y1 := size_app (wLeak ++ ⟨#[32]⟩) te
    have y2 := size_app (wLeak ++ ⟨#[32]⟩ ++ te) ⟨#[32]⟩
    have y3 := size_app (wLeak ++ ⟨#[32]⟩ ++ te ++ ⟨#[32]⟩) tt
    have y4 := size_app (wLeak ++ ⟨#[32]⟩ ++ te ++ ⟨#[32]⟩ ++ tt) ⟨#[10]⟩
    subst hres2
    (refine ⟨fun _ => ?_, fun h => False.elim (by first | (exact absurd h (by decide)) | (simp at h; done) | (simp at h; omega))⟩; ((first|refine rG Γ hm ?_|refine rD Γ hm (by kernel_rfl) ?_);(conv=>whnf);repeat((first|refine aF ?_|refine aT ?_);(first|refine rG Γ hm ?_|refine rD Γ hm (by kernel_rfl) ?_);conv=>whnf)))
    refine call0 q3 F10 rfl rfl rfl rfl rfl ?_
    ((first|refine rG Γ hm ?_|refine rD Γ hm (by kernel_rfl) ?_);(conv=>whnf);repeat((first|refine aF ?_|refine aT ?_);(first|refine rG Γ hm ?_|refine rD Γ hm (by kernel_rfl) ?_);conv=>whnf))
    refine callD0 q1 F37 rfl rfl rfl (by kernel_rfl) rfl ?_
    ((first|refine rG Γ hm ?_|refine rD Γ hm (by kernel_rfl) ?_);(conv=>whnf);repeat((first|refine aF ?_|refine aT ?_);(first|refine rG Γ hm ?_|refine rD Γ hm (by kernel_rfl) ?_);conv=>whnf))
    refine ⟨by show (wLeak ++ ⟨#[32]⟩ : ByteArray).size + _ ≤ _; omega, ?_⟩
    ((conv=>whnf);repeat((first|refine aF ?_|refine aT ?_);(first|refine rG Γ hm ?_|refine rD Γ hm (by kernel_rfl) ?_);conv=>whnf))
    refine ⟨by show (wLeak ++ ⟨#[32]⟩ ++ te : ByteArray).size + 1 ≤ _; omega, ?_⟩
    ((conv=>whnf);repeat((first|refine aF ?_|refine aT ?_);(first|refine rG Γ hm ?_|refine rD Γ hm (by kernel_rfl) ?_);conv=>whnf))
    refine callD0 q2 F37 rfl rfl rfl (by kernel_rfl) rfl ?_
    ((first|refine rG Γ hm ?_|refine rD Γ hm (by kernel_rfl) ?_);(conv=>whnf);repeat((first|refine aF ?_|refine aT ?_);(first|refine rG Γ hm ?_|refine rD Γ hm (by kernel_rfl) ?_);conv=>whnf))
    refine ⟨by show (wLeak ++ ⟨#[32]⟩ ++ te ++ ⟨#[32]⟩ : ByteArray).size + _ ≤ _; omega, ?_⟩
    ((conv=>whnf);repeat((first|refine aF ?_|refine aT ?_);(first|refine rG Γ hm ?_|refine rD Γ hm (by kernel_rfl) ?_);conv=>whnf))
    refine ⟨by show (wLeak ++ ⟨#[32]⟩ ++ te ++ ⟨#[32]⟩ ++ tt : ByteArray).size + 1 ≤ _; omega, ?_⟩
    ((conv=>whnf);repeat((first|refine aF ?_|refine aT ?_);(first|refine rG Γ hm ?_|refine rD Γ hm (by kernel_rfl) ?_);conv=>whnf))
    refine ⟨by show (wLeak ++ ⟨#[32]⟩ ++ te ++ ⟨#[32]⟩ ++ tt ++ ⟨#[10]⟩ : ByteArray).size + _ ≤ _; omega, ?_⟩
    ((conv=>whnf);repeat((first|refine aF ?_|refine aT ?_);(first|refine rG Γ hm ?_|refine rD Γ hm (by kernel_rfl) ?_);conv=>whnf))
    refine ⟨(by kernel_rfl), ?_⟩
    ((conv=>whnf);repeat((first|refine aF ?_|refine aT ?_);(first|refine rG Γ hm ?_|refine rD Γ hm (by kernel_rfl) ?_);conv=>whnf))
    exact done0 rfl (.cons .tmp .nil) rfl rfl
  rw [if_neg h2] at hwd hres2
  rw [e0] at hres2
  (refine ⟨fun h => False.elim (by first | (exact absurd h (by decide)) | (simp at h; done) | (simp at h; omega)), fun _ => ?_⟩; ((first|refine rG Γ hm ?_|refine rD Γ hm (by kernel_rfl) ?_);(conv=>whnf);repeat((first|refine aF ?_|refine aT ?_);(first|refine rG Γ hm ?_|refine rD Γ hm (by kernel_rfl) ?_);conv=>whnf)))
  by_cases h3 : kd = 3
  rotate_left
  · rw [if_neg h3] at hwd
    subst hwd
    rw [join1s] at hres2
    subst hres2
    refine ⟨fun _ => ?_, fun h => absurd (show (kd != 3) = true by simpa using h3) (by rw [show (kd != 3) = false from h]; simp)⟩
    ((first|refine rG Γ hm ?_|refine rD Γ hm (by kernel_rfl) ?_);(conv=>whnf);repeat((first|refine aF ?_|refine aT ?_);(first|refine rG Γ hm ?_|refine rD Γ hm (by kernel_rfl) ?_);conv=>whnf))
    exact done0 rfl (.cons .tmp .nil) rfl rfl
  subst h3
  rw [if_pos rfl] at hwd
  subst hwd
  rw [join4s] at hres2
  have y0 := size_app wReject ⟨#[32]⟩
  have y1 := size_app (wReject ++ ⟨#[32]⟩) tp
  have y2 := size_app (wReject ++ ⟨#[32]⟩ ++ tp) ⟨#[32]⟩
  have y3 := size_app (wReject ++ ⟨#[32]⟩ ++ tp ++ ⟨#[32]⟩) tr
  have y4 := size_app (wReject ++ ⟨#[32]⟩ ++ tp ++ ⟨#[32]⟩ ++ tr) ⟨#[32]⟩
  have y5 := size_app (wReject ++ ⟨#[32]⟩ ++ tp ++ ⟨#[32]⟩ ++ tr ++ ⟨#[32]⟩) tx
  (refine ⟨fun h => False.elim (by first | (exact absurd h (by decide)) | (simp at h; done) | (simp at h; omega)), fun _ => ?_⟩; ((first|refine rG Γ hm ?_|refine rD Γ hm (by kernel_rfl) ?_);(conv=>whnf);repeat((first|refine aF ?_|refine aT ?_);(first|refine rG Γ hm ?_|refine rD Γ hm (by kernel_rfl) ?_);conv=>whnf)))
  have tail : ∀ g : Prop, g → g := fun _ h => h
  by_cases w1 : wh = 1
  · subst w1
    rw [if_pos rfl] at hpl
    subst hpl
    subst hres2
    (repeat (first | (refine ⟨fun h => False.elim (by first | (exact absurd h (by decide)) | (simp at h; done) | (simp at h; omega)), fun _ => ?_⟩; ((first|refine rG Γ hm ?_|refine rD Γ hm (by kernel_rfl) ?_);(conv=>whnf);repeat((first|refine aF ?_|refine aT ?_);(first|refine rG Γ hm ?_|refine rD Γ hm (by kernel_rfl) ?_);conv=>whnf))) | (refine ⟨fun _ => ?_, fun h => False.elim (by first | (exact absurd h (by decide)) | (simp at h; done) | (simp at h; omega))⟩; ((first|refine rG Γ hm ?_|refine rD Γ hm (by kernel_rfl) ?_);(conv=>whnf);repeat((first|refine aF ?_|refine aT ?_);(first|refine rG Γ hm ?_|refine rD Γ hm (by kernel_rfl) ?_);conv=>whnf)))))
    refine ⟨by show 7 + 6 ≤ _; omega, ?_⟩
    ((conv=>whnf);repeat((first|refine aF ?_|refine aT ?_);(first|refine rG Γ hm ?_|refine rD Γ hm (by kernel_rfl) ?_);conv=>whnf))
    refine ⟨by show 13 + 1 ≤ _; omega, ?_⟩
    ((conv=>whnf);repeat((first|refine aF ?_|refine aT ?_);(first|refine rG Γ hm ?_|refine rD Γ hm (by kernel_rfl) ?_);conv=>whnf))
    refine callD0 q5 F33 rfl rfl rfl (by kernel_rfl) rfl ?_
    ((first|refine rG Γ hm ?_|refine rD Γ hm (by kernel_rfl) ?_);(conv=>whnf);repeat((first|refine aF ?_|refine aT ?_);(first|refine rG Γ hm ?_|refine rD Γ hm (by kernel_rfl) ?_);conv=>whnf))
    refine ⟨by show 14 + _ ≤ _; omega, ?_⟩
    ((conv=>whnf);repeat((first|refine aF ?_|refine aT ?_);(first|refine rG Γ hm ?_|refine rD Γ hm (by kernel_rfl) ?_);conv=>whnf))
    refine ⟨by show (_ ++ tr : ByteArray).size + 1 ≤ _; rw [size_app]; show 14 + _ + _ ≤ _; omega, ?_⟩
    ((conv=>whnf);repeat((first|refine aF ?_|refine aT ?_);(first|refine rG Γ hm ?_|refine rD Γ hm (by kernel_rfl) ?_);conv=>whnf))
    refine callD0 q6 F33 rfl rfl rfl (by kernel_rfl) rfl ?_
    ((first|refine rG Γ hm ?_|refine rD Γ hm (by kernel_rfl) ?_);(conv=>whnf);repeat((first|refine aF ?_|refine aT ?_);(first|refine rG Γ hm ?_|refine rD Γ hm (by kernel_rfl) ?_);conv=>whnf))
    refine ⟨by show (_ ++ tr ++ _ : ByteArray).size + _ ≤ _; rw [size_app, size_app]; show 14 + _ + 1 + _ ≤ _; omega, ?_⟩
    ((conv=>whnf);repeat((first|refine aF ?_|refine aT ?_);(first|refine rG Γ hm ?_|refine rD Γ hm (by kernel_rfl) ?_);conv=>whnf))
    refine ⟨by show (_ ++ tr ++ _ ++ tx : ByteArray).size + _ ≤ _; rw [size_app, size_app, size_app]; show 14 + _ + 1 + _ + 1 ≤ _; omega, ?_⟩
    ((conv=>whnf);repeat((first|refine aF ?_|refine aT ?_);(first|refine rG Γ hm ?_|refine rD Γ hm (by kernel_rfl) ?_);conv=>whnf))
    refine ⟨(by kernel_rfl), ?_⟩
    ((conv=>whnf);repeat((first|refine aF ?_|refine aT ?_);(first|refine rG Γ hm ?_|refine rD Γ hm (by kernel_rfl) ?_);conv=>whnf))
    exact done0 rfl (.cons .tmp .nil) rfl rfl
  rw [if_neg w1] at hpl
  (refine ⟨fun h => False.elim (by first | (exact absurd h (by decide)) | (simp at h; done) | (simp at h; omega)), fun _ => ?_⟩; ((first|refine rG Γ hm ?_|refine rD Γ hm (by kernel_rfl) ?_);(conv=>whnf);repeat((first|refine aF ?_|refine aT ?_);(first|refine rG Γ hm ?_|refine rD Γ hm (by kernel_rfl) ?_);conv=>whnf)))
  by_cases w2 : wh = 2
  · subst w2
    rw [if_pos rfl] at hpl
    subst hpl
    subst hres2
    (repeat (first | (refine ⟨fun h => False.elim (by first | (exact absurd h (by decide)) | (simp at h; done) | (simp at h; omega)), fun _ => ?_⟩; ((first|refine rG Γ hm ?_|refine rD Γ hm (by kernel_rfl) ?_);(conv=>whnf);repeat((first|refine aF ?_|refine aT ?_);(first|refine rG Γ hm ?_|refine rD Γ hm (by kernel_rfl) ?_);conv=>whnf))) | (refine ⟨fun _ => ?_, fun h => False.elim (by first | (exact absurd h (by decide)) | (simp at h; done) | (simp at h; omega))⟩; ((first|refine rG Γ hm ?_|refine rD Γ hm (by kernel_rfl) ?_);(conv=>whnf);repeat((first|refine aF ?_|refine aT ?_);(first|refine rG Γ hm ?_|refine rD Γ hm (by kernel_rfl) ?_);conv=>whnf)))))
    refine ⟨by show 7 + 6 ≤ _; omega, ?_⟩
    ((conv=>whnf);repeat((first|refine aF ?_|refine aT ?_);(first|refine rG Γ hm ?_|refine rD Γ hm (by kernel_rfl) ?_);conv=>whnf))
    refine ⟨by show 13 + 1 ≤ _; omega, ?_⟩
    ((conv=>whnf);repeat((first|refine aF ?_|refine aT ?_);(first|refine rG Γ hm ?_|refine rD Γ hm (by kernel_rfl) ?_);conv=>whnf))
    refine callD0 q5 F33 rfl rfl rfl (by kernel_rfl) rfl ?_
    ((first|refine rG Γ hm ?_|refine rD Γ hm (by kernel_rfl) ?_);(conv=>whnf);repeat((first|refine aF ?_|refine aT ?_);(first|refine rG Γ hm ?_|refine rD Γ hm (by kernel_rfl) ?_);conv=>whnf))
    refine ⟨by show 14 + _ ≤ _; omega, ?_⟩
    ((conv=>whnf);repeat((first|refine aF ?_|refine aT ?_);(first|refine rG Γ hm ?_|refine rD Γ hm (by kernel_rfl) ?_);conv=>whnf))
    refine ⟨by show (_ ++ tr : ByteArray).size + 1 ≤ _; rw [size_app]; show 14 + _ + _ ≤ _; omega, ?_⟩
    ((conv=>whnf);repeat((first|refine aF ?_|refine aT ?_);(first|refine rG Γ hm ?_|refine rD Γ hm (by kernel_rfl) ?_);conv=>whnf))
    refine callD0 q6 F33 rfl rfl rfl (by kernel_rfl) rfl ?_
    ((first|refine rG Γ hm ?_|refine rD Γ hm (by kernel_rfl) ?_);(conv=>whnf);repeat((first|refine aF ?_|refine aT ?_);(first|refine rG Γ hm ?_|refine rD Γ hm (by kernel_rfl) ?_);conv=>whnf))
    refine ⟨by show (_ ++ tr ++ _ : ByteArray).size + _ ≤ _; rw [size_app, size_app]; show 14 + _ + 1 + _ ≤ _; omega, ?_⟩
    ((conv=>whnf);repeat((first|refine aF ?_|refine aT ?_);(first|refine rG Γ hm ?_|refine rD Γ hm (by kernel_rfl) ?_);conv=>whnf))
    refine ⟨by show (_ ++ tr ++ _ ++ tx : ByteArray).size + _ ≤ _; rw [size_app, size_app, size_app]; show 14 + _ + 1 + _ + 1 ≤ _; omega, ?_⟩
    ((conv=>whnf);repeat((first|refine aF ?_|refine aT ?_);(first|refine rG Γ hm ?_|refine rD Γ hm (by kernel_rfl) ?_);conv=>whnf))
    refine ⟨(by kernel_rfl), ?_⟩
    ((conv=>whnf);repeat((first|refine aF ?_|refine aT ?_);(first|refine rG Γ hm ?_|refine rD Γ hm (by kernel_rfl) ?_);conv=>whnf))
    exact done0 rfl (.cons .tmp .nil) rfl rfl
  rw [if_neg w2] at hpl
  subst hpl
  subst hres2
  (repeat (first | (refine ⟨fun h => False.elim (by first | (exact absurd h (by decide)) | (simp at h; done) | (simp at h; omega)), fun _ => ?_⟩; ((first|refine rG Γ hm ?_|refine rD Γ hm (by kernel_rfl) ?_);(conv=>whnf);repeat((first|refine aF ?_|refine aT ?_);(first|refine rG Γ hm ?_|refine rD Γ hm (by kernel_rfl) ?_);conv=>whnf))) | (refine ⟨fun _ => ?_, fun h => False.elim (by first | (exact absurd h (by decide)) | (simp at h; done) | (simp at h; omega))⟩; ((first|refine rG Γ hm ?_|refine rD Γ hm (by kernel_rfl) ?_);(conv=>whnf);repeat((first|refine aF ?_|refine aT ?_);(first|refine rG Γ hm ?_|refine rD Γ hm (by kernel_rfl) ?_);conv=>whnf)))))
  refine ⟨by show 7 + 1 ≤ _; omega, ?_⟩
  ((conv=>whnf);repeat((first|refine aF ?_|refine aT ?_);(first|refine rG Γ hm ?_|refine rD Γ hm (by kernel_rfl) ?_);conv=>whnf))
  refine ⟨by show 8 + 1 ≤ _; omega, ?_⟩
  ((conv=>whnf);repeat((first|refine aF ?_|refine aT ?_);(first|refine rG Γ hm ?_|refine rD Γ hm (by kernel_rfl) ?_);conv=>whnf))
  refine callD0 q5 F33 rfl rfl rfl (by kernel_rfl) rfl ?_
  ((first|refine rG Γ hm ?_|refine rD Γ hm (by kernel_rfl) ?_);(conv=>whnf);repeat((first|refine aF ?_|refine aT ?_);(first|refine rG Γ hm ?_|refine rD Γ hm (by kernel_rfl) ?_);conv=>whnf))
  refine ⟨by show 9 + _ ≤ _; omega, ?_⟩
  ((conv=>whnf);repeat((first|refine aF ?_|refine aT ?_);(first|refine rG Γ hm ?_|refine rD Γ hm (by kernel_rfl) ?_);conv=>whnf))
  refine ⟨by show (_ ++ tr : ByteArray).size + 1 ≤ _; rw [size_app]; show 9 + _ + _ ≤ _; omega, ?_⟩
  ((conv=>whnf);repeat((first|refine aF ?_|refine aT ?_);(first|refine rG Γ hm ?_|refine rD Γ hm (by kernel_rfl) ?_);conv=>whnf))
  refine callD0 q6 F33 rfl rfl rfl (by kernel_rfl) rfl ?_
  ((first|refine rG Γ hm ?_|refine rD Γ hm (by kernel_rfl) ?_);(conv=>whnf);repeat((first|refine aF ?_|refine aT ?_);(first|refine rG Γ hm ?_|refine rD Γ hm (by kernel_rfl) ?_);conv=>whnf))
  refine ⟨by show (_ ++ tr ++ _ : ByteArray).size + _ ≤ _; rw [size_app, size_app]; show 9 + _ + 1 + _ ≤ _; omega, ?_⟩
  ((conv=>whnf);repeat((first|refine aF ?_|refine aT ?_);(first|refine rG Γ hm ?_|refine rD Γ hm (by kernel_rfl) ?_);conv=>whnf))
  refine ⟨by show (_ ++ tr ++ _ ++ tx : ByteArray).size + _ ≤ _; rw [size_app, size_app, size_app]; show 9 + _ + 1 + _ + 1 ≤ _; omega, ?_⟩
  ((conv=>whnf);repeat((first|refine aF ?_|refine aT ?_);(first|refine rG Γ hm ?_|refine rD Γ hm (by kernel_rfl) ?_);conv=>whnf))
  refine ⟨(by kernel_rfl), ?_⟩
  ((conv=>whnf);repeat((first|refine aF ?_|refine aT ?_);(first|refine rG Γ hm ?_|refine rD Γ hm (by kernel_rfl) ?_);conv=>whnf))
  exact done0 rfl (.cons .tmp .nil) rfl rfl

end Go.Sy.YtjomehmhkcnadaaGreatDoor

namespace Go.Sy

theorem good_index_arrV {P : Program} (Γ : Ty P) {o : Oper} {s : SS} {t : TypeId} {ti : TI} {et : TypeId} {len : Nat} {x y : Operand} {ik : IntKind} {n : Int} {l : List SV} {z : SV} {k : EK} (h : o.op = .index t x y) (ht : Γ.get t = some ti) (hk : ti.k = .array et len 1)
    (he : P.underlying et = some (EK.desc k)) (hx : ev s x = .agg l) (hy : ev s y = .val (.int ik n)) (h0 : 0 ≤ n) (hn : n.toNat < len) (hz : getI l n.toNat = some z) : Good P o s ⟨z, [], []⟩ :=
  Good.pure fun κ a w _ hr _ => by
    have h1 := hr x (by simp [h, Op.operands])
    have h2 := hr y (by simp [h, Op.operands])
    rw [hx] at h1
    rw [hy] at h2
    simp only [Rd] at h1
    obtain ⟨cs, e1, _, e2⟩ := h1
    obtain ⟨v, e3, e4⟩ := e2.getT hz
    obtain ⟨hu, i, q1, q2⟩ := arr_elem Γ ht hk
    have hp := run_part (P := P) w he cs.toArray e3
    have hlt : n < len := by omega
    refine ⟨v, ?_, e4⟩
    simp [execOp, h, e1, h2.val, Instr.index, run_underlying hu, asIntOf, h0, hlt, sizeOf, typeInfo, q1, q2, hp]

/-- A box's cells seen otherwise (nil slices as rows without items). -/
theorem G_boxV {C : Cx} {k : List KI} {s : SS} (d : Nat) (l' : List SV) {l : List SV} (h : s.h d = .box l) (hv : VwL s [] l l') (hg : G C k ⟨s.σ, upd s.h d (.box l')⟩) : G C k s := fun κ a w hs =>
  hg κ a w ⟨hs.defers, hs.size, hs.inv, hs.ctx, hs.slot, fun i => by
    show ObOK κ w i (upd s.h d (.box l') i)
    by_cases hi : i = d
    · subst hi
      rw [upd_self]
      have := hs.obj i
      rw [h] at this
      obtain ⟨b, cs, T, fr, e1, e2, e3, e4, e5⟩ := this
      exact ⟨b, cs, T, fr, e1, e2, e3, e4, VwL.rd hs.inv (fun _ hn => by cases hn) hv e5⟩
    · rw [upd_ne _ _ hi]; exact hs.obj i⟩

end Go.Sy

namespace Go.Sy.YtjomehmhkcnadaaGreatDoor
open Go.Proofs

attribute [local irreducible] Go.Sy.G Go.Sy.DR
set_option maxRecDepth 100000
set_option maxHeartbeats 4000000

theorem drop2 {l : List UInt8} {i : Nat} (h : i + 1 < l.length) : l.drop i = l[i] :: l[i + 1] :: l.drop (i + 2) := by
  rw [List.drop_eq_getElem_cons (by omega : i < l.length), List.drop_eq_getElem_cons h]

theorem pairsL_short {l : List UInt8} (h : l.length ≤ 1) : pairsL l = some [] := by
  cases l with
  | nil => rfl
  | cons a l => cases l with
    | nil => rfl
    | cons b l => simp at h

theorem machineReadBytesS (s : ByteArray) (hs : s.size ≤ 1000000) : Sy.Spec Tryz.prog 69 [strSV s] [] (.tup [.sl 1 byteSV (readBP s).1, boolSV (readBP s).2]) [] := contract Γ hm 100 F69 Tryz.ntmps69 rfl fun F hF => by
  have hsz : s.data.toList.length = s.size := rfl
  have hres := readBP.eq_1 s
  generalize readBP s = res at *
  have h45 := eq45 s
  ((conv=>whnf);repeat((first|refine aF ?_|refine aT ?_);(first|refine rG Γ hm ?_|refine rD Γ hm (by kernel_rfl) ?_);conv=>whnf))
  by_cases h1 : s.data.toList = [45]
  · rw [if_pos h1] at hres
    rw [decide_eq_true h1] at h45
    subst hres
    refine ⟨fun _ => ?_, fun h => absurd h (by rw [h45]; simp)⟩
    ((first|refine rG Γ hm ?_|refine rD Γ hm (by kernel_rfl) ?_);(conv=>whnf);repeat((first|refine aF ?_|refine aT ?_);(first|refine rG Γ hm ?_|refine rD Γ hm (by kernel_rfl) ?_);conv=>whnf))
    refine G_nilsl 2 1 byteSV rfl ?_
    ((first|refine rG Γ hm ?_|refine rD Γ hm (by kernel_rfl) ?_);(conv=>whnf);repeat((first|refine aF ?_|refine aT ?_);(first|refine rG Γ hm ?_|refine rD Γ hm (by kernel_rfl) ?_);conv=>whnf))
    exact done0 rfl (.cons .tmp (.cons .tmp .nil)) rfl rfl
  rw [if_neg h1] at hres
  rw [decide_eq_false h1] at h45
  refine ⟨fun h => absurd h (by rw [h45]; simp), fun _ => ?_⟩
  ((first|refine rG Γ hm ?_|refine rD Γ hm (by kernel_rfl) ?_);(conv=>whnf);repeat((first|refine aF ?_|refine aT ?_);(first|refine rG Γ hm ?_|refine rD Γ hm (by kernel_rfl) ?_);conv=>whnf))
  refine G_adopt 4 1000 1 byteSV rfl rfl ?_
  refine G_while (fun x : List UInt8 × Nat => pairsL s.data.toList = (pairsL (s.data.toList.drop x.2)).map (x.1 ++ ·) ∧ x.2 ≤ s.size ∧ x.1.length ≤ x.2) (fun x => [(0, strSV s), (4, .osl 1000), (5, intSV x.2)]) (fun x => [(1000, .row 1 byteSV x.1)]) (fun x => s.size - x.2) ([], 0) [] ⟨by simp, by simp, by simp⟩
    ⟨⟨rfl, rfl, rfl, rfl, rfl, rfl, trivial⟩, ⟨.inl rfl, rfl, trivial⟩, rfl, rfl⟩ ?_
  rintro ⟨out, i⟩ ⟨hI, his, hlen⟩
  dsimp only at hI his hlen ⊢
  ((first|refine rG Γ hm ?_|refine rD Γ hm (by kernel_rfl) ?_);(conv=>whnf);repeat((first|refine aF ?_|refine aT ?_);(first|refine rG Γ hm ?_|refine rD Γ hm (by kernel_rfl) ?_);conv=>whnf))
  refine ⟨by unfold I64; omega, ?_⟩
  ((conv=>whnf);repeat((first|refine aF ?_|refine aT ?_);(first|refine rG Γ hm ?_|refine rD Γ hm (by kernel_rfl) ?_);conv=>whnf))
  refine ⟨fun h => ?_, fun h => ?_⟩
  · have hlt : i + 1 < s.data.toList.length := by have := of_decide_eq_true h; omega
    have hb1 : bget s ((i : Nat) : Int).toNat = s.data.toList[i] := by rw [Int.toNat_natCast]; exact bget_eq (by omega)
    have hb2 : bget s (((i : Nat) : Int) + 1).toNat = s.data.toList[i + 1] := by rw [show (((i : Nat) : Int) + 1).toNat = i + 1 by omega]; exact bget_eq hlt
    rw [drop2 hlt, pairsL] at hI
    generalize s.data.toList[i] = a at *
    generalize s.data.toList[i + 1] = b at *
    have qa := strIndexByteS hexC a _ (hex_index a)
    have qb := strIndexByteS hexC b _ (hex_index b)
    have la := digI_le a
    have lb := digI_le b
    have vor := @hexV_or a b
    rw [← hb1] at qa
    rw [← hb2] at qb
    ((first|refine rG Γ hm ?_|refine rD Γ hm (by kernel_rfl) ?_);(conv=>whnf);repeat((first|refine aF ?_|refine aT ?_);(first|refine rG Γ hm ?_|refine rD Γ hm (by kernel_rfl) ?_);conv=>whnf))
    refine ⟨by omega, by omega, ?_⟩
    ((conv=>whnf);repeat((first|refine aF ?_|refine aT ?_);(first|refine rG Γ hm ?_|refine rD Γ hm (by kernel_rfl) ?_);conv=>whnf))
    refine callD0 qa F98 rfl rfl rfl (by kernel_rfl) rfl ?_
    ((first|refine rG Γ hm ?_|refine rD Γ hm (by kernel_rfl) ?_);(conv=>whnf);repeat((first|refine aF ?_|refine aT ?_);(first|refine rG Γ hm ?_|refine rD Γ hm (by kernel_rfl) ?_);conv=>whnf))
    refine ⟨by unfold I64; omega, ?_⟩
    ((conv=>whnf);repeat((first|refine aF ?_|refine aT ?_);(first|refine rG Γ hm ?_|refine rD Γ hm (by kernel_rfl) ?_);conv=>whnf))
    refine ⟨by omega, by omega, ?_⟩
    ((conv=>whnf);repeat((first|refine aF ?_|refine aT ?_);(first|refine rG Γ hm ?_|refine rD Γ hm (by kernel_rfl) ?_);conv=>whnf))
    refine callD0 qb F98 rfl rfl rfl (by kernel_rfl) rfl ?_
    ((first|refine rG Γ hm ?_|refine rD Γ hm (by kernel_rfl) ?_);(conv=>whnf);repeat((first|refine aF ?_|refine aT ?_);(first|refine rG Γ hm ?_|refine rD Γ hm (by kernel_rfl) ?_);conv=>whnf))
    refine ⟨(by kernel_rfl), ?_⟩
    rw [hb1, hb2]
    ((conv=>whnf);repeat((first|refine aF ?_|refine aT ?_);(first|refine rG Γ hm ?_|refine rD Γ hm (by kernel_rfl) ?_);conv=>whnf))
    by_cases ha : digI a = 16
    · rw [if_neg (by omega)] at hI
      rw [hI] at hres
      dsimp only [Option.map_none] at hres
      subst hres
      rw [if_pos ha]
      refine ⟨fun _ => ?_, fun h => absurd (of_decide_eq_false h) (by omega)⟩
      ((first|refine rG Γ hm ?_|refine rD Γ hm (by kernel_rfl) ?_);(conv=>whnf);repeat((first|refine aF ?_|refine aT ?_);(first|refine rG Γ hm ?_|refine rD Γ hm (by kernel_rfl) ?_);conv=>whnf))
      refine G_nilsl 2 1 byteSV rfl ?_
      ((first|refine rG Γ hm ?_|refine rD Γ hm (by kernel_rfl) ?_);(conv=>whnf);repeat((first|refine aF ?_|refine aT ?_);(first|refine rG Γ hm ?_|refine rD Γ hm (by kernel_rfl) ?_);conv=>whnf))
      exact done0 rfl (.cons .tmp (.cons .tmp .nil)) rfl rfl
    rw [if_neg ha]
    refine ⟨fun h => absurd (of_decide_eq_true h) (by omega), fun _ => ?_⟩
    by_cases hbb : digI b = 16
    · rw [if_neg (by omega)] at hI
      rw [hI] at hres
      dsimp only [Option.map_none] at hres
      subst hres
      rw [if_pos hbb]
      ((first|refine rG Γ hm ?_|refine rD Γ hm (by kernel_rfl) ?_);(conv=>whnf);repeat((first|refine aF ?_|refine aT ?_);(first|refine rG Γ hm ?_|refine rD Γ hm (by kernel_rfl) ?_);conv=>whnf))
      refine G_nilsl 2 1 byteSV rfl ?_
      ((first|refine rG Γ hm ?_|refine rD Γ hm (by kernel_rfl) ?_);(conv=>whnf);repeat((first|refine aF ?_|refine aT ?_);(first|refine rG Γ hm ?_|refine rD Γ hm (by kernel_rfl) ?_);conv=>whnf))
      exact done0 rfl (.cons .tmp (.cons .tmp .nil)) rfl rfl
    rw [if_neg hbb]
    rw [if_pos (by omega)] at hI
    have vor := vor (by omega) (by omega)
    ((first|refine rG Γ hm ?_|refine rD Γ hm (by kernel_rfl) ?_);(conv=>whnf);repeat((first|refine aF ?_|refine aT ?_);(first|refine rG Γ hm ?_|refine rD Γ hm (by kernel_rfl) ?_);conv=>whnf))
    refine ⟨fun h => absurd (of_decide_eq_true h) (by omega), fun _ => ?_⟩
    ((first|refine rG Γ hm ?_|refine rD Γ hm (by kernel_rfl) ?_);(conv=>whnf);repeat((first|refine aF ?_|refine aT ?_);(first|refine rG Γ hm ?_|refine rD Γ hm (by kernel_rfl) ?_);conv=>whnf))
    refine ⟨by decide, ?_⟩
    ((conv=>whnf);repeat((first|refine aF ?_|refine aT ?_);(first|refine rG Γ hm ?_|refine rD Γ hm (by kernel_rfl) ?_);conv=>whnf))
    rw [vor]
    refine stepOp (good_appendT Γ.toTy 39 rfl rfl rfl rfl rfl (.row rfl) (.lit (e := byteSV) (l := [hexV a b]) rfl rfl) (by simp) (by simp; omega) (by simp; omega)) rfl rfl ?_
    ((first|refine rG Γ hm ?_|refine rD Γ hm (by kernel_rfl) ?_);(conv=>whnf);repeat((first|refine aF ?_|refine aT ?_);(first|refine rG Γ hm ?_|refine rD Γ hm (by kernel_rfl) ?_);conv=>whnf))
    refine ⟨by unfold I64; omega, ?_⟩
    ((conv=>whnf);repeat((first|refine aF ?_|refine aT ?_);(first|refine rG Γ hm ?_|refine rD Γ hm (by kernel_rfl) ?_);conv=>whnf))
    refine G_whileN (out ++ [hexV a b], i + 2) [(1000, 39)] ⟨?_, by dsimp only; omega, by simp; omega⟩ (by dsimp only; omega) ⟨⟨rfl, rfl, rfl, rfl, rfl, rfl, trivial⟩, ⟨.inl rfl, rfl, trivial⟩, rfl, rfl⟩
    dsimp only
    rw [hI, Option.map_map]
    congr 1
    funext r
    simp
  · have hge : s.data.toList.length ≤ i + 1 := by have := of_decide_eq_false h; omega
    rw [pairsL_short (l := s.data.toList.drop i) (by rw [List.length_drop]; omega)] at hI
    simp only [Option.map_some, List.append_nil] at hI
    rw [hI] at hres
    dsimp only at hres
    have hm2 : (s.size : Int).tmod 2 = ((s.size % 2 : Nat) : Int) := by rw [Int.tmod_eq_emod_of_nonneg (by omega)]; omega
    refine G_data 1000 rfl ?_
    ((first|refine rG Γ hm ?_|refine rD Γ hm (by kernel_rfl) ?_);(conv=>whnf);repeat((first|refine aF ?_|refine aT ?_);(first|refine rG Γ hm ?_|refine rD Γ hm (by kernel_rfl) ?_);conv=>whnf))
    refine ⟨fun h2 => ?_, fun h2 => ?_⟩
    · have h3 : 0 < s.size := by have := of_decide_eq_true h2; omega
      rw [decide_eq_true h3, Bool.true_and] at hres
      ((first|refine rG Γ hm ?_|refine rD Γ hm (by kernel_rfl) ?_);(conv=>whnf);repeat((first|refine aF ?_|refine aT ?_);(first|refine rG Γ hm ?_|refine rD Γ hm (by kernel_rfl) ?_);conv=>whnf))
      refine ⟨by decide, ?_⟩
      ((conv=>whnf);repeat((first|refine aF ?_|refine aT ?_);(first|refine rG Γ hm ?_|refine rD Γ hm (by kernel_rfl) ?_);conv=>whnf))
      rw [hm2]
      refine ⟨fun h4 => ?_, fun h4 => ?_⟩
      · have h5 : s.size % 2 = 0 := by have : ((s.size % 2 : Nat) : Int) = 0 := by simpa using h4
                                       omega
        rw [decide_eq_true h5, Bool.true_and] at hres
        subst hres
        ((first|refine rG Γ hm ?_|refine rD Γ hm (by kernel_rfl) ?_);(conv=>whnf);repeat((first|refine aF ?_|refine aT ?_);(first|refine rG Γ hm ?_|refine rD Γ hm (by kernel_rfl) ?_);conv=>whnf))
        refine done0 rfl (.cons .tmp (.cons .tmp .nil)) ?_ rfl
        refine congrArg (fun b => SV.tup [SV.sl 1 byteSV out, boolSV b]) ?_
        exact decide_eq_decide.2 (by omega)
      · have h5 : ¬ s.size % 2 = 0 := fun e => by rw [e] at h4; simp at h4
        rw [decide_eq_false h5, Bool.false_and] at hres
        subst hres
        ((first|refine rG Γ hm ?_|refine rD Γ hm (by kernel_rfl) ?_);(conv=>whnf);repeat((first|refine aF ?_|refine aT ?_);(first|refine rG Γ hm ?_|refine rD Γ hm (by kernel_rfl) ?_);conv=>whnf))
        exact done0 rfl (.cons .tmp (.cons .tmp .nil)) rfl rfl
    · have h3 : ¬ 0 < s.size := by have := of_decide_eq_false h2; omega
      rw [decide_eq_false h3, Bool.false_and, Bool.false_and] at hres
      subst hres
      ((first|refine rG Γ hm ?_|refine rD Γ hm (by kernel_rfl) ?_);(conv=>whnf);repeat((first|refine aF ?_|refine aT ?_);(first|refine rG Γ hm ?_|refine rD Γ hm (by kernel_rfl) ?_);conv=>whnf))
      exact done0 rfl (.cons .tmp (.cons .tmp .nil)) rfl rfl

theorem ref39ReadBytesS (s : ByteArray) (hs : s.size ≤ 1000000) : Sy.Spec Tryz.prog 73 [strSV s] [] (.tup [.sl 1 byteSV (readBR s).1, boolSV (readBR s).2]) [] := contract Γ hm 100 F73 Tryz.ntmps73 rfl fun F hF => by
  have hsz : s.data.toList.length = s.size := rfl
  have hres := readBR.eq_1 s
  generalize readBR s = res at *
  have h45 := eq45 s
  ((conv=>whnf);repeat((first|refine aF ?_|refine aT ?_);(first|refine rG Γ hm ?_|refine rD Γ hm (by kernel_rfl) ?_);conv=>whnf))
  by_cases h1 : s.data.toList = [45]
  · rw [if_pos h1] at hres
    rw [decide_eq_true h1] at h45
    subst hres
    refine ⟨fun _ => ?_, fun h => absurd h (by rw [h45]; simp)⟩
    ((first|refine rG Γ hm ?_|refine rD Γ hm (by kernel_rfl) ?_);(conv=>whnf);repeat((first|refine aF ?_|refine aT ?_);(first|refine rG Γ hm ?_|refine rD Γ hm (by kernel_rfl) ?_);conv=>whnf))
    refine G_nilsl 2 1 byteSV rfl ?_
    ((first|refine rG Γ hm ?_|refine rD Γ hm (by kernel_rfl) ?_);(conv=>whnf);repeat((first|refine aF ?_|refine aT ?_);(first|refine rG Γ hm ?_|refine rD Γ hm (by kernel_rfl) ?_);conv=>whnf))
    exact done0 rfl (.cons .tmp (.cons .tmp .nil)) rfl rfl
  rw [if_neg h1] at hres
  rw [decide_eq_false h1] at h45
  have hm2 : (s.size : Int).tmod 2 = ((s.size % 2 : Nat) : Int) := by rw [Int.tmod_eq_emod_of_nonneg (by omega)]; omega
  refine ⟨fun h => absurd h (by rw [h45]; simp), fun _ => ?_⟩
  ((first|refine rG Γ hm ?_|refine rD Γ hm (by kernel_rfl) ?_);(conv=>whnf);repeat((first|refine aF ?_|refine aT ?_);(first|refine rG Γ hm ?_|refine rD Γ hm (by kernel_rfl) ?_);conv=>whnf))
  refine ⟨fun h2 => ?_, fun h2 => ?_⟩
  · rw [if_pos (.inl (by have : (s.size : Int) = 0 := by simpa using h2
                         omega))] at hres
    subst hres
    ((first|refine rG Γ hm ?_|refine rD Γ hm (by kernel_rfl) ?_);(conv=>whnf);repeat((first|refine aF ?_|refine aT ?_);(first|refine rG Γ hm ?_|refine rD Γ hm (by kernel_rfl) ?_);conv=>whnf))
    refine G_nilsl 2 1 byteSV rfl ?_
    ((first|refine rG Γ hm ?_|refine rD Γ hm (by kernel_rfl) ?_);(conv=>whnf);repeat((first|refine aF ?_|refine aT ?_);(first|refine rG Γ hm ?_|refine rD Γ hm (by kernel_rfl) ?_);conv=>whnf))
    exact done0 rfl (.cons .tmp (.cons .tmp .nil)) rfl rfl
  have h2 : s.size ≠ 0 := fun e => by rw [e] at h2; simp at h2
  ((first|refine rG Γ hm ?_|refine rD Γ hm (by kernel_rfl) ?_);(conv=>whnf);repeat((first|refine aF ?_|refine aT ?_);(first|refine rG Γ hm ?_|refine rD Γ hm (by kernel_rfl) ?_);conv=>whnf))
  refine ⟨by decide, ?_⟩
  ((conv=>whnf);repeat((first|refine aF ?_|refine aT ?_);(first|refine rG Γ hm ?_|refine rD Γ hm (by kernel_rfl) ?_);conv=>whnf))
  rw [hm2]
  refine ⟨fun h3 => ?_, fun h3 => ?_⟩
  · rw [if_pos (.inr (.inl (by have : ((s.size % 2 : Nat) : Int) = 1 := by simpa using h3
                               omega)))] at hres
    subst hres
    ((first|refine rG Γ hm ?_|refine rD Γ hm (by kernel_rfl) ?_);(conv=>whnf);repeat((first|refine aF ?_|refine aT ?_);(first|refine rG Γ hm ?_|refine rD Γ hm (by kernel_rfl) ?_);conv=>whnf))
    refine G_nilsl 2 1 byteSV rfl ?_
    ((first|refine rG Γ hm ?_|refine rD Γ hm (by kernel_rfl) ?_);(conv=>whnf);repeat((first|refine aF ?_|refine aT ?_);(first|refine rG Γ hm ?_|refine rD Γ hm (by kernel_rfl) ?_);conv=>whnf))
    exact done0 rfl (.cons .tmp (.cons .tmp .nil)) rfl rfl
  have h3 : s.size % 2 ≠ 1 := fun e => by rw [e] at h3; simp at h3
  ((first|refine rG Γ hm ?_|refine rD Γ hm (by kernel_rfl) ?_);(conv=>whnf);repeat((first|refine aF ?_|refine aT ?_);(first|refine rG Γ hm ?_|refine rD Γ hm (by kernel_rfl) ?_);conv=>whnf))
  refine ⟨fun h4 => ?_, fun h4 => ?_⟩
  · rw [if_pos (.inr (.inr (by have := of_decide_eq_true h4; omega)))] at hres
    subst hres
    ((first|refine rG Γ hm ?_|refine rD Γ hm (by kernel_rfl) ?_);(conv=>whnf);repeat((first|refine aF ?_|refine aT ?_);(first|refine rG Γ hm ?_|refine rD Γ hm (by kernel_rfl) ?_);conv=>whnf))
    refine G_nilsl 2 1 byteSV rfl ?_
    ((first|refine rG Γ hm ?_|refine rD Γ hm (by kernel_rfl) ?_);(conv=>whnf);repeat((first|refine aF ?_|refine aT ?_);(first|refine rG Γ hm ?_|refine rD Γ hm (by kernel_rfl) ?_);conv=>whnf))
    exact done0 rfl (.cons .tmp (.cons .tmp .nil)) rfl rfl
  have h4 := of_decide_eq_false h4
  rw [if_neg (by omega)] at hres
  ((first|refine rG Γ hm ?_|refine rD Γ hm (by kernel_rfl) ?_);(conv=>whnf);repeat((first|refine aF ?_|refine aT ?_);(first|refine rG Γ hm ?_|refine rD Γ hm (by kernel_rfl) ?_);conv=>whnf))
  refine G_adopt 4 1000 1 byteSV rfl rfl ?_
  refine G_while (fun x : List UInt8 × Nat => pairsL s.data.toList = (pairsL (s.data.toList.drop x.2)).map (x.1 ++ ·) ∧ x.2 ≤ s.size ∧ x.2 % 2 = 0 ∧ x.1.length ≤ x.2) (fun x => [(0, strSV s), (4, .osl 1000), (5, intSV x.2)]) (fun x => [(1000, .row 1 byteSV x.1)]) (fun x => s.size - x.2) ([], 0) [] ⟨by simp, by simp, by simp, by simp⟩
    ⟨⟨rfl, rfl, rfl, rfl, rfl, rfl, trivial⟩, ⟨.inl rfl, rfl, trivial⟩, rfl, rfl⟩ ?_
  rintro ⟨out, i⟩ ⟨hI, his, hev, hlen⟩
  dsimp only at hI his hev hlen ⊢
  ((first|refine rG Γ hm ?_|refine rD Γ hm (by kernel_rfl) ?_);(conv=>whnf);repeat((first|refine aF ?_|refine aT ?_);(first|refine rG Γ hm ?_|refine rD Γ hm (by kernel_rfl) ?_);conv=>whnf))
  refine ⟨fun h => ?_, fun h => ?_⟩
  · have hlt : i + 1 < s.data.toList.length := by have := of_decide_eq_true h; omega
    have hb1 : bget s ((i : Nat) : Int).toNat = s.data.toList[i] := by rw [Int.toNat_natCast]; exact bget_eq (by omega)
    have hb2 : bget s (((i : Nat) : Int) + 1).toNat = s.data.toList[i + 1] := by rw [show (((i : Nat) : Int) + 1).toNat = i + 1 by omega]; exact bget_eq hlt
    rw [drop2 hlt, pairsL] at hI
    generalize s.data.toList[i] = a at *
    generalize s.data.toList[i + 1] = b at *
    have qa := ref39DigitS a
    have qb := ref39DigitS b
    have la := digI_le a
    have lb := digI_le b
    have vor := @hexV_add a b
    rw [← hb1] at qa
    rw [← hb2] at qb
    ((first|refine rG Γ hm ?_|refine rD Γ hm (by kernel_rfl) ?_);(conv=>whnf);repeat((first|refine aF ?_|refine aT ?_);(first|refine rG Γ hm ?_|refine rD Γ hm (by kernel_rfl) ?_);conv=>whnf))
    refine ⟨by omega, by omega, ?_⟩
    ((conv=>whnf);repeat((first|refine aF ?_|refine aT ?_);(first|refine rG Γ hm ?_|refine rD Γ hm (by kernel_rfl) ?_);conv=>whnf))
    refine call0 qa F100 rfl rfl rfl rfl rfl ?_
    rw [hb1]
    ((first|refine rG Γ hm ?_|refine rD Γ hm (by kernel_rfl) ?_);(conv=>whnf);repeat((first|refine aF ?_|refine aT ?_);(first|refine rG Γ hm ?_|refine rD Γ hm (by kernel_rfl) ?_);conv=>whnf))
    refine ⟨fun h5 => ?_, fun h5 => ?_⟩
    · have h5 := of_decide_eq_true h5
      rw [if_neg (by omega)] at hI
      rw [hI] at hres
      dsimp only [Option.map_none] at hres
      subst hres
      ((first|refine rG Γ hm ?_|refine rD Γ hm (by kernel_rfl) ?_);(conv=>whnf);repeat((first|refine aF ?_|refine aT ?_);(first|refine rG Γ hm ?_|refine rD Γ hm (by kernel_rfl) ?_);conv=>whnf))
      refine G_nilsl 2 1 byteSV rfl ?_
      ((first|refine rG Γ hm ?_|refine rD Γ hm (by kernel_rfl) ?_);(conv=>whnf);repeat((first|refine aF ?_|refine aT ?_);(first|refine rG Γ hm ?_|refine rD Γ hm (by kernel_rfl) ?_);conv=>whnf))
      exact done0 rfl (.cons .tmp (.cons .tmp .nil)) rfl rfl
    have h5 := of_decide_eq_false h5
    ((first|refine rG Γ hm ?_|refine rD Γ hm (by kernel_rfl) ?_);(conv=>whnf);repeat((first|refine aF ?_|refine aT ?_);(first|refine rG Γ hm ?_|refine rD Γ hm (by kernel_rfl) ?_);conv=>whnf))
    refine ⟨by unfold I64; omega, ?_⟩
    ((conv=>whnf);repeat((first|refine aF ?_|refine aT ?_);(first|refine rG Γ hm ?_|refine rD Γ hm (by kernel_rfl) ?_);conv=>whnf))
    refine ⟨by omega, by omega, ?_⟩
    ((conv=>whnf);repeat((first|refine aF ?_|refine aT ?_);(first|refine rG Γ hm ?_|refine rD Γ hm (by kernel_rfl) ?_);conv=>whnf))
    refine call0 qb F100 rfl rfl rfl rfl rfl ?_
    rw [hb2]
    ((first|refine rG Γ hm ?_|refine rD Γ hm (by kernel_rfl) ?_);(conv=>whnf);repeat((first|refine aF ?_|refine aT ?_);(first|refine rG Γ hm ?_|refine rD Γ hm (by kernel_rfl) ?_);conv=>whnf))
    refine ⟨fun h6 => ?_, fun h6 => ?_⟩
    · have h6 := of_decide_eq_true h6
      rw [if_neg (by omega)] at hI
      rw [hI] at hres
      dsimp only [Option.map_none] at hres
      subst hres
      ((first|refine rG Γ hm ?_|refine rD Γ hm (by kernel_rfl) ?_);(conv=>whnf);repeat((first|refine aF ?_|refine aT ?_);(first|refine rG Γ hm ?_|refine rD Γ hm (by kernel_rfl) ?_);conv=>whnf))
      refine G_nilsl 2 1 byteSV rfl ?_
      ((first|refine rG Γ hm ?_|refine rD Γ hm (by kernel_rfl) ?_);(conv=>whnf);repeat((first|refine aF ?_|refine aT ?_);(first|refine rG Γ hm ?_|refine rD Γ hm (by kernel_rfl) ?_);conv=>whnf))
      exact done0 rfl (.cons .tmp (.cons .tmp .nil)) rfl rfl
    have h6 := of_decide_eq_false h6
    rw [if_pos (by omega)] at hI
    have vor := vor (by omega) (by omega)
    ((first|refine rG Γ hm ?_|refine rD Γ hm (by kernel_rfl) ?_);(conv=>whnf);repeat((first|refine aF ?_|refine aT ?_);(first|refine rG Γ hm ?_|refine rD Γ hm (by kernel_rfl) ?_);conv=>whnf))
    refine ⟨by omega, by omega, ?_⟩
    ((conv=>whnf);repeat((first|refine aF ?_|refine aT ?_);(first|refine rG Γ hm ?_|refine rD Γ hm (by kernel_rfl) ?_);conv=>whnf))
    refine callD0 qa F100 rfl rfl rfl (by kernel_rfl) rfl ?_
    rw [hb1]
    ((first|refine rG Γ hm ?_|refine rD Γ hm (by kernel_rfl) ?_);(conv=>whnf);repeat((first|refine aF ?_|refine aT ?_);(first|refine rG Γ hm ?_|refine rD Γ hm (by kernel_rfl) ?_);conv=>whnf))
    refine ⟨by unfold I64; omega, ?_⟩
    ((conv=>whnf);repeat((first|refine aF ?_|refine aT ?_);(first|refine rG Γ hm ?_|refine rD Γ hm (by kernel_rfl) ?_);conv=>whnf))
    refine ⟨by unfold I64; omega, ?_⟩
    ((conv=>whnf);repeat((first|refine aF ?_|refine aT ?_);(first|refine rG Γ hm ?_|refine rD Γ hm (by kernel_rfl) ?_);conv=>whnf))
    refine ⟨by omega, by omega, ?_⟩
    ((conv=>whnf);repeat((first|refine aF ?_|refine aT ?_);(first|refine rG Γ hm ?_|refine rD Γ hm (by kernel_rfl) ?_);conv=>whnf))
    refine callD0 qb F100 rfl rfl rfl (by kernel_rfl) rfl ?_
    rw [hb2]
    ((first|refine rG Γ hm ?_|refine rD Γ hm (by kernel_rfl) ?_);(conv=>whnf);repeat((first|refine aF ?_|refine aT ?_);(first|refine rG Γ hm ?_|refine rD Γ hm (by kernel_rfl) ?_);conv=>whnf))
    refine ⟨by unfold I64; omega, ?_⟩
    ((conv=>whnf);repeat((first|refine aF ?_|refine aT ?_);(first|refine rG Γ hm ?_|refine rD Γ hm (by kernel_rfl) ?_);conv=>whnf))
    rw [vor]
    refine stepD (good_appendT Γ.toTy 55 rfl rfl rfl rfl rfl (.row rfl) (.lit (e := byteSV) (l := [hexV a b]) rfl rfl) (by simp) (by simp; omega) (by simp; omega)) (by kernel_rfl) rfl ?_
    ((first|refine rG Γ hm ?_|refine rD Γ hm (by kernel_rfl) ?_);(conv=>whnf);repeat((first|refine aF ?_|refine aT ?_);(first|refine rG Γ hm ?_|refine rD Γ hm (by kernel_rfl) ?_);conv=>whnf))
    refine ⟨(by kernel_rfl), ?_⟩
    ((conv=>whnf);repeat((first|refine aF ?_|refine aT ?_);(first|refine rG Γ hm ?_|refine rD Γ hm (by kernel_rfl) ?_);conv=>whnf))
    refine ⟨by unfold I64; omega, ?_⟩
    ((conv=>whnf);repeat((first|refine aF ?_|refine aT ?_);(first|refine rG Γ hm ?_|refine rD Γ hm (by kernel_rfl) ?_);conv=>whnf))
    refine G_whileN (out ++ [hexV a b], i + 2) [(1000, 55)] ⟨?_, by dsimp only; omega, by dsimp only; omega, by simp; omega⟩ (by dsimp only; omega) ⟨⟨rfl, rfl, rfl, rfl, rfl, rfl, trivial⟩, ⟨.inl rfl, rfl, trivial⟩, rfl, rfl⟩
    dsimp only
    rw [hI, Option.map_map]
    congr 1
    funext r
    simp
  · have hge : s.data.toList.length ≤ i := by have := of_decide_eq_false h; omega
    rw [pairsL_short (l := s.data.toList.drop i) (by rw [List.length_drop]; omega)] at hI
    simp only [Option.map_some, List.append_nil] at hI
    rw [hI] at hres
    subst hres
    refine G_data 1000 rfl ?_
    ((first|refine rG Γ hm ?_|refine rD Γ hm (by kernel_rfl) ?_);(conv=>whnf);repeat((first|refine aF ?_|refine aT ?_);(first|refine rG Γ hm ?_|refine rD Γ hm (by kernel_rfl) ?_);conv=>whnf))
    exact done0 rfl (.cons .tmp (.cons .tmp .nil)) rfl rfl

end Go.Sy.YtjomehmhkcnadaaGreatDoor

namespace Go.Sy.YtjomehmhkcnadaaGreatDoor
open Go.Proofs

attribute [local irreducible] Go.Sy.G Go.Sy.DR
set_option maxRecDepth 100000
set_option maxHeartbeats 4000000

def bitB (c : UInt8) : Bool := decide (c.toNat = 48) || decide (c.toNat = 49)
def bitV (c : UInt8) : Bool := decide (c.toNat = 49)
def upL (w : ByteArray) : List Bool := if w.data.toList = [45] then [] else w.data.toList.map bitV
def readTrP (k : Nat) (w : ByteArray) : List Bool × Bool :=
  if w.data.toList = [45] then ([], decide (k = 0)) else if w.data.toList.all bitB = false then ([], false) else (w.data.toList.map bitV, decide (0 < w.size) && decide (w.size = k))
def okTr (k : Nat) (w : ByteArray) : Bool := !(w == ⟨#[]⟩) && (truthsT (upL w) == w) && decide ((upL w).length = k)

theorem truthL_map : ∀ l : List UInt8, truthL (l.map bitV) = l ↔ l.all bitB = true
  | [] => by simp [truthL]
  | c :: l => by
    have h := truthL_map l
    rw [truthL] at h ⊢
    simp only [List.map_cons, List.all_cons, Bool.and_eq_true, List.cons.injEq, h]
    have e : ((if bitV c = true then (49 : UInt8) else 48) = c) ↔ bitB c = true := by
      rw [bitV, bitB]
      by_cases h1 : c.toNat = 49
      · have : c = 49 := UInt8.toNat_inj.1 h1
        subst this; decide
      · rw [decide_eq_false h1]
        simp only [Bool.or_false, decide_eq_true_eq]
        constructor
        · intro h2
          have h3 : (48 : UInt8) = c := by simpa using h2
          rw [← h3]; rfl
        · intro h2
          have h3 : c = 48 := UInt8.toNat_inj.1 h2
          simp [h3]
    rw [e]

theorem readTr_eq (k : Nat) (w : ByteArray) : (readTrP k w).2 = okTr k w ∧ (okTr k w = true → (readTrP k w).1 = upL w) := by
  unfold readTrP okTr
  by_cases h1 : w.data.toList = [45]
  · have hw : w = ⟨#[45]⟩ := ext_list h1
    subst hw
    have hu : upL ⟨#[45]⟩ = [] := rfl
    rw [if_pos h1, hu]
    refine ⟨?_, fun _ => rfl⟩
    show decide (k = 0) = (true && true && decide (0 = k))
    rw [Bool.true_and, Bool.true_and]
    exact decide_eq_decide.2 (by omega)
  have hu : upL w = w.data.toList.map bitV := by rw [upL, if_neg h1]
  rw [if_neg h1, hu]
  have hsz : w.data.toList.length = w.size := rfl
  cases hl : w.data.toList with
  | nil =>
    have hw : w = ⟨#[]⟩ := ext_list hl
    subst hw
    exact ⟨rfl, fun _ => rfl⟩
  | cons c l =>
    have hne : (w == ⟨#[]⟩) = false := by
      cases h : (w == (⟨#[]⟩ : ByteArray))
      · rfl
      · rw [(beq_ba _ _).1 h] at hl; cases hl
    have ht : (truthsT ((c :: l).map bitV) == w) = (c :: l).all bitB := by
      rw [truthsT, if_neg (by simp), Bool.eq_iff_iff, beq_ba, ← truthL_map, ← hl]
      constructor
      · intro h
        have := congrArg (fun b : ByteArray => b.data.toList) h
        simpa [mkT_list] using this
      · intro h
        rw [h, mkT_self]
    rw [hne, ht]
    cases ha : (c :: l).all bitB
    · refine ⟨rfl, fun h => by simp at h⟩
    · rw [if_neg (by simp)]
      refine ⟨?_, fun _ => rfl⟩
      rw [hl] at hsz
      dsimp only
      rw [← hsz]
      simp

theorem siteReadTruthsS (n : Net) (hn : n.Fin) (s : ByteArray) (hs : s.size ≤ 1000000) : Sy.Spec Tryz.prog 71 [netSV n, strSV s] [] (.tup [.sl 1 boolSV (readTrP n.links.length s).1, boolSV (readTrP n.links.length s).2]) [] := contract Γ hm 100 F71 Tryz.ntmps71 rfl fun F hF => by
  have hsz : s.data.toList.length = s.size := rfl
  have hres := readTrP.eq_1 n.links.length s
  generalize readTrP n.links.length s = res at *
  have h45 := eq45 s
  ((conv=>whnf);repeat((first|refine aF ?_|refine aT ?_);(first|refine rG Γ hm ?_|refine rD Γ hm (by kernel_rfl) ?_);conv=>whnf))
  by_cases h1 : s.data.toList = [45]
  · rw [if_pos h1] at hres
    rw [decide_eq_true h1] at h45
    subst hres
    refine ⟨fun _ => ?_, fun h => absurd h (by rw [h45]; simp)⟩
    ((first|refine rG Γ hm ?_|refine rD Γ hm (by kernel_rfl) ?_);(conv=>whnf);repeat((first|refine aF ?_|refine aT ?_);(first|refine rG Γ hm ?_|refine rD Γ hm (by kernel_rfl) ?_);conv=>whnf))
    refine ⟨(by kernel_rfl), ?_⟩
    ((conv=>whnf);repeat((first|refine aF ?_|refine aT ?_);(first|refine rG Γ hm ?_|refine rD Γ hm (by kernel_rfl) ?_);conv=>whnf))
    refine G_nilsl 4 1 boolSV rfl ?_
    refine done0 rfl (.cons .tmp (.cons .tmp .nil)) ?_ rfl
    refine congrArg (fun b => SV.tup [SV.sl 1 boolSV [], boolSV b]) ?_
    rw [Bool.eq_iff_iff]; simp <;> omega
  rw [if_neg h1] at hres
  rw [decide_eq_false h1] at h45
  refine ⟨fun h => absurd h (by rw [h45]; simp), fun _ => ?_⟩
  ((first|refine rG Γ hm ?_|refine rD Γ hm (by kernel_rfl) ?_);(conv=>whnf);repeat((first|refine aF ?_|refine aT ?_);(first|refine rG Γ hm ?_|refine rD Γ hm (by kernel_rfl) ?_);conv=>whnf))
  refine G_box 2 8 (netSV n) rfl rfl rfl ?_
  refine G_adopt 6 1000 1 boolSV rfl rfl ?_
  refine G_countP s.size (fun j => Upto (fun _ c => bitB c) s.data.toList j) (fun j => [(1, strSV s), (2, .ref 8 (netSV n) 0), (6, .osl 1000), (16, intSV s.size), (17, intSV j)]) (fun j => [(1000, .row 1 boolSV ((s.data.toList.take j).map bitV))]) [] (upto_zero _ _)
    ⟨⟨rfl, rfl, rfl, rfl, rfl, rfl, rfl, rfl, rfl, rfl, trivial⟩, ⟨.inl rfl, rfl, trivial⟩, rfl, rfl⟩ ?_
  intro j hj hI
  have hll : ((s.data.toList.take j).map bitV).length = j := by rw [List.length_map, List.length_take]; omega
  ((first|refine rG Γ hm ?_|refine rD Γ hm (by kernel_rfl) ?_);(conv=>whnf);repeat((first|refine aF ?_|refine aT ?_);(first|refine rG Γ hm ?_|refine rD Γ hm (by kernel_rfl) ?_);conv=>whnf))
  refine ⟨fun h => ?_, fun h => ?_⟩
  · have hlt : j < s.data.toList.length := by have := of_decide_eq_true h; omega
    have hb : bget s ((j : Nat) : Int).toNat = s.data.toList[j] := by rw [Int.toNat_natCast]; exact bget_eq hlt
    have hno := fun h => @all_at' _ bitB s.data.toList j hlt h
    have hnx := fun h => upto_next (p := fun _ c => bitB c) hI hlt h
    have hsucc : (s.data.toList.take (j + 1)).map bitV = (s.data.toList.take j).map bitV ++ [bitV s.data.toList[j]] := by rw [List.take_succ_eq_append_getElem hlt, List.map_append]; rfl
    generalize s.data.toList[j] = c at *
    generalize (s.data.toList.take j).map bitV = v at *
    have hv : bitV c = ((c.toNat : Int) == 49) := by rw [bitV, Bool.eq_iff_iff]; simp; omega
    rw [hv] at hsucc
    have hc2 := c.toNat_lt
    ((first|refine rG Γ hm ?_|refine rD Γ hm (by kernel_rfl) ?_);(conv=>whnf);repeat((first|refine aF ?_|refine aT ?_);(first|refine rG Γ hm ?_|refine rD Γ hm (by kernel_rfl) ?_);conv=>whnf))
    refine ⟨by omega, by omega, ?_⟩
    rw [hb]
    ((conv=>whnf);repeat((first|refine aF ?_|refine aT ?_);(first|refine rG Γ hm ?_|refine rD Γ hm (by kernel_rfl) ?_);conv=>whnf))
    refine ⟨fun h2 => ?_, fun h2 => ?_⟩
    · have h3 : c.toNat ≠ 48 := fun e => by rw [e] at h2; simp at h2
      ((first|refine rG Γ hm ?_|refine rD Γ hm (by kernel_rfl) ?_);(conv=>whnf);repeat((first|refine aF ?_|refine aT ?_);(first|refine rG Γ hm ?_|refine rD Γ hm (by kernel_rfl) ?_);conv=>whnf))
      refine ⟨by omega, by omega, ?_⟩
      rw [hb]
      ((conv=>whnf);repeat((first|refine aF ?_|refine aT ?_);(first|refine rG Γ hm ?_|refine rD Γ hm (by kernel_rfl) ?_);conv=>whnf))
      refine ⟨fun h4 => ?_, fun h4 => ?_⟩
      · have h5 : c.toNat ≠ 49 := fun e => by rw [e] at h4; simp at h4
        rw [if_pos (hno (by rw [bitB, decide_eq_false h3, decide_eq_false h5]; rfl))] at hres
        subst hres
        ((first|refine rG Γ hm ?_|refine rD Γ hm (by kernel_rfl) ?_);(conv=>whnf);repeat((first|refine aF ?_|refine aT ?_);(first|refine rG Γ hm ?_|refine rD Γ hm (by kernel_rfl) ?_);conv=>whnf))
        refine G_nilsl 4 1 boolSV rfl ?_
        ((first|refine rG Γ hm ?_|refine rD Γ hm (by kernel_rfl) ?_);(conv=>whnf);repeat((first|refine aF ?_|refine aT ?_);(first|refine rG Γ hm ?_|refine rD Γ hm (by kernel_rfl) ?_);conv=>whnf))
        exact done0 rfl (.cons .tmp (.cons .tmp .nil)) rfl rfl
      · have h5 : c.toNat = 49 := by have h6 : ((c.toNat : Int) != 49) = false := h4
                                     have h7 : (c.toNat : Int) = 49 := by simpa using h6
                                     omega
        have hbt : bitB c = true := by rw [bitB, decide_eq_true h5, Bool.or_true]
        ((first|refine rG Γ hm ?_|refine rD Γ hm (by kernel_rfl) ?_);(conv=>whnf);repeat((first|refine aF ?_|refine aT ?_);(first|refine rG Γ hm ?_|refine rD Γ hm (by kernel_rfl) ?_);conv=>whnf))
        refine ⟨by omega, by omega, ?_⟩
        rw [hb]
        ((conv=>whnf);repeat((first|refine aF ?_|refine aT ?_);(first|refine rG Γ hm ?_|refine rD Γ hm (by kernel_rfl) ?_);conv=>whnf))
        refine stepOp (good_appendT Γ.toTy 36 rfl rfl rfl rfl rfl (.row rfl) (.lit (e := boolSV) (l := [(c.toNat : Int) == 49]) rfl rfl) (by simp) (by simp; omega) (by simp; omega)) rfl rfl ?_
        ((first|refine rG Γ hm ?_|refine rD Γ hm (by kernel_rfl) ?_);(conv=>whnf);repeat((first|refine aF ?_|refine aT ?_);(first|refine rG Γ hm ?_|refine rD Γ hm (by kernel_rfl) ?_);conv=>whnf))
        refine ⟨by unfold I64; omega, ?_⟩
        ((conv=>whnf);repeat((first|refine aF ?_|refine aT ?_);(first|refine rG Γ hm ?_|refine rD Γ hm (by kernel_rfl) ?_);conv=>whnf))
        exact G_nextP [(1000, 36)] hI (by omega) (hnx hbt) ⟨⟨rfl, rfl, rfl, rfl, rfl, rfl, rfl, rfl, rfl, rfl, trivial⟩, ⟨.inl (congrArg (Ob.row 1 boolSV) hsucc), rfl, trivial⟩, rfl, rfl⟩
    · have h3 : c.toNat = 48 := by have h7 : (c.toNat : Int) = 48 := by simpa using h2
                                   omega
      have hbt : bitB c = true := by rw [bitB, decide_eq_true h3, Bool.true_or]
      ((first|refine rG Γ hm ?_|refine rD Γ hm (by kernel_rfl) ?_);(conv=>whnf);repeat((first|refine aF ?_|refine aT ?_);(first|refine rG Γ hm ?_|refine rD Γ hm (by kernel_rfl) ?_);conv=>whnf))
      refine ⟨by omega, by omega, ?_⟩
      rw [hb]
      ((conv=>whnf);repeat((first|refine aF ?_|refine aT ?_);(first|refine rG Γ hm ?_|refine rD Γ hm (by kernel_rfl) ?_);conv=>whnf))
      refine stepOp (good_appendT Γ.toTy 36 rfl rfl rfl rfl rfl (.row rfl) (.lit (e := boolSV) (l := [(c.toNat : Int) == 49]) rfl rfl) (by simp) (by simp; omega) (by simp; omega)) rfl rfl ?_
      ((first|refine rG Γ hm ?_|refine rD Γ hm (by kernel_rfl) ?_);(conv=>whnf);repeat((first|refine aF ?_|refine aT ?_);(first|refine rG Γ hm ?_|refine rD Γ hm (by kernel_rfl) ?_);conv=>whnf))
      refine ⟨by unfold I64; omega, ?_⟩
      ((conv=>whnf);repeat((first|refine aF ?_|refine aT ?_);(first|refine rG Γ hm ?_|refine rD Γ hm (by kernel_rfl) ?_);conv=>whnf))
      exact G_nextP [(1000, 36)] hI (by omega) (hnx hbt) ⟨⟨rfl, rfl, rfl, rfl, rfl, rfl, rfl, rfl, rfl, rfl, trivial⟩, ⟨.inl (congrArg (Ob.row 1 boolSV) hsucc), rfl, trivial⟩, rfl, rfl⟩
  · have hje : j = s.size := by have := of_decide_eq_false h; omega
    subst hje
    rw [if_neg (by rw [all_upto' hI (Nat.le_refl _)]; simp)] at hres
    have htk : s.data.toList.take s.size = s.data.toList := List.take_length
    rw [htk] at hll ⊢
    generalize s.data.toList.map bitV = out at *
    refine G_data 1000 rfl ?_
    ((first|refine rG Γ hm ?_|refine rD Γ hm (by kernel_rfl) ?_);(conv=>whnf);repeat((first|refine aF ?_|refine aT ?_);(first|refine rG Γ hm ?_|refine rD Γ hm (by kernel_rfl) ?_);conv=>whnf))
    refine ⟨fun h2 => ?_, fun h2 => ?_⟩
    · rw [decide_eq_true (by have := of_decide_eq_true h2; omega), Bool.true_and] at hres
      subst hres
      ((first|refine rG Γ hm ?_|refine rD Γ hm (by kernel_rfl) ?_);(conv=>whnf);repeat((first|refine aF ?_|refine aT ?_);(first|refine rG Γ hm ?_|refine rD Γ hm (by kernel_rfl) ?_);conv=>whnf))
      refine ⟨(by kernel_rfl), ?_⟩
      ((conv=>whnf);repeat((first|refine aF ?_|refine aT ?_);(first|refine rG Γ hm ?_|refine rD Γ hm (by kernel_rfl) ?_);conv=>whnf))
      refine done0 rfl (.cons .tmp (.cons .tmp .nil)) ?_ rfl
      refine congrArg (fun b => SV.tup [SV.sl 1 boolSV out, boolSV b]) ?_
      rw [Bool.eq_iff_iff]; simp; omega
    · rw [decide_eq_false (by have := of_decide_eq_false h2; omega), Bool.false_and] at hres
      subst hres
      ((first|refine rG Γ hm ?_|refine rD Γ hm (by kernel_rfl) ?_);(conv=>whnf);repeat((first|refine aF ?_|refine aT ?_);(first|refine rG Γ hm ?_|refine rD Γ hm (by kernel_rfl) ?_);conv=>whnf))
      refine ⟨(by kernel_rfl), ?_⟩
      ((conv=>whnf);repeat((first|refine aF ?_|refine aT ?_);(first|refine rG Γ hm ?_|refine rD Γ hm (by kernel_rfl) ?_);conv=>whnf))
      exact done0 rfl (.cons .tmp (.cons .tmp .nil)) rfl rfl

def verbT : Nat → ByteArray
  | 1 => vInject
  | 2 => vPick
  | 3 => vDrop
  | 4 => vTick
  | 5 => vLinks
  | _ => ⟨#[]⟩
def kindI (w : ByteArray) : Int :=
  if (vInject == w) = true then 1 else if (vPick == w) = true then 2 else if (vDrop == w) = true then 3 else if (vTick == w) = true then 4 else if (vLinks == w) = true then 5 else 0

theorem kindS (w : ByteArray) : Sy.Spec Tryz.prog 66 [strSV w] [verbsO 900] (intSV (kindI w)) [verbsO 900] := contract Γ hm 100 F66 Tryz.ntmps66 rfl fun F hF => by
  have hres := kindI.eq_1 w
  generalize kindI w = res at *
  ((conv=>whnf);repeat((first|refine aF ?_|refine aT ?_);(first|refine rG Γ hm ?_|refine rD Γ hm (by kernel_rfl) ?_);conv=>whnf))
  refine stepOp (good_load_glob Γ.toTy 900 rfl rfl rfl rfl rfl) rfl rfl ?_
  ((first|refine rG Γ hm ?_|refine rD Γ hm (by kernel_rfl) ?_);(conv=>whnf);repeat((first|refine aF ?_|refine aT ?_);(first|refine rG Γ hm ?_|refine rD Γ hm (by kernel_rfl) ?_);conv=>whnf))
  refine G_countP 6 (fun j => ∀ i, 1 ≤ i → i < j → (verbT i == w) = false) (fun j => [(0, strSV w), (5, .agg verbsL), (6, intSV j)]) (fun _ => [verbsO 900]) [] (fun i h1 h2 => by omega)
    ⟨⟨rfl, rfl, rfl, rfl, rfl, rfl, trivial⟩, ⟨.inl rfl, rfl, trivial⟩, rfl, rfl⟩ ?_
  intro j hj hI
  have hcase : j = 0 ∨ j = 1 ∨ j = 2 ∨ j = 3 ∨ j = 4 ∨ j = 5 ∨ j = 6 := by omega
  rcases hcase with rfl | rfl | rfl | rfl | rfl | rfl | rfl
  · ((first|refine rG Γ hm ?_|refine rD Γ hm (by kernel_rfl) ?_);(conv=>whnf);repeat((first|refine aF ?_|refine aT ?_);(first|refine rG Γ hm ?_|refine rD Γ hm (by kernel_rfl) ?_);conv=>whnf))
    refine stepOp (good_index_arrV (k := .string) Γ.toTy rfl rfl rfl Tryz.underlying9 rfl rfl (by decide) (by decide) rfl) rfl rfl ?_
    ((first|refine rG Γ hm ?_|refine rD Γ hm (by kernel_rfl) ?_);(conv=>whnf);repeat((first|refine aF ?_|refine aT ?_);(first|refine rG Γ hm ?_|refine rD Γ hm (by kernel_rfl) ?_);conv=>whnf))
    (repeat (first | (refine ⟨fun h => False.elim (by first | (exact absurd h (by decide)) | (simp at h; done) | (simp at h; omega)), fun _ => ?_⟩; ((first|refine rG Γ hm ?_|refine rD Γ hm (by kernel_rfl) ?_);(conv=>whnf);repeat((first|refine aF ?_|refine aT ?_);(first|refine rG Γ hm ?_|refine rD Γ hm (by kernel_rfl) ?_);conv=>whnf))) | (refine ⟨fun _ => ?_, fun h => False.elim (by first | (exact absurd h (by decide)) | (simp at h; done) | (simp at h; omega))⟩; ((first|refine rG Γ hm ?_|refine rD Γ hm (by kernel_rfl) ?_);(conv=>whnf);repeat((first|refine aF ?_|refine aT ?_);(first|refine rG Γ hm ?_|refine rD Γ hm (by kernel_rfl) ?_);conv=>whnf)))))
    refine ⟨by unfold I64; omega, ?_⟩
    ((conv=>whnf);repeat((first|refine aF ?_|refine aT ?_);(first|refine rG Γ hm ?_|refine rD Γ hm (by kernel_rfl) ?_);conv=>whnf))
    exact G_nextP [] hI (by omega) (fun i h1 h2 => by omega) ⟨⟨rfl, rfl, rfl, rfl, rfl, rfl, trivial⟩, ⟨.inl rfl, rfl, trivial⟩, rfl, rfl⟩
  · ((first|refine rG Γ hm ?_|refine rD Γ hm (by kernel_rfl) ?_);(conv=>whnf);repeat((first|refine aF ?_|refine aT ?_);(first|refine rG Γ hm ?_|refine rD Γ hm (by kernel_rfl) ?_);conv=>whnf))
    refine stepOp (good_index_arrV (k := .string) Γ.toTy rfl rfl rfl Tryz.underlying9 rfl rfl (by decide) (by decide) rfl) rfl rfl ?_
    ((first|refine rG Γ hm ?_|refine rD Γ hm (by kernel_rfl) ?_);(conv=>whnf);repeat((first|refine aF ?_|refine aT ?_);(first|refine rG Γ hm ?_|refine rD Γ hm (by kernel_rfl) ?_);conv=>whnf))
    (repeat (first | (refine ⟨fun h => False.elim (by first | (exact absurd h (by decide)) | (simp at h; done) | (simp at h; omega)), fun _ => ?_⟩; ((first|refine rG Γ hm ?_|refine rD Γ hm (by kernel_rfl) ?_);(conv=>whnf);repeat((first|refine aF ?_|refine aT ?_);(first|refine rG Γ hm ?_|refine rD Γ hm (by kernel_rfl) ?_);conv=>whnf))) | (refine ⟨fun _ => ?_, fun h => False.elim (by first | (exact absurd h (by decide)) | (simp at h; done) | (simp at h; omega))⟩; ((first|refine rG Γ hm ?_|refine rD Γ hm (by kernel_rfl) ?_);(conv=>whnf);repeat((first|refine aF ?_|refine aT ?_);(first|refine rG Γ hm ?_|refine rD Γ hm (by kernel_rfl) ?_);conv=>whnf)))))
    cases he : (vInject == w)
    · refine ⟨fun h => absurd h (by simp), fun _ => ?_⟩
      ((first|refine rG Γ hm ?_|refine rD Γ hm (by kernel_rfl) ?_);(conv=>whnf);repeat((first|refine aF ?_|refine aT ?_);(first|refine rG Γ hm ?_|refine rD Γ hm (by kernel_rfl) ?_);conv=>whnf))
      refine ⟨by unfold I64; omega, ?_⟩
      ((conv=>whnf);repeat((first|refine aF ?_|refine aT ?_);(first|refine rG Γ hm ?_|refine rD Γ hm (by kernel_rfl) ?_);conv=>whnf))
      refine G_nextP [] hI (by omega) (fun i h1 h2 => ?_) ⟨⟨rfl, rfl, rfl, rfl, rfl, rfl, trivial⟩, ⟨.inl rfl, rfl, trivial⟩, rfl, rfl⟩
      by_cases hi : i = 1
      · subst hi; exact he
      · exact hI i h1 (by omega)
    · refine ⟨fun _ => ?_, fun h => absurd h (by simp)⟩
      rw [if_pos he] at hres
      subst hres
      ((first|refine rG Γ hm ?_|refine rD Γ hm (by kernel_rfl) ?_);(conv=>whnf);repeat((first|refine aF ?_|refine aT ?_);(first|refine rG Γ hm ?_|refine rD Γ hm (by kernel_rfl) ?_);conv=>whnf))
      exact done rfl (.cons .tmp .nil) [] [verbsO 900] (fun _ h => h) rfl rfl ⟨trivial, ⟨.inl rfl, rfl, trivial⟩, rfl, rfl⟩
  · ((first|refine rG Γ hm ?_|refine rD Γ hm (by kernel_rfl) ?_);(conv=>whnf);repeat((first|refine aF ?_|refine aT ?_);(first|refine rG Γ hm ?_|refine rD Γ hm (by kernel_rfl) ?_);conv=>whnf))
    refine stepOp (good_index_arrV (k := .string) Γ.toTy rfl rfl rfl Tryz.underlying9 rfl rfl (by decide) (by decide) rfl) rfl rfl ?_
    ((first|refine rG Γ hm ?_|refine rD Γ hm (by kernel_rfl) ?_);(conv=>whnf);repeat((first|refine aF ?_|refine aT ?_);(first|refine rG Γ hm ?_|refine rD Γ hm (by kernel_rfl) ?_);conv=>whnf))
    (repeat (first | (refine ⟨fun h => False.elim (by first | (exact absurd h (by decide)) | (simp at h; done) | (simp at h; omega)), fun _ => ?_⟩; ((first|refine rG Γ hm ?_|refine rD Γ hm (by kernel_rfl) ?_);(conv=>whnf);repeat((first|refine aF ?_|refine aT ?_);(first|refine rG Γ hm ?_|refine rD Γ hm (by kernel_rfl) ?_);conv=>whnf))) | (refine ⟨fun _ => ?_, fun h => False.elim (by first | (exact absurd h (by decide)) | (simp at h; done) | (simp at h; omega))⟩; ((first|refine rG Γ hm ?_|refine rD Γ hm (by kernel_rfl) ?_);(conv=>whnf);repeat((first|refine aF ?_|refine aT ?_);(first|refine rG Γ hm ?_|refine rD Γ hm (by kernel_rfl) ?_);conv=>whnf)))))
    cases he : (vPick == w)
    · refine ⟨fun h => absurd h (by simp), fun _ => ?_⟩
      ((first|refine rG Γ hm ?_|refine rD Γ hm (by kernel_rfl) ?_);(conv=>whnf);repeat((first|refine aF ?_|refine aT ?_);(first|refine rG Γ hm ?_|refine rD Γ hm (by kernel_rfl) ?_);conv=>whnf))
      refine ⟨by unfold I64; omega, ?_⟩
      ((conv=>whnf);repeat((first|refine aF ?_|refine aT ?_);(first|refine rG Γ hm ?_|refine rD Γ hm (by kernel_rfl) ?_);conv=>whnf))
      refine G_nextP [] hI (by omega) (fun i h1 h2 => ?_) ⟨⟨rfl, rfl, rfl, rfl, rfl, rfl, trivial⟩, ⟨.inl rfl, rfl, trivial⟩, rfl, rfl⟩
      by_cases hi : i = 2
      · subst hi; exact he
      · exact hI i h1 (by omega)
    · refine ⟨fun _ => ?_, fun h => absurd h (by simp)⟩
      rw [if_neg (by rw [show (vInject == w) = false from hI 1 (by decide) (by decide)]; simp)] at hres
      rw [if_pos he] at hres
      subst hres
      ((first|refine rG Γ hm ?_|refine rD Γ hm (by kernel_rfl) ?_);(conv=>whnf);repeat((first|refine aF ?_|refine aT ?_);(first|refine rG Γ hm ?_|refine rD Γ hm (by kernel_rfl) ?_);conv=>whnf))
      exact done rfl (.cons .tmp .nil) [] [verbsO 900] (fun _ h => h) rfl rfl ⟨trivial, ⟨.inl rfl, rfl, trivial⟩, rfl, rfl⟩
  · ((first|refine rG Γ hm ?_|refine rD Γ hm (by kernel_rfl) ?_);(conv=>whnf);repeat((first|refine aF ?_|refine aT ?_);(first|refine rG Γ hm ?_|refine rD Γ hm (by kernel_rfl) ?_);conv=>whnf))
    refine stepOp (good_index_arrV (k := .string) Γ.toTy rfl rfl rfl Tryz.underlying9 rfl rfl (by decide) (by decide) rfl) rfl rfl ?_
    ((first|refine rG Γ hm ?_|refine rD Γ hm (by kernel_rfl) ?_);(conv=>whnf);repeat((first|refine aF ?_|refine aT ?_);(first|refine rG Γ hm ?_|refine rD Γ hm (by kernel_rfl) ?_);conv=>whnf))
    (repeat (first | (refine ⟨fun h => False.elim (by first | (exact absurd h (by decide)) | (simp at h; done) | (simp at h; omega)), fun _ => ?_⟩; ((first|refine rG Γ hm ?_|refine rD Γ hm (by kernel_rfl) ?_);(conv=>whnf);repeat((first|refine aF ?_|refine aT ?_);(first|refine rG Γ hm ?_|refine rD Γ hm (by kernel_rfl) ?_);conv=>whnf))) | (refine ⟨fun _ => ?_, fun h => False.elim (by first | (exact absurd h (by decide)) | (simp at h; done) | (simp at h; omega))⟩; ((first|refine rG Γ hm ?_|refine rD Γ hm (by kernel_rfl) ?_);(conv=>whnf);repeat((first|refine aF ?_|refine aT ?_);(first|refine rG Γ hm ?_|refine rD Γ hm (by kernel_rfl) ?_);conv=>whnf)))))
    cases he : (vDrop == w)
    · refine ⟨fun h => absurd h (by simp), fun _ => ?_⟩
      ((first|refine rG Γ hm ?_|refine rD Γ hm (by kernel_rfl) ?_);(conv=>whnf);repeat((first|refine aF ?_|refine aT ?_);(first|refine rG Γ hm ?_|refine rD Γ hm (by kernel_rfl) ?_);conv=>whnf))
      refine ⟨by unfold I64; omega, ?_⟩
      ((conv=>whnf);repeat((first|refine aF ?_|refine aT ?_);(first|refine rG Γ hm ?_|refine rD Γ hm (by kernel_rfl) ?_);conv=>whnf))
      refine G_nextP [] hI (by omega) (fun i h1 h2 => ?_) ⟨⟨rfl, rfl, rfl, rfl, rfl, rfl, trivial⟩, ⟨.inl rfl, rfl, trivial⟩, rfl, rfl⟩
      by_cases hi : i = 3
      · subst hi; exact he
      · exact hI i h1 (by omega)
    · refine ⟨fun _ => ?_, fun h => absurd h (by simp)⟩
      rw [if_neg (by rw [show (vInject == w) = false from hI 1 (by decide) (by decide)]; simp)] at hres
      rw [if_neg (by rw [show (vPick == w) = false from hI 2 (by decide) (by decide)]; simp)] at hres
      rw [if_pos he] at hres
      subst hres
      ((first|refine rG Γ hm ?_|refine rD Γ hm (by kernel_rfl) ?_);(conv=>whnf);repeat((first|refine aF ?_|refine aT ?_);(first|refine rG Γ hm ?_|refine rD Γ hm (by kernel_rfl) ?_);conv=>whnf))
      exact done rfl (.cons .tmp .nil) [] [verbsO 900] (fun _ h => h) rfl rfl ⟨trivial, ⟨.inl rfl, rfl, trivial⟩, rfl, rfl⟩
  · ((first|refine rG Γ hm ?_|refine rD Γ hm (by kernel_rfl) ?_);(conv=>whnf);repeat((first|refine aF ?_|refine aT ?_);(first|refine rG Γ hm ?_|refine rD Γ hm (by kernel_rfl) ?_);conv=>whnf))
    refine stepOp (good_index_arrV (k := .string) Γ.toTy rfl rfl rfl Tryz.underlying9 rfl rfl (by decide) (by decide) rfl) rfl rfl ?_
    ((first|refine rG Γ hm ?_|refine rD Γ hm (by kernel_rfl) ?_);(conv=>whnf);repeat((first|refine aF ?_|refine aT ?_);(first|refine rG Γ hm ?_|refine rD Γ hm (by kernel_rfl) ?_);conv=>whnf))
    (repeat (first | (refine ⟨fun h => False.elim (by first | (exact absurd h (by decide)) | (simp at h; done) | (simp at h; omega)), fun _ => ?_⟩; ((first|refine rG Γ hm ?_|refine rD Γ hm (by kernel_rfl) ?_);(conv=>whnf);repeat((first|refine aF ?_|refine aT ?_);(first|refine rG Γ hm ?_|refine rD Γ hm (by kernel_rfl) ?_);conv=>whnf))) | (refine ⟨fun _ => ?_, fun h => False.elim (by first | (exact absurd h (by decide)) | (simp at h; done) | (simp at h; omega))⟩; ((first|refine rG Γ hm ?_|refine rD Γ hm (by kernel_rfl) ?_);(conv=>whnf);repeat((first|refine aF ?_|refine aT ?_);(first|refine rG Γ hm ?_|refine rD Γ hm (by kernel_rfl) ?_);conv=>whnf)))))
    cases he : (vTick == w)
    · refine ⟨fun h => absurd h (by simp), fun _ => ?_⟩
      ((first|refine rG Γ hm ?_|refine rD Γ hm (by kernel_rfl) ?_);(conv=>whnf);repeat((first|refine aF ?_|refine aT ?_);(first|refine rG Γ hm ?_|refine rD Γ hm (by kernel_rfl) ?_);conv=>whnf))
      refine ⟨by unfold I64; omega, ?_⟩
      ((conv=>whnf);repeat((first|refine aF ?_|refine aT ?_);(first|refine rG Γ hm ?_|refine rD Γ hm (by kernel_rfl) ?_);conv=>whnf))
      refine G_nextP [] hI (by omega) (fun i h1 h2 => ?_) ⟨⟨rfl, rfl, rfl, rfl, rfl, rfl, trivial⟩, ⟨.inl rfl, rfl, trivial⟩, rfl, rfl⟩
      by_cases hi : i = 4
      · subst hi; exact he
      · exact hI i h1 (by omega)
    · refine ⟨fun _ => ?_, fun h => absurd h (by simp)⟩
      rw [if_neg (by rw [show (vInject == w) = false from hI 1 (by decide) (by decide)]; simp)] at hres
      rw [if_neg (by rw [show (vPick == w) = false from hI 2 (by decide) (by decide)]; simp)] at hres
      rw [if_neg (by rw [show (vDrop == w) = false from hI 3 (by decide) (by decide)]; simp)] at hres
      rw [if_pos he] at hres
      subst hres
      ((first|refine rG Γ hm ?_|refine rD Γ hm (by kernel_rfl) ?_);(conv=>whnf);repeat((first|refine aF ?_|refine aT ?_);(first|refine rG Γ hm ?_|refine rD Γ hm (by kernel_rfl) ?_);conv=>whnf))
      exact done rfl (.cons .tmp .nil) [] [verbsO 900] (fun _ h => h) rfl rfl ⟨trivial, ⟨.inl rfl, rfl, trivial⟩, rfl, rfl⟩
  · ((first|refine rG Γ hm ?_|refine rD Γ hm (by kernel_rfl) ?_);(conv=>whnf);repeat((first|refine aF ?_|refine aT ?_);(first|refine rG Γ hm ?_|refine rD Γ hm (by kernel_rfl) ?_);conv=>whnf))
    refine stepOp (good_index_arrV (k := .string) Γ.toTy rfl rfl rfl Tryz.underlying9 rfl rfl (by decide) (by decide) rfl) rfl rfl ?_
    ((first|refine rG Γ hm ?_|refine rD Γ hm (by kernel_rfl) ?_);(conv=>whnf);repeat((first|refine aF ?_|refine aT ?_);(first|refine rG Γ hm ?_|refine rD Γ hm (by kernel_rfl) ?_);conv=>whnf))
    (repeat (first | (refine ⟨fun h => False.elim (by first | (exact absurd h (by decide)) | (simp at h; done) | (simp at h; omega)), fun _ => ?_⟩; ((first|refine rG Γ hm ?_|refine rD Γ hm (by kernel_rfl) ?_);(conv=>whnf);repeat((first|refine aF ?_|refine aT ?_);(first|refine rG Γ hm ?_|refine rD Γ hm (by kernel_rfl) ?_);conv=>whnf))) | (refine ⟨fun _ => ?_, fun h => False.elim (by first | (exact absurd h (by decide)) | (simp at h; done) | (simp at h; omega))⟩; ((first|refine rG Γ hm ?_|refine rD Γ hm (by kernel_rfl) ?_);(conv=>whnf);repeat((first|refine aF ?_|refine aT ?_);(first|refine rG Γ hm ?_|refine rD Γ hm (by kernel_rfl) ?_);conv=>whnf)))))
    cases he : (vLinks == w)
    · refine ⟨fun h => absurd h (by simp), fun _ => ?_⟩
      ((first|refine rG Γ hm ?_|refine rD Γ hm (by kernel_rfl) ?_);(conv=>whnf);repeat((first|refine aF ?_|refine aT ?_);(first|refine rG Γ hm ?_|refine rD Γ hm (by kernel_rfl) ?_);conv=>whnf))
      refine ⟨by unfold I64; omega, ?_⟩
      ((conv=>whnf);repeat((first|refine aF ?_|refine aT ?_);(first|refine rG Γ hm ?_|refine rD Γ hm (by kernel_rfl) ?_);conv=>whnf))
      refine G_nextP [] hI (by omega) (fun i h1 h2 => ?_) ⟨⟨rfl, rfl, rfl, rfl, rfl, rfl, trivial⟩, ⟨.inl rfl, rfl, trivial⟩, rfl, rfl⟩
      by_cases hi : i = 5
      · subst hi; exact he
      · exact hI i h1 (by omega)
    · refine ⟨fun _ => ?_, fun h => absurd h (by simp)⟩
      rw [if_neg (by rw [show (vInject == w) = false from hI 1 (by decide) (by decide)]; simp)] at hres
      rw [if_neg (by rw [show (vPick == w) = false from hI 2 (by decide) (by decide)]; simp)] at hres
      rw [if_neg (by rw [show (vDrop == w) = false from hI 3 (by decide) (by decide)]; simp)] at hres
      rw [if_neg (by rw [show (vTick == w) = false from hI 4 (by decide) (by decide)]; simp)] at hres
      rw [if_pos he] at hres
      subst hres
      ((first|refine rG Γ hm ?_|refine rD Γ hm (by kernel_rfl) ?_);(conv=>whnf);repeat((first|refine aF ?_|refine aT ?_);(first|refine rG Γ hm ?_|refine rD Γ hm (by kernel_rfl) ?_);conv=>whnf))
      exact done rfl (.cons .tmp .nil) [] [verbsO 900] (fun _ h => h) rfl rfl ⟨trivial, ⟨.inl rfl, rfl, trivial⟩, rfl, rfl⟩
  · rw [if_neg (by rw [show (vInject == w) = false from hI 1 (by decide) (by decide)]; simp), if_neg (by rw [show (vPick == w) = false from hI 2 (by decide) (by decide)]; simp), if_neg (by rw [show (vDrop == w) = false from hI 3 (by decide) (by decide)]; simp),
      if_neg (by rw [show (vTick == w) = false from hI 4 (by decide) (by decide)]; simp), if_neg (by rw [show (vLinks == w) = false from hI 5 (by decide) (by decide)]; simp)] at hres
    subst hres
    ((first|refine rG Γ hm ?_|refine rD Γ hm (by kernel_rfl) ?_);(conv=>whnf);repeat((first|refine aF ?_|refine aT ?_);(first|refine rG Γ hm ?_|refine rD Γ hm (by kernel_rfl) ?_);conv=>whnf))
    exact done rfl (.cons .tmp .nil) [] [verbsO 900] (fun _ h => h) rfl rfl ⟨trivial, ⟨.inl rfl, rfl, trivial⟩, rfl, rfl⟩

def portP (n : Net) (w : ByteArray) (p : Port) : Bool := ((nth n.devices p.dev).name ++ ⟨#[46]⟩ ++ p.name) == w

theorem stepPortC (n : Net) (hnm : Named n) (W : List ByteArray) (hW : 1 < W.length) (p : Port) (hp : p ∈ n.ports) (hd : 0 ≤ p.dev ∧ p.dev.toNat < n.devices.length) :
    Sy.Spec Tryz.prog 68 [portSV p, .ref 8 (netSV n) 0, .ref 1 (.sl 1 strSV W) 0] [] (boolSV (portP n (nth W 1) p)) [] := contract Γ hm 100 F68 Tryz.ntmps68 rfl fun F hF => by
  have hpn := hnm.2 _ hp
  have hdn := hnm.1 _ (List.getElem_mem hd.2)
  have hW0 : (1 : Int).toNat < W.length := hW
  rw [portP, nth_eq hd.2, nth_eq hW0]
  obtain ⟨d, hdd⟩ : ∃ d, n.devices[p.dev.toNat]'hd.2 = d := ⟨_, rfl⟩
  rw [hdd] at hdn ⊢
  have z1 := size_app d.name ⟨#[46]⟩
  have c46 : (⟨#[46]⟩ : ByteArray).size = 1 := rfl
  ((conv=>whnf);repeat((first|refine aF ?_|refine aT ?_);(first|refine rG Γ hm ?_|refine rD Γ hm (by kernel_rfl) ?_);conv=>whnf))
  refine ⟨rfl, hd.1, hd.2, ?_⟩
  rw [hdd]
  ((conv=>whnf);repeat((first|refine aF ?_|refine aT ?_);(first|refine rG Γ hm ?_|refine rD Γ hm (by kernel_rfl) ?_);conv=>whnf))
  refine ⟨by show _ + 1 ≤ _; omega, ?_⟩
  ((conv=>whnf);repeat((first|refine aF ?_|refine aT ?_);(first|refine rG Γ hm ?_|refine rD Γ hm (by kernel_rfl) ?_);conv=>whnf))
  refine ⟨by omega, ?_⟩
  ((conv=>whnf);repeat((first|refine aF ?_|refine aT ?_);(first|refine rG Γ hm ?_|refine rD Γ hm (by kernel_rfl) ?_);conv=>whnf))
  refine ⟨rfl, by decide, hW0, ?_⟩
  ((conv=>whnf);repeat((first|refine aF ?_|refine aT ?_);(first|refine rG Γ hm ?_|refine rD Γ hm (by kernel_rfl) ?_);conv=>whnf))
  refine ⟨(by kernel_rfl), ?_⟩
  ((conv=>whnf);repeat((first|refine aF ?_|refine aT ?_);(first|refine rG Γ hm ?_|refine rD Γ hm (by kernel_rfl) ?_);conv=>whnf))
  exact done0 rfl (.cons .tmp .nil) rfl rfl

end Go.Sy.YtjomehmhkcnadaaGreatDoor

namespace Go.Sy.YtjomehmhkcnadaaGreatDoor
open Go.Proofs

attribute [local irreducible] Go.Sy.G Go.Sy.DR
set_option maxRecDepth 100000
set_option maxHeartbeats 4000000

abbrev manyO (k : Nat) : Nat × Ob := (k, .glob 6 (.agg [intSV 0, intSV 3, intSV 3, intSV 3, intSV 1, intSV 2]) 1)
def zeroStep : StepM := ⟨0, 0, 0, 0, [], []⟩
def manyN (k : Int) : Int := if k = 4 then 1 else if k = 5 then 2 else 3
def findD (n : Net) (w : ByteArray) : Nat := (List.range n.domains.length).findIdx (fun i : Nat => domT n (i : Int) == w)

def stepT (n : Net) (s : ByteArray) : StepM × Int :=
  if kindI (nth (splitT 32 s) 0) = 0 then (zeroStep, 22)
  else if ((splitT 32 s).length : Int) ≠ manyN (kindI (nth (splitT 32 s) 0)) then (zeroStep, 22)
  else if kindI (nth (splitT 32 s) 0) = 1 then
    if idxI (portP n (nth (splitT 32 s) 1)) n.ports < 0 then (zeroStep, 31)
    else if (readBR (nth (splitT 32 s) 2)).2 = false then (zeroStep, 21)
    else (⟨1, idxI (portP n (nth (splitT 32 s) 1)) n.ports, 0, 0, (readBR (nth (splitT 32 s) 2)).1, []⟩, 0)
  else if kindI (nth (splitT 32 s) 0) = 2 ∨ kindI (nth (splitT 32 s) 0) = 3 then
    if findD n (nth (splitT 32 s) 1) = n.domains.length then (zeroStep, 31)
    else if (numR (nth (splitT 32 s) 2) 0 999999999).2 = false then (zeroStep, 21)
    else (⟨kindI (nth (splitT 32 s) 0), 0, findD n (nth (splitT 32 s) 1), (numR (nth (splitT 32 s) 2) 0 999999999).1, [], []⟩, 0)
  else if kindI (nth (splitT 32 s) 0) = 4 then (⟨4, 0, 0, 0, [], []⟩, 0)
  else if okTr n.links.length (nth (splitT 32 s) 1) = false then (zeroStep, 21)
  else (⟨5, 0, 0, 0, [], upL (nth (splitT 32 s) 1)⟩, 0)

theorem kindI_cases (w : ByteArray) : (kindI w = 0 ∧ (vInject == w) = false ∧ (vPick == w) = false ∧ (vDrop == w) = false ∧ (vTick == w) = false ∧ (vLinks == w) = false) ∨ (kindI w = 1 ∧ w = vInject) ∨ (kindI w = 2 ∧ w = vPick) ∨ (kindI w = 3 ∧ w = vDrop) ∨ (kindI w = 4 ∧ w = vTick) ∨ (kindI w = 5 ∧ w = vLinks) := by
  unfold kindI
  split
  · rename_i h; exact .inr (.inl ⟨rfl, ((beq_ba _ _).1 h).symm⟩)
  split
  · rename_i h; exact .inr (.inr (.inl ⟨rfl, ((beq_ba _ _).1 h).symm⟩))
  split
  · rename_i h; exact .inr (.inr (.inr (.inl ⟨rfl, ((beq_ba _ _).1 h).symm⟩)))
  split
  · rename_i h; exact .inr (.inr (.inr (.inr (.inl ⟨rfl, ((beq_ba _ _).1 h).symm⟩))))
  split
  · rename_i h; exact .inr (.inr (.inr (.inr (.inr ⟨rfl, ((beq_ba _ _).1 h).symm⟩))))
  · rename_i h1 h2 h3 h4 h5
    exact .inl ⟨rfl, by simpa using h1, by simpa using h2, by simpa using h3, by simpa using h4, by simpa using h5⟩

theorem findD_none {n : Net} {w : ByteArray} (h : ∀ i, i < n.domains.length → (domT n (i : Int) == w) = false) : findD n w = n.domains.length := by
  have : (List.range n.domains.length).findIdx (fun i : Nat => domT n (i : Int) == w) = (List.range n.domains.length).length := by
    rw [List.findIdx_eq_length]
    intro x hx
    have := h x (by simpa using hx)
    simpa using this
  rw [findD, this, List.length_range]
theorem findD_some {n : Net} {w : ByteArray} {j : Nat} (hj : j < n.domains.length) (h : ∀ i, i < j → (domT n (i : Int) == w) = false) (h2 : (domT n (j : Int) == w) = true) : findD n w = j := by
  rw [findD, List.findIdx_eq (by rw [List.length_range]; exact hj)]
  refine ⟨by simpa using h2, fun i hi => by simpa using h i hi⟩

theorem cntT_le (c : UInt8) (s : ByteArray) : cntT c s ≤ s.size := List.count_le_length

theorem pieceL_le (c : UInt8) (l : List UInt8) (j : Nat) : (pieceL c l j).length ≤ l.length := by
  rw [pieceL, List.length_take]
  have := restL_le c l j
  omega
theorem splitT_sizes (c : UInt8) (s : ByteArray) : ∀ w ∈ splitT c s, w.size ≤ s.size := by
  intro w hw
  rw [splitT, List.mem_append, List.mem_map, List.mem_singleton] at hw
  rcases hw with ⟨j, _, rfl⟩ | rfl
  · rw [mkT_size]; exact pieceL_le _ _ _
  · rw [mkT_size]; exact restL_le _ _ _

theorem siteStepS (n : Net) (hn : n.Fin) (hb : netRightB n = true) (hnm : Named n) (s : ByteArray) (hs : s.size < 100000) :
    Sy.Spec Tryz.prog 23 [netSV n, strSV s] [verbsO 900, manyO 901] (.tup [stepSV (stepT n s).1, intSV (stepT n s).2]) [verbsO 900, manyO 901] := contract Γ hm 100 F23 Tryz.ntmps23 rfl fun F hF => by
  have hres := stepT.eq_1 n s
  generalize stepT n s = res at *
  have q0 := splitS s 32 hs
  have hWl := splitT_length 32 s
  have hWs := splitT_sizes 32 s
  have hcl := cntT_le 32 s
  have hsn := hn.ports
  unfold Short at hsn
  have hfw := e_few hb
  generalize splitT 32 s = W at *
  have h00 : (0 : Int).toNat < W.length := by show 0 < _; omega
  have hw0 : nth W 0 = W[(0 : Int).toNat] := nth_eq h00
  obtain ⟨w0, hw0'⟩ : ∃ w0, W[(0 : Int).toNat]'h00 = w0 := ⟨_, rfl⟩
  rw [hw0, hw0'] at hres
  have q1 := kindS w0
  have hkc := kindI_cases w0
  obtain ⟨kd, hkd⟩ : ∃ kd, kindI w0 = kd := ⟨_, rfl⟩
  rw [hkd] at hres q1 hkc
  ((conv=>whnf);repeat((first|refine aF ?_|refine aT ?_);(first|refine rG Γ hm ?_|refine rD Γ hm (by kernel_rfl) ?_);conv=>whnf))
  refine call0 q0 F65 rfl rfl rfl rfl rfl ?_
  ((first|refine rG Γ hm ?_|refine rD Γ hm (by kernel_rfl) ?_);(conv=>whnf);repeat((first|refine aF ?_|refine aT ?_);(first|refine rG Γ hm ?_|refine rD Γ hm (by kernel_rfl) ?_);conv=>whnf))
  refine ⟨rfl, by decide, h00, ?_⟩
  rw [hw0']
  ((conv=>whnf);repeat((first|refine aF ?_|refine aT ?_);(first|refine rG Γ hm ?_|refine rD Γ hm (by kernel_rfl) ?_);conv=>whnf))
  refine stepOp (good_call [(900, 900)] rfl F66 q1 rfl ⟨rfl, trivial⟩ rfl ⟨.inl rfl, trivial⟩) rfl rfl ?_
  refine G_box 2 8 (netSV n) rfl rfl rfl ?_
  refine G_box 6 1 (.sl 1 strSV W) rfl rfl rfl ?_
  rcases hkc with ⟨rfl, _⟩ | ⟨rfl, _⟩ | ⟨rfl, _⟩ | ⟨rfl, _⟩ | ⟨rfl, _⟩ | ⟨rfl, _⟩
  · rw [if_pos rfl] at hres
    subst hres
    ((first|refine rG Γ hm ?_|refine rD Γ hm (by kernel_rfl) ?_);(conv=>whnf);repeat((first|refine aF ?_|refine aT ?_);(first|refine rG Γ hm ?_|refine rD Γ hm (by kernel_rfl) ?_);conv=>whnf))
    (repeat (first | (refine ⟨fun h => False.elim (by first | (exact absurd h (by decide)) | (simp at h; done) | (simp at h; omega)), fun _ => ?_⟩; ((first|refine rG Γ hm ?_|refine rD Γ hm (by kernel_rfl) ?_);(conv=>whnf);repeat((first|refine aF ?_|refine aT ?_);(first|refine rG Γ hm ?_|refine rD Γ hm (by kernel_rfl) ?_);conv=>whnf))) | (refine ⟨fun _ => ?_, fun h => False.elim (by first | (exact absurd h (by decide)) | (simp at h; done) | (simp at h; omega))⟩; ((first|refine rG Γ hm ?_|refine rD Γ hm (by kernel_rfl) ?_);(conv=>whnf);repeat((first|refine aF ?_|refine aT ?_);(first|refine rG Γ hm ?_|refine rD Γ hm (by kernel_rfl) ?_);conv=>whnf)))))
    refine ⟨(by kernel_rfl), ?_⟩
    ((conv=>whnf);repeat((first|refine aF ?_|refine aT ?_);(first|refine rG Γ hm ?_|refine rD Γ hm (by kernel_rfl) ?_);conv=>whnf))
    refine G_boxV 4 [intSV 0, intSV 0, intSV 0, intSV 0, .sl 1 byteSV [], .sl 1 boolSV []] rfl (.cons (.refl _) (.cons (.refl _) (.cons (.refl _) (.cons (.refl _) (.cons .nil (.cons .nil .nil)))))) ?_
    exact done rfl (.cons (.cell rfl rfl rfl rfl) (.cons .tmp .nil)) [] [verbsO 900, manyO 901] (fun _ h => h) rfl rfl ⟨trivial, ⟨.inl rfl, rfl, .inl rfl, rfl, trivial⟩, rfl, rfl⟩
  · rw [if_neg (by decide)] at hres
    ((first|refine rG Γ hm ?_|refine rD Γ hm (by kernel_rfl) ?_);(conv=>whnf);repeat((first|refine aF ?_|refine aT ?_);(first|refine rG Γ hm ?_|refine rD Γ hm (by kernel_rfl) ?_);conv=>whnf))
    (repeat (first | (refine ⟨fun h => False.elim (by first | (exact absurd h (by decide)) | (simp at h; done) | (simp at h; omega)), fun _ => ?_⟩; ((first|refine rG Γ hm ?_|refine rD Γ hm (by kernel_rfl) ?_);(conv=>whnf);repeat((first|refine aF ?_|refine aT ?_);(first|refine rG Γ hm ?_|refine rD Γ hm (by kernel_rfl) ?_);conv=>whnf))) | (refine ⟨fun _ => ?_, fun h => False.elim (by first | (exact absurd h (by decide)) | (simp at h; done) | (simp at h; omega))⟩; ((first|refine rG Γ hm ?_|refine rD Γ hm (by kernel_rfl) ?_);(conv=>whnf);repeat((first|refine aF ?_|refine aT ?_);(first|refine rG Γ hm ?_|refine rD Γ hm (by kernel_rfl) ?_);conv=>whnf)))))
    refine stepDX (GoodX.glob Γ.toTy 901 rfl rfl rfl rfl rfl (by decide) (by decide)) rfl (by kernel_rfl) ?_
    ((first|refine rG Γ hm ?_|refine rD Γ hm (by kernel_rfl) ?_);(conv=>whnf);repeat((first|refine aF ?_|refine aT ?_);(first|refine rG Γ hm ?_|refine rD Γ hm (by kernel_rfl) ?_);conv=>whnf))
    refine ⟨(by kernel_rfl), ?_⟩
    ((conv=>whnf);repeat((first|refine aF ?_|refine aT ?_);(first|refine rG Γ hm ?_|refine rD Γ hm (by kernel_rfl) ?_);conv=>whnf))
    refine ⟨fun h => ?_, fun h => ?_⟩
    · have hne : (W.length : Int) ≠ 3 := by simpa using h
      rw [if_pos (by exact hne)] at hres
      subst hres
      ((first|refine rG Γ hm ?_|refine rD Γ hm (by kernel_rfl) ?_);(conv=>whnf);repeat((first|refine aF ?_|refine aT ?_);(first|refine rG Γ hm ?_|refine rD Γ hm (by kernel_rfl) ?_);conv=>whnf))
      refine G_boxV 4 [intSV 0, intSV 0, intSV 0, intSV 0, .sl 1 byteSV [], .sl 1 boolSV []] rfl (.cons (.refl _) (.cons (.refl _) (.cons (.refl _) (.cons (.refl _) (.cons .nil (.cons .nil .nil)))))) ?_
      exact done rfl (.cons (.cell rfl rfl rfl rfl) (.cons .tmp .nil)) [] [verbsO 900, manyO 901] (fun _ h => h) rfl rfl ⟨trivial, ⟨.inl rfl, rfl, .inl rfl, rfl, trivial⟩, rfl, rfl⟩
    have hle : (W.length : Int) = 3 := by simpa using h
    rw [if_neg (by rw [hle]; simp [manyN])] at hres
    rw [if_pos rfl] at hres
    have h01 : (1 : Int).toNat < W.length := by show 1 < _; omega
    have h02 : (2 : Int).toNat < W.length := by show 2 < _; omega
    have hw2 : nth W 2 = W[(2 : Int).toNat] := nth_eq h02
    have qf : ∀ p ∈ n.ports, FunS Tryz.prog 68 ([] ++ [portSV p] ++ [.ref 8 (netSV n) 0, .ref 1 (.sl 1 strSV W) 0]) (boolSV (portP n (nth W 1) p)) := fun p hp => ⟨⟨_, _, F68⟩, by
      obtain ⟨i, hi, rfl⟩ := List.mem_iff_getElem.1 hp
      exact stepPortC n hnm W h01 _ (List.getElem_mem hi) (e_port_dev hb hi)⟩
    have q2 := indexFuncS_Port n.ports (portP n (nth W 1)) 68 [] [.ref 8 (netSV n) 0, .ref 1 (.sl 1 strSV W) 0] rfl qf hn.ports
    have hig := idxI_ge (portP n (nth W 1)) n.ports
    have hil := idxI_lt (portP n (nth W 1)) n.ports
    have hz2 := hWs _ (List.getElem_mem h02)
    rw [hw2] at hres
    have q3 := machineReadBytesS (W[(2 : Int).toNat]'h02) (by omega)
    have hbe := readB_eq (W[(2 : Int).toNat]'h02)
    generalize idxI (portP n (nth W 1)) n.ports = pi at *
    ((first|refine rG Γ hm ?_|refine rD Γ hm (by kernel_rfl) ?_);(conv=>whnf);repeat((first|refine aF ?_|refine aT ?_);(first|refine rG Γ hm ?_|refine rD Γ hm (by kernel_rfl) ?_);conv=>whnf))
    refine call0 q2 F67 rfl rfl rfl rfl rfl ?_
    ((first|refine rG Γ hm ?_|refine rD Γ hm (by kernel_rfl) ?_);(conv=>whnf);repeat((first|refine aF ?_|refine aT ?_);(first|refine rG Γ hm ?_|refine rD Γ hm (by kernel_rfl) ?_);conv=>whnf))
    refine ⟨fun h => ?_, fun h => ?_⟩
    · rw [if_pos (of_decide_eq_true h)] at hres
      subst hres
      ((first|refine rG Γ hm ?_|refine rD Γ hm (by kernel_rfl) ?_);(conv=>whnf);repeat((first|refine aF ?_|refine aT ?_);(first|refine rG Γ hm ?_|refine rD Γ hm (by kernel_rfl) ?_);conv=>whnf))
      refine G_boxV 4 [intSV 0, intSV 0, intSV 0, intSV 0, .sl 1 byteSV [], .sl 1 boolSV []] rfl (.cons (.refl _) (.cons (.refl _) (.cons (.refl _) (.cons (.refl _) (.cons .nil (.cons .nil .nil)))))) ?_
      exact done rfl (.cons (.cell rfl rfl rfl rfl) (.cons .tmp .nil)) [] [verbsO 900, manyO 901] (fun _ h => h) rfl rfl ⟨trivial, ⟨.inl rfl, rfl, .inl rfl, rfl, trivial⟩, rfl, rfl⟩
    rw [if_neg (of_decide_eq_false h)] at hres
    ((first|refine rG Γ hm ?_|refine rD Γ hm (by kernel_rfl) ?_);(conv=>whnf);repeat((first|refine aF ?_|refine aT ?_);(first|refine rG Γ hm ?_|refine rD Γ hm (by kernel_rfl) ?_);conv=>whnf))
    refine ⟨rfl, by decide, h02, ?_⟩
    ((conv=>whnf);repeat((first|refine aF ?_|refine aT ?_);(first|refine rG Γ hm ?_|refine rD Γ hm (by kernel_rfl) ?_);conv=>whnf))
    refine call0 q3 F69 rfl rfl rfl rfl rfl ?_
    rw [hbe.1]
    cases hok : (readBR (W[(2 : Int).toNat]'h02)).2
    · rw [hok, if_pos rfl] at hres
      subst hres
      ((first|refine rG Γ hm ?_|refine rD Γ hm (by kernel_rfl) ?_);(conv=>whnf);repeat((first|refine aF ?_|refine aT ?_);(first|refine rG Γ hm ?_|refine rD Γ hm (by kernel_rfl) ?_);conv=>whnf))
      refine G_boxV 4 [intSV 0, intSV 0, intSV 0, intSV 0, .sl 1 byteSV [], .sl 1 boolSV []] rfl (.cons (.refl _) (.cons (.refl _) (.cons (.refl _) (.cons (.refl _) (.cons .nil (.cons .nil .nil)))))) ?_
      exact done rfl (.cons (.cell rfl rfl rfl rfl) (.cons .tmp .nil)) [] [verbsO 900, manyO 901] (fun _ h => h) rfl rfl ⟨trivial, ⟨.inl rfl, rfl, .inl rfl, rfl, trivial⟩, rfl, rfl⟩
    · rw [hok, if_neg (by simp)] at hres
      rw [hbe.2 hok]
      subst hres
      ((first|refine rG Γ hm ?_|refine rD Γ hm (by kernel_rfl) ?_);(conv=>whnf);repeat((first|refine aF ?_|refine aT ?_);(first|refine rG Γ hm ?_|refine rD Γ hm (by kernel_rfl) ?_);conv=>whnf))
      refine G_boxV 4 [intSV 1, intSV pi, intSV 0, intSV 0, .sl 1 byteSV (readBR (W[(2 : Int).toNat]'h02)).1, .sl 1 boolSV []] rfl (.cons (.refl _) (.cons (.refl _) (.cons (.refl _) (.cons (.refl _) (.cons (.refl _) (.cons .nil .nil)))))) ?_
      exact done rfl (.cons (.cell rfl rfl rfl rfl) (.cons .tmp .nil)) [] [verbsO 900, manyO 901] (fun _ h => h) rfl rfl ⟨trivial, ⟨.inl rfl, rfl, .inl rfl, rfl, trivial⟩, rfl, rfl⟩
  · rw [if_neg (by decide)] at hres
    ((first|refine rG Γ hm ?_|refine rD Γ hm (by kernel_rfl) ?_);(conv=>whnf);repeat((first|refine aF ?_|refine aT ?_);(first|refine rG Γ hm ?_|refine rD Γ hm (by kernel_rfl) ?_);conv=>whnf))
    (repeat (first | (refine ⟨fun h => False.elim (by first | (exact absurd h (by decide)) | (simp at h; done) | (simp at h; omega)), fun _ => ?_⟩; ((first|refine rG Γ hm ?_|refine rD Γ hm (by kernel_rfl) ?_);(conv=>whnf);repeat((first|refine aF ?_|refine aT ?_);(first|refine rG Γ hm ?_|refine rD Γ hm (by kernel_rfl) ?_);conv=>whnf))) | (refine ⟨fun _ => ?_, fun h => False.elim (by first | (exact absurd h (by decide)) | (simp at h; done) | (simp at h; omega))⟩; ((first|refine rG Γ hm ?_|refine rD Γ hm (by kernel_rfl) ?_);(conv=>whnf);repeat((first|refine aF ?_|refine aT ?_);(first|refine rG Γ hm ?_|refine rD Γ hm (by kernel_rfl) ?_);conv=>whnf)))))
    refine stepDX (GoodX.glob Γ.toTy 901 rfl rfl rfl rfl rfl (by decide) (by decide)) rfl (by kernel_rfl) ?_
    ((first|refine rG Γ hm ?_|refine rD Γ hm (by kernel_rfl) ?_);(conv=>whnf);repeat((first|refine aF ?_|refine aT ?_);(first|refine rG Γ hm ?_|refine rD Γ hm (by kernel_rfl) ?_);conv=>whnf))
    refine ⟨(by kernel_rfl), ?_⟩
    ((conv=>whnf);repeat((first|refine aF ?_|refine aT ?_);(first|refine rG Γ hm ?_|refine rD Γ hm (by kernel_rfl) ?_);conv=>whnf))
    refine ⟨fun h => ?_, fun h => ?_⟩
    · have hne : (W.length : Int) ≠ 3 := by simpa using h
      rw [if_pos (by exact hne)] at hres
      subst hres
      ((first|refine rG Γ hm ?_|refine rD Γ hm (by kernel_rfl) ?_);(conv=>whnf);repeat((first|refine aF ?_|refine aT ?_);(first|refine rG Γ hm ?_|refine rD Γ hm (by kernel_rfl) ?_);conv=>whnf))
      refine G_boxV 4 [intSV 0, intSV 0, intSV 0, intSV 0, .sl 1 byteSV [], .sl 1 boolSV []] rfl (.cons (.refl _) (.cons (.refl _) (.cons (.refl _) (.cons (.refl _) (.cons .nil (.cons .nil .nil)))))) ?_
      exact done rfl (.cons (.cell rfl rfl rfl rfl) (.cons .tmp .nil)) [] [verbsO 900, manyO 901] (fun _ h => h) rfl rfl ⟨trivial, ⟨.inl rfl, rfl, .inl rfl, rfl, trivial⟩, rfl, rfl⟩
    have hle : (W.length : Int) = 3 := by simpa using h
    rw [if_neg (by rw [hle]; simp [manyN])] at hres
    rw [if_neg (by decide), if_pos (by decide)] at hres
    have h01 : (1 : Int).toNat < W.length := by show 1 < _; omega
    have h02 : (2 : Int).toNat < W.length := by show 2 < _; omega
    have hw1 : nth W 1 = W[(1 : Int).toNat] := nth_eq h01
    have hw2 : nth W 2 = W[(2 : Int).toNat] := nth_eq h02
    have hz2 := hWs _ (List.getElem_mem h02)
    rw [hw1, hw2] at hres
    have q3 := numReadS (W[(2 : Int).toNat]'h02) 0 999999999
    obtain ⟨w1, hw1'⟩ : ∃ w1, W[(1 : Int).toNat]'h01 = w1 := ⟨_, rfl⟩
    rw [hw1'] at hres
    ((first|refine rG Γ hm ?_|refine rD Γ hm (by kernel_rfl) ?_);(conv=>whnf);repeat((first|refine aF ?_|refine aT ?_);(first|refine rG Γ hm ?_|refine rD Γ hm (by kernel_rfl) ?_);conv=>whnf))
    refine G_countP n.domains.length (fun j => ∀ i, i < j → (domT n (i : Int) == w1) = false) (fun j => [(2, .ref 8 (netSV n) 0), (4, .ptr 4 0), (6, .ref 1 (.sl 1 strSV W) 0), (7, .ptr 7 0)]) (fun j => [(4, .box [intSV 0, intSV 0, intSV 0, intSV 0, .val (.slice none 0 0), .val (.slice none 0 0)]), (7, .box [intSV 2, intSV 0, intSV j, intSV 0, .val (.slice none 0 0), .val (.slice none 0 0)]), verbsO 900, manyO 901]) [] (fun i hi => absurd hi (by omega))
      ⟨⟨rfl, rfl, rfl, rfl, rfl, rfl, rfl, rfl, trivial⟩, ⟨.inl rfl, rfl, .inl rfl, rfl, .inl rfl, rfl, .inl rfl, rfl, trivial⟩, rfl, rfl⟩ ?_
    intro j hj hI
    ((first|refine rG Γ hm ?_|refine rD Γ hm (by kernel_rfl) ?_);(conv=>whnf);repeat((first|refine aF ?_|refine aT ?_);(first|refine rG Γ hm ?_|refine rD Γ hm (by kernel_rfl) ?_);conv=>whnf))
    refine ⟨fun h => ?_, fun h => ?_⟩
    · have hlt : j < n.domains.length := by have := of_decide_eq_true h; omega
      have q4 := domTextS n hn hnm (j : Int)
      have hsome := @findD_some n w1 j hlt hI
      obtain ⟨td, htd⟩ : ∃ td, domT n (j : Int) = td := ⟨_, rfl⟩
      rw [htd] at q4 hsome
      ((first|refine rG Γ hm ?_|refine rD Γ hm (by kernel_rfl) ?_);(conv=>whnf);repeat((first|refine aF ?_|refine aT ?_);(first|refine rG Γ hm ?_|refine rD Γ hm (by kernel_rfl) ?_);conv=>whnf))
      refine callD0 q4 F56 rfl rfl rfl (by kernel_rfl) rfl ?_
      ((first|refine rG Γ hm ?_|refine rD Γ hm (by kernel_rfl) ?_);(conv=>whnf);repeat((first|refine aF ?_|refine aT ?_);(first|refine rG Γ hm ?_|refine rD Γ hm (by kernel_rfl) ?_);conv=>whnf))
      refine ⟨rfl, by decide, h01, ?_⟩
      rw [hw1']
      ((conv=>whnf);repeat((first|refine aF ?_|refine aT ?_);(first|refine rG Γ hm ?_|refine rD Γ hm (by kernel_rfl) ?_);conv=>whnf))
      cases htw : (td == w1)
      · refine ⟨(by kernel_rfl), ?_⟩
        ((conv=>whnf);repeat((first|refine aF ?_|refine aT ?_);(first|refine rG Γ hm ?_|refine rD Γ hm (by kernel_rfl) ?_);conv=>whnf))
        refine ⟨by unfold I64; omega, ?_⟩
        ((conv=>whnf);repeat((first|refine aF ?_|refine aT ?_);(first|refine rG Γ hm ?_|refine rD Γ hm (by kernel_rfl) ?_);conv=>whnf))
        refine G_nextP [] hI (by omega) (fun i hi => ?_) ⟨⟨rfl, rfl, rfl, rfl, rfl, rfl, rfl, rfl, trivial⟩, ⟨.inl rfl, rfl, .inl rfl, rfl, .inl rfl, rfl, .inl rfl, rfl, trivial⟩, rfl, rfl⟩
        rcases Nat.lt_or_ge i j with h2 | h2
        · exact hI i h2
        · obtain rfl : i = j := by omega
          rw [htd]; exact htw
      · rw [hsome htw, if_neg (by omega)] at hres
        refine ⟨(by kernel_rfl), ?_⟩
        ((conv=>whnf);repeat((first|refine aF ?_|refine aT ?_);(first|refine rG Γ hm ?_|refine rD Γ hm (by kernel_rfl) ?_);conv=>whnf))
        refine ⟨fun h2 => absurd h2 (by simp; omega), fun _ => ?_⟩
        ((first|refine rG Γ hm ?_|refine rD Γ hm (by kernel_rfl) ?_);(conv=>whnf);repeat((first|refine aF ?_|refine aT ?_);(first|refine rG Γ hm ?_|refine rD Γ hm (by kernel_rfl) ?_);conv=>whnf))
        refine ⟨rfl, by decide, h02, ?_⟩
        ((conv=>whnf);repeat((first|refine aF ?_|refine aT ?_);(first|refine rG Γ hm ?_|refine rD Γ hm (by kernel_rfl) ?_);conv=>whnf))
        refine call0 q3 F70 rfl rfl rfl rfl rfl ?_
        obtain ⟨⟨av, aok⟩, hav⟩ : ∃ p, numR (W[(2 : Int).toNat]'h02) 0 999999999 = p := ⟨_, rfl⟩
        rw [hav] at hres ⊢
        dsimp only at hres ⊢
        cases aok
        · rw [if_pos rfl] at hres
          subst hres
          ((first|refine rG Γ hm ?_|refine rD Γ hm (by kernel_rfl) ?_);(conv=>whnf);repeat((first|refine aF ?_|refine aT ?_);(first|refine rG Γ hm ?_|refine rD Γ hm (by kernel_rfl) ?_);conv=>whnf))
          refine G_boxV 4 [intSV 0, intSV 0, intSV 0, intSV 0, .sl 1 byteSV [], .sl 1 boolSV []] rfl (.cons (.refl _) (.cons (.refl _) (.cons (.refl _) (.cons (.refl _) (.cons .nil (.cons .nil .nil)))))) ?_
          exact done rfl (.cons (.cell rfl rfl rfl rfl) (.cons .tmp .nil)) [] [verbsO 900, manyO 901] (fun _ h => h) rfl rfl ⟨trivial, ⟨.inl rfl, rfl, .inl rfl, rfl, trivial⟩, rfl, rfl⟩
        · rw [if_neg (by simp)] at hres
          subst hres
          ((first|refine rG Γ hm ?_|refine rD Γ hm (by kernel_rfl) ?_);(conv=>whnf);repeat((first|refine aF ?_|refine aT ?_);(first|refine rG Γ hm ?_|refine rD Γ hm (by kernel_rfl) ?_);conv=>whnf))
          refine G_boxV 4 [intSV 2, intSV 0, intSV (j : Int), intSV av, .sl 1 byteSV [], .sl 1 boolSV []] rfl (.cons (.refl _) (.cons (.refl _) (.cons (.refl _) (.cons (.refl _) (.cons .nil (.cons .nil .nil)))))) ?_
          exact done rfl (.cons (.cell rfl rfl rfl rfl) (.cons .tmp .nil)) [] [verbsO 900, manyO 901] (fun _ h => h) rfl rfl ⟨trivial, ⟨.inl rfl, rfl, .inl rfl, rfl, trivial⟩, rfl, rfl⟩
    · have hje : j = n.domains.length := by have := of_decide_eq_false h; omega
      subst hje
      rw [if_pos (findD_none hI)] at hres
      ((first|refine rG Γ hm ?_|refine rD Γ hm (by kernel_rfl) ?_);(conv=>whnf);repeat((first|refine aF ?_|refine aT ?_);(first|refine rG Γ hm ?_|refine rD Γ hm (by kernel_rfl) ?_);conv=>whnf))
      refine ⟨(by kernel_rfl), ?_⟩
      ((conv=>whnf);repeat((first|refine aF ?_|refine aT ?_);(first|refine rG Γ hm ?_|refine rD Γ hm (by kernel_rfl) ?_);conv=>whnf))
      refine ⟨fun _ => ?_, fun h2 => absurd h2 (by simp)⟩
      subst hres
      ((first|refine rG Γ hm ?_|refine rD Γ hm (by kernel_rfl) ?_);(conv=>whnf);repeat((first|refine aF ?_|refine aT ?_);(first|refine rG Γ hm ?_|refine rD Γ hm (by kernel_rfl) ?_);conv=>whnf))
      refine G_boxV 4 [intSV 0, intSV 0, intSV 0, intSV 0, .sl 1 byteSV [], .sl 1 boolSV []] rfl (.cons (.refl _) (.cons (.refl _) (.cons (.refl _) (.cons (.refl _) (.cons .nil (.cons .nil .nil)))))) ?_
      exact done rfl (.cons (.cell rfl rfl rfl rfl) (.cons .tmp .nil)) [] [verbsO 900, manyO 901] (fun _ h => h) rfl rfl ⟨trivial, ⟨.inl rfl, rfl, .inl rfl, rfl, trivial⟩, rfl, rfl⟩
  · rw [if_neg (by decide)] at hres
    ((first|refine rG Γ hm ?_|refine rD Γ hm (by kernel_rfl) ?_);(conv=>whnf);repeat((first|refine aF ?_|refine aT ?_);(first|refine rG Γ hm ?_|refine rD Γ hm (by kernel_rfl) ?_);conv=>whnf))
    (repeat (first | (refine ⟨fun h => False.elim (by first | (exact absurd h (by decide)) | (simp at h; done) | (simp at h; omega)), fun _ => ?_⟩; ((first|refine rG Γ hm ?_|refine rD Γ hm (by kernel_rfl) ?_);(conv=>whnf);repeat((first|refine aF ?_|refine aT ?_);(first|refine rG Γ hm ?_|refine rD Γ hm (by kernel_rfl) ?_);conv=>whnf))) | (refine ⟨fun _ => ?_, fun h => False.elim (by first | (exact absurd h (by decide)) | (simp at h; done) | (simp at h; omega))⟩; ((first|refine rG Γ hm ?_|refine rD Γ hm (by kernel_rfl) ?_);(conv=>whnf);repeat((first|refine aF ?_|refine aT ?_);(first|refine rG Γ hm ?_|refine rD Γ hm (by kernel_rfl) ?_);conv=>whnf)))))
    refine stepDX (GoodX.glob Γ.toTy 901 rfl rfl rfl rfl rfl (by decide) (by decide)) rfl (by kernel_rfl) ?_
    ((first|refine rG Γ hm ?_|refine rD Γ hm (by kernel_rfl) ?_);(conv=>whnf);repeat((first|refine aF ?_|refine aT ?_);(first|refine rG Γ hm ?_|refine rD Γ hm (by kernel_rfl) ?_);conv=>whnf))
    refine ⟨(by kernel_rfl), ?_⟩
    ((conv=>whnf);repeat((first|refine aF ?_|refine aT ?_);(first|refine rG Γ hm ?_|refine rD Γ hm (by kernel_rfl) ?_);conv=>whnf))
    refine ⟨fun h => ?_, fun h => ?_⟩
    · have hne : (W.length : Int) ≠ 3 := by simpa using h
      rw [if_pos (by exact hne)] at hres
      subst hres
      ((first|refine rG Γ hm ?_|refine rD Γ hm (by kernel_rfl) ?_);(conv=>whnf);repeat((first|refine aF ?_|refine aT ?_);(first|refine rG Γ hm ?_|refine rD Γ hm (by kernel_rfl) ?_);conv=>whnf))
      refine G_boxV 4 [intSV 0, intSV 0, intSV 0, intSV 0, .sl 1 byteSV [], .sl 1 boolSV []] rfl (.cons (.refl _) (.cons (.refl _) (.cons (.refl _) (.cons (.refl _) (.cons .nil (.cons .nil .nil)))))) ?_
      exact done rfl (.cons (.cell rfl rfl rfl rfl) (.cons .tmp .nil)) [] [verbsO 900, manyO 901] (fun _ h => h) rfl rfl ⟨trivial, ⟨.inl rfl, rfl, .inl rfl, rfl, trivial⟩, rfl, rfl⟩
    have hle : (W.length : Int) = 3 := by simpa using h
    rw [if_neg (by rw [hle]; simp [manyN])] at hres
    rw [if_neg (by decide), if_pos (by decide)] at hres
    have h01 : (1 : Int).toNat < W.length := by show 1 < _; omega
    have h02 : (2 : Int).toNat < W.length := by show 2 < _; omega
    have hw1 : nth W 1 = W[(1 : Int).toNat] := nth_eq h01
    have hw2 : nth W 2 = W[(2 : Int).toNat] := nth_eq h02
    have hz2 := hWs _ (List.getElem_mem h02)
    rw [hw1, hw2] at hres
    have q3 := numReadS (W[(2 : Int).toNat]'h02) 0 999999999
    obtain ⟨w1, hw1'⟩ : ∃ w1, W[(1 : Int).toNat]'h01 = w1 := ⟨_, rfl⟩
    rw [hw1'] at hres
    ((first|refine rG Γ hm ?_|refine rD Γ hm (by kernel_rfl) ?_);(conv=>whnf);repeat((first|refine aF ?_|refine aT ?_);(first|refine rG Γ hm ?_|refine rD Γ hm (by kernel_rfl) ?_);conv=>whnf))
    refine G_countP n.domains.length (fun j => ∀ i, i < j → (domT n (i : Int) == w1) = false) (fun j => [(2, .ref 8 (netSV n) 0), (4, .ptr 4 0), (6, .ref 1 (.sl 1 strSV W) 0), (7, .ptr 7 0)]) (fun j => [(4, .box [intSV 0, intSV 0, intSV 0, intSV 0, .val (.slice none 0 0), .val (.slice none 0 0)]), (7, .box [intSV 3, intSV 0, intSV j, intSV 0, .val (.slice none 0 0), .val (.slice none 0 0)]), verbsO 900, manyO 901]) [] (fun i hi => absurd hi (by omega))
      ⟨⟨rfl, rfl, rfl, rfl, rfl, rfl, rfl, rfl, trivial⟩, ⟨.inl rfl, rfl, .inl rfl, rfl, .inl rfl, rfl, .inl rfl, rfl, trivial⟩, rfl, rfl⟩ ?_
    intro j hj hI
    ((first|refine rG Γ hm ?_|refine rD Γ hm (by kernel_rfl) ?_);(conv=>whnf);repeat((first|refine aF ?_|refine aT ?_);(first|refine rG Γ hm ?_|refine rD Γ hm (by kernel_rfl) ?_);conv=>whnf))
    refine ⟨fun h => ?_, fun h => ?_⟩
    · have hlt : j < n.domains.length := by have := of_decide_eq_true h; omega
      have q4 := domTextS n hn hnm (j : Int)
      have hsome := @findD_some n w1 j hlt hI
      obtain ⟨td, htd⟩ : ∃ td, domT n (j : Int) = td := ⟨_, rfl⟩
      rw [htd] at q4 hsome
      ((first|refine rG Γ hm ?_|refine rD Γ hm (by kernel_rfl) ?_);(conv=>whnf);repeat((first|refine aF ?_|refine aT ?_);(first|refine rG Γ hm ?_|refine rD Γ hm (by kernel_rfl) ?_);conv=>whnf))
      refine callD0 q4 F56 rfl rfl rfl (by kernel_rfl) rfl ?_
      ((first|refine rG Γ hm ?_|refine rD Γ hm (by kernel_rfl) ?_);(conv=>whnf);repeat((first|refine aF ?_|refine aT ?_);(first|refine rG Γ hm ?_|refine rD Γ hm (by kernel_rfl) ?_);conv=>whnf))
      refine ⟨rfl, by decide, h01, ?_⟩
      rw [hw1']
      ((conv=>whnf);repeat((first|refine aF ?_|refine aT ?_);(first|refine rG Γ hm ?_|refine rD Γ hm (by kernel_rfl) ?_);conv=>whnf))
      cases htw : (td == w1)
      · refine ⟨(by kernel_rfl), ?_⟩
        ((conv=>whnf);repeat((first|refine aF ?_|refine aT ?_);(first|refine rG Γ hm ?_|refine rD Γ hm (by kernel_rfl) ?_);conv=>whnf))
        refine ⟨by unfold I64; omega, ?_⟩
        ((conv=>whnf);repeat((first|refine aF ?_|refine aT ?_);(first|refine rG Γ hm ?_|refine rD Γ hm (by kernel_rfl) ?_);conv=>whnf))
        refine G_nextP [] hI (by omega) (fun i hi => ?_) ⟨⟨rfl, rfl, rfl, rfl, rfl, rfl, rfl, rfl, trivial⟩, ⟨.inl rfl, rfl, .inl rfl, rfl, .inl rfl, rfl, .inl rfl, rfl, trivial⟩, rfl, rfl⟩
        rcases Nat.lt_or_ge i j with h2 | h2
        · exact hI i h2
        · obtain rfl : i = j := by omega
          rw [htd]; exact htw
      · rw [hsome htw, if_neg (by omega)] at hres
        refine ⟨(by kernel_rfl), ?_⟩
        ((conv=>whnf);repeat((first|refine aF ?_|refine aT ?_);(first|refine rG Γ hm ?_|refine rD Γ hm (by kernel_rfl) ?_);conv=>whnf))
        refine ⟨fun h2 => absurd h2 (by simp; omega), fun _ => ?_⟩
        ((first|refine rG Γ hm ?_|refine rD Γ hm (by kernel_rfl) ?_);(conv=>whnf);repeat((first|refine aF ?_|refine aT ?_);(first|refine rG Γ hm ?_|refine rD Γ hm (by kernel_rfl) ?_);conv=>whnf))
        refine ⟨rfl, by decide, h02, ?_⟩
        ((conv=>whnf);repeat((first|refine aF ?_|refine aT ?_);(first|refine rG Γ hm ?_|refine rD Γ hm (by kernel_rfl) ?_);conv=>whnf))
        refine call0 q3 F70 rfl rfl rfl rfl rfl ?_
        obtain ⟨⟨av, aok⟩, hav⟩ : ∃ p, numR (W[(2 : Int).toNat]'h02) 0 999999999 = p := ⟨_, rfl⟩
        rw [hav] at hres ⊢
        dsimp only at hres ⊢
        cases aok
        · rw [if_pos rfl] at hres
          subst hres
          ((first|refine rG Γ hm ?_|refine rD Γ hm (by kernel_rfl) ?_);(conv=>whnf);repeat((first|refine aF ?_|refine aT ?_);(first|refine rG Γ hm ?_|refine rD Γ hm (by kernel_rfl) ?_);conv=>whnf))
          refine G_boxV 4 [intSV 0, intSV 0, intSV 0, intSV 0, .sl 1 byteSV [], .sl 1 boolSV []] rfl (.cons (.refl _) (.cons (.refl _) (.cons (.refl _) (.cons (.refl _) (.cons .nil (.cons .nil .nil)))))) ?_
          exact done rfl (.cons (.cell rfl rfl rfl rfl) (.cons .tmp .nil)) [] [verbsO 900, manyO 901] (fun _ h => h) rfl rfl ⟨trivial, ⟨.inl rfl, rfl, .inl rfl, rfl, trivial⟩, rfl, rfl⟩
        · rw [if_neg (by simp)] at hres
          subst hres
          ((first|refine rG Γ hm ?_|refine rD Γ hm (by kernel_rfl) ?_);(conv=>whnf);repeat((first|refine aF ?_|refine aT ?_);(first|refine rG Γ hm ?_|refine rD Γ hm (by kernel_rfl) ?_);conv=>whnf))
          refine G_boxV 4 [intSV 3, intSV 0, intSV (j : Int), intSV av, .sl 1 byteSV [], .sl 1 boolSV []] rfl (.cons (.refl _) (.cons (.refl _) (.cons (.refl _) (.cons (.refl _) (.cons .nil (.cons .nil .nil)))))) ?_
          exact done rfl (.cons (.cell rfl rfl rfl rfl) (.cons .tmp .nil)) [] [verbsO 900, manyO 901] (fun _ h => h) rfl rfl ⟨trivial, ⟨.inl rfl, rfl, .inl rfl, rfl, trivial⟩, rfl, rfl⟩
    · have hje : j = n.domains.length := by have := of_decide_eq_false h; omega
      subst hje
      rw [if_pos (findD_none hI)] at hres
      ((first|refine rG Γ hm ?_|refine rD Γ hm (by kernel_rfl) ?_);(conv=>whnf);repeat((first|refine aF ?_|refine aT ?_);(first|refine rG Γ hm ?_|refine rD Γ hm (by kernel_rfl) ?_);conv=>whnf))
      refine ⟨(by kernel_rfl), ?_⟩
      ((conv=>whnf);repeat((first|refine aF ?_|refine aT ?_);(first|refine rG Γ hm ?_|refine rD Γ hm (by kernel_rfl) ?_);conv=>whnf))
      refine ⟨fun _ => ?_, fun h2 => absurd h2 (by simp)⟩
      subst hres
      ((first|refine rG Γ hm ?_|refine rD Γ hm (by kernel_rfl) ?_);(conv=>whnf);repeat((first|refine aF ?_|refine aT ?_);(first|refine rG Γ hm ?_|refine rD Γ hm (by kernel_rfl) ?_);conv=>whnf))
      refine G_boxV 4 [intSV 0, intSV 0, intSV 0, intSV 0, .sl 1 byteSV [], .sl 1 boolSV []] rfl (.cons (.refl _) (.cons (.refl _) (.cons (.refl _) (.cons (.refl _) (.cons .nil (.cons .nil .nil)))))) ?_
      exact done rfl (.cons (.cell rfl rfl rfl rfl) (.cons .tmp .nil)) [] [verbsO 900, manyO 901] (fun _ h => h) rfl rfl ⟨trivial, ⟨.inl rfl, rfl, .inl rfl, rfl, trivial⟩, rfl, rfl⟩
  · rw [if_neg (by decide)] at hres
    ((first|refine rG Γ hm ?_|refine rD Γ hm (by kernel_rfl) ?_);(conv=>whnf);repeat((first|refine aF ?_|refine aT ?_);(first|refine rG Γ hm ?_|refine rD Γ hm (by kernel_rfl) ?_);conv=>whnf))
    (repeat (first | (refine ⟨fun h => False.elim (by first | (exact absurd h (by decide)) | (simp at h; done) | (simp at h; omega)), fun _ => ?_⟩; ((first|refine rG Γ hm ?_|refine rD Γ hm (by kernel_rfl) ?_);(conv=>whnf);repeat((first|refine aF ?_|refine aT ?_);(first|refine rG Γ hm ?_|refine rD Γ hm (by kernel_rfl) ?_);conv=>whnf))) | (refine ⟨fun _ => ?_, fun h => False.elim (by first | (exact absurd h (by decide)) | (simp at h; done) | (simp at h; omega))⟩; ((first|refine rG Γ hm ?_|refine rD Γ hm (by kernel_rfl) ?_);(conv=>whnf);repeat((first|refine aF ?_|refine aT ?_);(first|refine rG Γ hm ?_|refine rD Γ hm (by kernel_rfl) ?_);conv=>whnf)))))
    refine stepDX (GoodX.glob Γ.toTy 901 rfl rfl rfl rfl rfl (by decide) (by decide)) rfl (by kernel_rfl) ?_
    ((first|refine rG Γ hm ?_|refine rD Γ hm (by kernel_rfl) ?_);(conv=>whnf);repeat((first|refine aF ?_|refine aT ?_);(first|refine rG Γ hm ?_|refine rD Γ hm (by kernel_rfl) ?_);conv=>whnf))
    refine ⟨(by kernel_rfl), ?_⟩
    ((conv=>whnf);repeat((first|refine aF ?_|refine aT ?_);(first|refine rG Γ hm ?_|refine rD Γ hm (by kernel_rfl) ?_);conv=>whnf))
    refine ⟨fun h => ?_, fun h => ?_⟩
    · have hne : (W.length : Int) ≠ 1 := by simpa using h
      rw [if_pos (by exact hne)] at hres
      subst hres
      ((first|refine rG Γ hm ?_|refine rD Γ hm (by kernel_rfl) ?_);(conv=>whnf);repeat((first|refine aF ?_|refine aT ?_);(first|refine rG Γ hm ?_|refine rD Γ hm (by kernel_rfl) ?_);conv=>whnf))
      refine G_boxV 4 [intSV 0, intSV 0, intSV 0, intSV 0, .sl 1 byteSV [], .sl 1 boolSV []] rfl (.cons (.refl _) (.cons (.refl _) (.cons (.refl _) (.cons (.refl _) (.cons .nil (.cons .nil .nil)))))) ?_
      exact done rfl (.cons (.cell rfl rfl rfl rfl) (.cons .tmp .nil)) [] [verbsO 900, manyO 901] (fun _ h => h) rfl rfl ⟨trivial, ⟨.inl rfl, rfl, .inl rfl, rfl, trivial⟩, rfl, rfl⟩
    have hle : (W.length : Int) = 1 := by simpa using h
    rw [if_neg (by rw [hle]; simp [manyN])] at hres
    rw [if_neg (by decide), if_neg (by decide), if_pos rfl] at hres
    subst hres
    ((first|refine rG Γ hm ?_|refine rD Γ hm (by kernel_rfl) ?_);(conv=>whnf);repeat((first|refine aF ?_|refine aT ?_);(first|refine rG Γ hm ?_|refine rD Γ hm (by kernel_rfl) ?_);conv=>whnf))
    refine G_boxV 4 [intSV 4, intSV 0, intSV 0, intSV 0, .sl 1 byteSV [], .sl 1 boolSV []] rfl (.cons (.refl _) (.cons (.refl _) (.cons (.refl _) (.cons (.refl _) (.cons .nil (.cons .nil .nil)))))) ?_
    exact done rfl (.cons (.cell rfl rfl rfl rfl) (.cons .tmp .nil)) [] [verbsO 900, manyO 901] (fun _ h => h) rfl rfl ⟨trivial, ⟨.inl rfl, rfl, .inl rfl, rfl, trivial⟩, rfl, rfl⟩
  · rw [if_neg (by decide)] at hres
    ((first|refine rG Γ hm ?_|refine rD Γ hm (by kernel_rfl) ?_);(conv=>whnf);repeat((first|refine aF ?_|refine aT ?_);(first|refine rG Γ hm ?_|refine rD Γ hm (by kernel_rfl) ?_);conv=>whnf))
    (repeat (first | (refine ⟨fun h => False.elim (by first | (exact absurd h (by decide)) | (simp at h; done) | (simp at h; omega)), fun _ => ?_⟩; ((first|refine rG Γ hm ?_|refine rD Γ hm (by kernel_rfl) ?_);(conv=>whnf);repeat((first|refine aF ?_|refine aT ?_);(first|refine rG Γ hm ?_|refine rD Γ hm (by kernel_rfl) ?_);conv=>whnf))) | (refine ⟨fun _ => ?_, fun h => False.elim (by first | (exact absurd h (by decide)) | (simp at h; done) | (simp at h; omega))⟩; ((first|refine rG Γ hm ?_|refine rD Γ hm (by kernel_rfl) ?_);(conv=>whnf);repeat((first|refine aF ?_|refine aT ?_);(first|refine rG Γ hm ?_|refine rD Γ hm (by kernel_rfl) ?_);conv=>whnf)))))
    refine stepDX (GoodX.glob Γ.toTy 901 rfl rfl rfl rfl rfl (by decide) (by decide)) rfl (by kernel_rfl) ?_
    ((first|refine rG Γ hm ?_|refine rD Γ hm (by kernel_rfl) ?_);(conv=>whnf);repeat((first|refine aF ?_|refine aT ?_);(first|refine rG Γ hm ?_|refine rD Γ hm (by kernel_rfl) ?_);conv=>whnf))
    refine ⟨(by kernel_rfl), ?_⟩
    ((conv=>whnf);repeat((first|refine aF ?_|refine aT ?_);(first|refine rG Γ hm ?_|refine rD Γ hm (by kernel_rfl) ?_);conv=>whnf))
    refine ⟨fun h => ?_, fun h => ?_⟩
    · have hne : (W.length : Int) ≠ 2 := by simpa using h
      rw [if_pos (by exact hne)] at hres
      subst hres
      ((first|refine rG Γ hm ?_|refine rD Γ hm (by kernel_rfl) ?_);(conv=>whnf);repeat((first|refine aF ?_|refine aT ?_);(first|refine rG Γ hm ?_|refine rD Γ hm (by kernel_rfl) ?_);conv=>whnf))
      refine G_boxV 4 [intSV 0, intSV 0, intSV 0, intSV 0, .sl 1 byteSV [], .sl 1 boolSV []] rfl (.cons (.refl _) (.cons (.refl _) (.cons (.refl _) (.cons (.refl _) (.cons .nil (.cons .nil .nil)))))) ?_
      exact done rfl (.cons (.cell rfl rfl rfl rfl) (.cons .tmp .nil)) [] [verbsO 900, manyO 901] (fun _ h => h) rfl rfl ⟨trivial, ⟨.inl rfl, rfl, .inl rfl, rfl, trivial⟩, rfl, rfl⟩
    have hle : (W.length : Int) = 2 := by simpa using h
    rw [if_neg (by rw [hle]; simp [manyN])] at hres
    rw [if_neg (by decide), if_neg (by decide), if_neg (by decide)] at hres
    have h01 : (1 : Int).toNat < W.length := by show 1 < _; omega
    have hw1 : nth W 1 = W[(1 : Int).toNat] := nth_eq h01
    have hz1 := hWs _ (List.getElem_mem h01)
    rw [hw1] at hres
    have q3 := siteReadTruthsS n hn (W[(1 : Int).toNat]'h01) (by omega)
    have hbe := readTr_eq n.links.length (W[(1 : Int).toNat]'h01)
    ((first|refine rG Γ hm ?_|refine rD Γ hm (by kernel_rfl) ?_);(conv=>whnf);repeat((first|refine aF ?_|refine aT ?_);(first|refine rG Γ hm ?_|refine rD Γ hm (by kernel_rfl) ?_);conv=>whnf))
    refine ⟨rfl, by decide, h01, ?_⟩
    ((conv=>whnf);repeat((first|refine aF ?_|refine aT ?_);(first|refine rG Γ hm ?_|refine rD Γ hm (by kernel_rfl) ?_);conv=>whnf))
    refine callD0 q3 F71 rfl rfl rfl (by kernel_rfl) rfl ?_
    rw [hbe.1]
    cases hok : okTr n.links.length (W[(1 : Int).toNat]'h01)
    · rw [hok, if_pos rfl] at hres
      ((first|refine rG Γ hm ?_|refine rD Γ hm (by kernel_rfl) ?_);(conv=>whnf);repeat((first|refine aF ?_|refine aT ?_);(first|refine rG Γ hm ?_|refine rD Γ hm (by kernel_rfl) ?_);conv=>whnf))
      refine ⟨(by kernel_rfl), ?_⟩
      ((conv=>whnf);repeat((first|refine aF ?_|refine aT ?_);(first|refine rG Γ hm ?_|refine rD Γ hm (by kernel_rfl) ?_);conv=>whnf))
      subst hres
      refine G_boxV 4 [intSV 0, intSV 0, intSV 0, intSV 0, .sl 1 byteSV [], .sl 1 boolSV []] rfl (.cons (.refl _) (.cons (.refl _) (.cons (.refl _) (.cons (.refl _) (.cons .nil (.cons .nil .nil)))))) ?_
      exact done rfl (.cons (.cell rfl rfl rfl rfl) (.cons .tmp .nil)) [] [verbsO 900, manyO 901] (fun _ h => h) rfl rfl ⟨trivial, ⟨.inl rfl, rfl, .inl rfl, rfl, trivial⟩, rfl, rfl⟩
    · rw [hok, if_neg (by simp)] at hres
      rw [hbe.2 hok]
      subst hres
      ((first|refine rG Γ hm ?_|refine rD Γ hm (by kernel_rfl) ?_);(conv=>whnf);repeat((first|refine aF ?_|refine aT ?_);(first|refine rG Γ hm ?_|refine rD Γ hm (by kernel_rfl) ?_);conv=>whnf))
      refine ⟨(by kernel_rfl), ?_⟩
      ((conv=>whnf);repeat((first|refine aF ?_|refine aT ?_);(first|refine rG Γ hm ?_|refine rD Γ hm (by kernel_rfl) ?_);conv=>whnf))
      refine G_boxV 4 [intSV 5, intSV 0, intSV 0, intSV 0, .sl 1 byteSV [], .sl 1 boolSV (upL (W[(1 : Int).toNat]'h01))] rfl (.cons (.refl _) (.cons (.refl _) (.cons (.refl _) (.cons (.refl _) (.cons .nil (.cons (.refl _) .nil)))))) ?_
      exact done rfl (.cons (.cell rfl rfl rfl rfl) (.cons .tmp .nil)) [] [verbsO 900, manyO 901] (fun _ h => h) rfl rfl ⟨trivial, ⟨.inl rfl, rfl, .inl rfl, rfl, trivial⟩, rfl, rfl⟩

end Go.Sy.YtjomehmhkcnadaaGreatDoor
