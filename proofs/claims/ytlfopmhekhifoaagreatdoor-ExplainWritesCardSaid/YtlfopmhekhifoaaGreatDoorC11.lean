/-
  The shelf's contracts of Go's library at this program, laid by the kit's tools (lay-shelf, lay-plain), chosen by mkshelf.py. Texts: joined, split at a byte. Texts, split at a byte: strings.Split. Numbers as texts.
-/
import Derived.Shelf.Strings.OnBuilder
import Derived.Shelf.Strings.Search1
import Derived.Shelf.Strings.Search2
import Derived.Shelf.Strings.Search3
import Derived.Shelf.Strings.Count
import Derived.Test.YtlfopmhekhifoaaGreatDoorProg
import Derived.Test.YtlfopmhekhifoaaGreatDoorC5
import Derived.Test.YtlfopmhekhifoaaGreatDoorC4
import Derived.Test.YtlfopmhekhifoaaGreatDoorC6

namespace Go.Proofs
open Go.Shelf
def Tryz.lays156_ren : Go.Shelf.Ren := ⟨fun | 156 => 59 | 165 => 101 | 166 => 102 | 169 => 103 | 240 => 126 | 241 => 127 | 276 => 145 | 277 => 146 | n => n, fun | 31 => 34 | 9 => 9 | 3 => 3 | 4 => 4 | 0 => 0 | 20 => 20 | 72 => 159 | 76 => 162 | 70 => 156 | 37 => 157 | 75 => 161 | 127 => 181 | 164 => 195 | 5 => 5 | 80 => 164 | n => n, fun | n => n⟩
theorem Tryz.lays156 : Go.Proofs.Lays.n156 Tryz.prog Tryz.lays156_ren := {
  mixed := by kernel_rfl
  f156 := Tryz.func59.trans (congrArg some (by kernel_rfl))
  f165 := Tryz.func101.trans (congrArg some (by kernel_rfl))
  f166 := Tryz.func102.trans (congrArg some (by kernel_rfl))
  f169 := Tryz.func103.trans (congrArg some (by kernel_rfl))
  f240 := Tryz.func126.trans (congrArg some (by kernel_rfl))
  f241 := Tryz.func127.trans (congrArg some (by kernel_rfl))
  f276 := Tryz.func145.trans (congrArg some (by kernel_rfl))
  f277 := Tryz.func146.trans (congrArg some (by kernel_rfl))
  t0 := Tryz.underlying0
  a0 := Tryz.isAgg0
  z0 := Tryz.sizeOf0
  v0 := Tryz.zeroValue0
  t3 := Tryz.underlying3
  a3 := Tryz.isAgg3
  z3 := Tryz.sizeOf3
  v3 := Tryz.zeroValue3
  t4 := Tryz.underlying4
  a4 := Tryz.isAgg4
  z4 := Tryz.sizeOf4
  v4 := Tryz.zeroValue4
  t9 := Tryz.underlying9
  a9 := Tryz.isAgg9
  z9 := Tryz.sizeOf9
  v9 := Tryz.zeroValue9
  t20 := Tryz.underlying20
  a20 := Tryz.isAgg20
  z20 := Tryz.sizeOf20
  v20 := Tryz.zeroValue20
  t31 := Tryz.underlying34
  a31 := Tryz.isAgg34
  z31 := Tryz.sizeOf34
  v31 := Tryz.zeroValue34
  t37 := Tryz.underlying157
  a37 := Tryz.isAgg157
  z37 := Tryz.sizeOf157
  v37 := Tryz.zeroValue157
  t70 := Tryz.underlying156
  a70 := Tryz.isAgg156
  z70 := Tryz.sizeOf156
  v70 := Tryz.zeroValue156
  t72 := Tryz.underlying159
  a72 := Tryz.isAgg159
  z72 := Tryz.sizeOf159
  v72 := Tryz.zeroValue159
  t75 := Tryz.underlying161
  a75 := Tryz.isAgg161
  z75 := Tryz.sizeOf161
  v75 := Tryz.zeroValue161
  t76 := Tryz.underlying162
  a76 := Tryz.isAgg162
  z76 := Tryz.sizeOf162
  v76 := Tryz.zeroValue162
  t127 := Tryz.underlying181
  a127 := Tryz.isAgg181
  z127 := Tryz.sizeOf181
  v127 := Tryz.zeroValue181
  t164 := Tryz.underlying195
  a164 := Tryz.isAgg195
  z164 := Tryz.sizeOf195
  v164 := Tryz.zeroValue195 }
theorem Tryz.Builder_Extra_156 : Builder.Extra Tryz.prog Tryz.lays156_ren := {
  sizeBuilder := by kernel_rfl
  liesBuilder := by kernel_rfl
  t5 := Tryz.underlying5
  a5 := Tryz.isAgg5
  z5 := Tryz.sizeOf5
  v5 := Tryz.zeroValue5
  infoByte := by kernel_rfl
  cellsByte := by kernel_rfl
  sizeByte := by kernel_rfl
  neB5 := by decide }
open Go.RowKit in
theorem Tryz.strings_Join_none (a : Option Addr) (c : Nat) (sep : ByteArray) (w : World) :
    Calls Tryz.prog 59 #[.slice a 0 c, .string sep] w fun e w' => e = .returned (.string ⟨#[]⟩) ∧ w' = w := Any.strings_Join_none Tryz.lays156 Tryz.Builder_Extra_156 a c sep w
open Go.RowKit in
theorem Tryz.strings_Join (bk o c : Nat) (xs : List ByteArray) (sep : ByteArray) (w : World) (hcells : ∀ (j : Nat) x, xs[j]? = some x → w.cell? ⟨bk, o + j, none⟩ = some (.string x)) (hbk : bk < w.heap.size) (hN : xs.length ≤ 140737488355328) (hcap : xs.length ≤ c) (hlen : (Lib.join (xs.map (·.data.toList)) sep.data.toList).length ≤ 140737488355328) :
    Calls Tryz.prog 59 #[.slice (some ⟨bk, o, none⟩) xs.length c, .string sep] w fun e w' => e = .returned (.string ⟨(Lib.join (xs.map (·.data.toList)) sep.data.toList).toArray⟩) ∧ Below w.heap.size w w' := Any.strings_Join Tryz.lays156 Tryz.Builder_Extra_156 bk o c xs sep w hcells hbk hN hcap hlen
def Tryz.lays219_ren : Go.Shelf.Ren := ⟨fun | 219 => 135 | 217 => 152 | 225 => 153 | 224 => 154 | 267 => 155 | 266 => 170 | 314 => 171 | n => n, fun | 9 => 9 | 3 => 3 | 4 => 4 | 5 => 5 | 46 => 192 | 146 => 210 | 51 => 47 | n => n, fun | 1 => 0 | n => n⟩
theorem Tryz.lays219 : Go.Proofs.Lays.n219 Tryz.prog Tryz.lays219_ren := {
  mixed := by kernel_rfl
  f217 := Tryz.func152.trans (congrArg some (by kernel_rfl))
  f219 := Tryz.func135.trans (congrArg some (by kernel_rfl))
  f224 := Tryz.func154.trans (congrArg some (by kernel_rfl))
  f225 := Tryz.func153.trans (congrArg some (by kernel_rfl))
  f266 := Tryz.func170.trans (congrArg some (by kernel_rfl))
  f267 := Tryz.func155.trans (congrArg some (by kernel_rfl))
  f314 := Tryz.func171.trans (congrArg some (by kernel_rfl))
  t3 := Tryz.underlying3
  a3 := Tryz.isAgg3
  z3 := Tryz.sizeOf3
  v3 := Tryz.zeroValue3
  t4 := Tryz.underlying4
  a4 := Tryz.isAgg4
  z4 := Tryz.sizeOf4
  v4 := Tryz.zeroValue4
  t5 := Tryz.underlying5
  a5 := Tryz.isAgg5
  z5 := Tryz.sizeOf5
  v5 := Tryz.zeroValue5
  t9 := Tryz.underlying9
  a9 := Tryz.isAgg9
  z9 := Tryz.sizeOf9
  v9 := Tryz.zeroValue9
  t46 := Tryz.underlying192
  a46 := Tryz.isAgg192
  z46 := Tryz.sizeOf192
  v46 := Tryz.zeroValue192
  t51 := Tryz.underlying47
  a51 := Tryz.isAgg47
  z51 := Tryz.sizeOf47
  v51 := Tryz.zeroValue47
  t146 := Tryz.underlying210
  a146 := Tryz.isAgg210
  z146 := Tryz.sizeOf210
  v146 := Tryz.zeroValue210
  g1 := by kernel_rfl }
open Go.RowKit Go.Lib in
theorem Tryz.stringslite_Index_one (s : ByteArray) (c : UInt8) (w : World) :
    Calls Tryz.prog 135 #[.string s, .string ⟨#[c]⟩] w fun e w' => e = .returned (.int .i64 (Lib.indexByte s.data.toList c)) ∧ w' = w := Any.stringslite_Index_one Tryz.lays219 s c w
def Tryz.lays143_ren : Go.Shelf.Ren := ⟨fun | 143 => 113 | 219 => 135 | 217 => 152 | 225 => 153 | 224 => 154 | 267 => 155 | 266 => 170 | 314 => 171 | n => n, fun | 9 => 9 | 3 => 3 | 4 => 4 | 5 => 5 | 46 => 192 | 146 => 210 | 51 => 47 | n => n, fun | 1 => 0 | n => n⟩
theorem Tryz.lays143 : Go.Proofs.Lays.n143 Tryz.prog Tryz.lays143_ren := {
  mixed := by kernel_rfl
  f143 := Tryz.func113.trans (congrArg some (by kernel_rfl))
  f217 := Tryz.func152.trans (congrArg some (by kernel_rfl))
  f219 := Tryz.func135.trans (congrArg some (by kernel_rfl))
  f224 := Tryz.func154.trans (congrArg some (by kernel_rfl))
  f225 := Tryz.func153.trans (congrArg some (by kernel_rfl))
  f266 := Tryz.func170.trans (congrArg some (by kernel_rfl))
  f267 := Tryz.func155.trans (congrArg some (by kernel_rfl))
  f314 := Tryz.func171.trans (congrArg some (by kernel_rfl))
  t3 := Tryz.underlying3
  a3 := Tryz.isAgg3
  z3 := Tryz.sizeOf3
  v3 := Tryz.zeroValue3
  t4 := Tryz.underlying4
  a4 := Tryz.isAgg4
  z4 := Tryz.sizeOf4
  v4 := Tryz.zeroValue4
  t5 := Tryz.underlying5
  a5 := Tryz.isAgg5
  z5 := Tryz.sizeOf5
  v5 := Tryz.zeroValue5
  t9 := Tryz.underlying9
  a9 := Tryz.isAgg9
  z9 := Tryz.sizeOf9
  v9 := Tryz.zeroValue9
  t46 := Tryz.underlying192
  a46 := Tryz.isAgg192
  z46 := Tryz.sizeOf192
  v46 := Tryz.zeroValue192
  t51 := Tryz.underlying47
  a51 := Tryz.isAgg47
  z51 := Tryz.sizeOf47
  v51 := Tryz.zeroValue47
  t146 := Tryz.underlying210
  a146 := Tryz.isAgg210
  z146 := Tryz.sizeOf210
  v146 := Tryz.zeroValue210
  g1 := by kernel_rfl }
open Go.RowKit Go.Lib in
theorem Tryz.strings_Index_one (s : ByteArray) (c : UInt8) (w : World) :
    Calls Tryz.prog 113 #[.string s, .string ⟨#[c]⟩] w fun e w' => e = .returned (.int .i64 (Lib.indexByte s.data.toList c)) ∧ w' = w := Any.strings_Index_one Tryz.lays143 s c w
def Tryz.lays138_ren : Go.Shelf.Ren := ⟨fun | 138 => 112 | 195 => 132 | 218 => 134 | 143 => 113 | 219 => 135 | 217 => 152 | 225 => 153 | 224 => 154 | 267 => 155 | 266 => 170 | 314 => 171 | n => n, fun | 9 => 9 | 3 => 3 | 4 => 4 | 5 => 5 | 0 => 0 | 46 => 192 | 146 => 210 | 51 => 47 | n => n, fun | 1 => 0 | n => n⟩
theorem Tryz.lays138 : Go.Proofs.Lays.n138 Tryz.prog Tryz.lays138_ren := {
  mixed := by kernel_rfl
  f138 := Tryz.func112.trans (congrArg some (by kernel_rfl))
  f143 := Tryz.func113.trans (congrArg some (by kernel_rfl))
  f195 := Tryz.func132.trans (congrArg some (by kernel_rfl))
  f217 := Tryz.func152.trans (congrArg some (by kernel_rfl))
  f218 := Tryz.func134.trans (congrArg some (by kernel_rfl))
  f219 := Tryz.func135.trans (congrArg some (by kernel_rfl))
  f224 := Tryz.func154.trans (congrArg some (by kernel_rfl))
  f225 := Tryz.func153.trans (congrArg some (by kernel_rfl))
  f266 := Tryz.func170.trans (congrArg some (by kernel_rfl))
  f267 := Tryz.func155.trans (congrArg some (by kernel_rfl))
  f314 := Tryz.func171.trans (congrArg some (by kernel_rfl))
  t0 := Tryz.underlying0
  a0 := Tryz.isAgg0
  z0 := Tryz.sizeOf0
  v0 := Tryz.zeroValue0
  t3 := Tryz.underlying3
  a3 := Tryz.isAgg3
  z3 := Tryz.sizeOf3
  v3 := Tryz.zeroValue3
  t4 := Tryz.underlying4
  a4 := Tryz.isAgg4
  z4 := Tryz.sizeOf4
  v4 := Tryz.zeroValue4
  t5 := Tryz.underlying5
  a5 := Tryz.isAgg5
  z5 := Tryz.sizeOf5
  v5 := Tryz.zeroValue5
  t9 := Tryz.underlying9
  a9 := Tryz.isAgg9
  z9 := Tryz.sizeOf9
  v9 := Tryz.zeroValue9
  t46 := Tryz.underlying192
  a46 := Tryz.isAgg192
  z46 := Tryz.sizeOf192
  v46 := Tryz.zeroValue192
  t51 := Tryz.underlying47
  a51 := Tryz.isAgg47
  z51 := Tryz.sizeOf47
  v51 := Tryz.zeroValue47
  t146 := Tryz.underlying210
  a146 := Tryz.isAgg210
  z146 := Tryz.sizeOf210
  v146 := Tryz.zeroValue210
  g1 := by kernel_rfl }
open Go.RowKit Go.Lib in
theorem Tryz.strings_Count_one (s : ByteArray) (c : UInt8) (w : World) :
    Calls Tryz.prog 112 #[.string s, .string ⟨#[c]⟩] w fun e w' => e = .returned (.int .i64 (Lib.countByte s.data.toList c)) ∧ w' = w := Any.strings_Count_one Tryz.lays138 s c w
end Go.Proofs

namespace Go.Sy.YtlfopmhekhifoaaGreatDoor
open Go.Proofs

/-- strings.Join. -/
theorem strJoinS (l : List ByteArray) (sep : ByteArray) (h0 : l.length ≤ 70368744177664) (h1 : sizes l ≤ 70368744177664) (h2 : sep.size * l.length ≤ 70368744177664) :
    Sy.Spec Tryz.prog 59 [.sl 1 strSV l, strSV sep] [] (strSV (joinT l sep)) [] :=
  Spec.of_calls fun κ w vs hi hr _ => by
    simp only [RdL] at hr
    obtain ⟨v, r, rfl, h3, u, r', rfl, h4, rfl⟩ := hr
    have h4' : u = .string sep := by simpa only [strSV, Rd] using h4
    subst h4'
    rcases strs_cells h3 with ⟨rfl, a, c, rfl⟩ | ⟨b, o, c, rfl, hc, hb, hcell⟩
    · exact (Tryz.strings_Join_none a c sep w).mono fun e w' ⟨he, hw⟩ => ⟨he, hw ▸ RowKit.Below.refl _ _⟩
    · exact Tryz.strings_Join b o c l sep w hcell hb (by omega) hc (join_few h1 h2)

/-- strings.Index of one byte. -/
theorem strIndexS (s : ByteArray) (c : UInt8) (m : Int) (hm : Lib.indexByte s.data.toList c = m) : Sy.Spec Tryz.prog 113 [strSV s, strSV ⟨#[c]⟩] [] (intSV m) [] :=
  Spec.of_calls fun κ w vs hi hr _ => by
    subst hm
    simp only [RdL] at hr
    obtain ⟨v, r, rfl, h3, u, r', rfl, h4, rfl⟩ := hr
    have h3' : v = .string s := by simpa only [strSV, Rd] using h3
    have h4' : u = .string ⟨#[c]⟩ := by simpa only [strSV, Rd] using h4
    subst h3' h4'
    exact (Tryz.strings_Index_one s c w).mono fun e w' ⟨he, hw⟩ => ⟨he, hw ▸ RowKit.Below.refl _ _⟩

/-- strings.Count of one byte. -/
theorem strCountS (s : ByteArray) (c : UInt8) (n : Nat) (hn : s.data.toList.count c = n) : Sy.Spec Tryz.prog 112 [strSV s, strSV ⟨#[c]⟩] [] (intSV n) [] :=
  Spec.of_calls fun κ w vs hi hr _ => by
    subst hn
    simp only [RdL] at hr
    obtain ⟨v, r, rfl, h3, u, r', rfl, h4, rfl⟩ := hr
    have h3' : v = .string s := by simpa only [strSV, Rd] using h3
    have h4' : u = .string ⟨#[c]⟩ := by simpa only [strSV, Rd] using h4
    subst h3' h4'
    exact (Tryz.strings_Count_one s c w).mono fun e w' ⟨he, hw⟩ => ⟨he, hw ▸ RowKit.Below.refl _ _⟩

/-- Where the byte c is first; the whole, if it is nowhere. -/
def idxN (c : UInt8) (l : List UInt8) : Nat := (Lib.indexByte l c).toNat
/-- What is left behind j bytes c. -/
def restL (c : UInt8) (l : List UInt8) : Nat → List UInt8
  | 0 => l
  | j + 1 => (restL c l j).drop (idxN c (restL c l j) + 1)
def pieceL (c : UInt8) (l : List UInt8) (j : Nat) : List UInt8 := (restL c l j).take (idxN c (restL c l j))
def mkT (l : List UInt8) : ByteArray := ⟨l.toArray⟩
/-- What stands between bytes c. -/
def splitT (c : UInt8) (s : ByteArray) : List ByteArray :=
  (List.range (s.data.toList.count c)).map (fun j => mkT (pieceL c s.data.toList j)) ++ [mkT (restL c s.data.toList (s.data.toList.count c))]

theorem index_there : ∀ {l : List UInt8} {c : UInt8}, c ∈ l → 0 ≤ Lib.indexByte l c ∧ (Lib.indexByte l c).toNat < l.length
  | b :: l, c, h => by
    unfold Lib.indexByte
    by_cases hb : b == c
    · rw [if_pos hb]; simp
    · rw [if_neg hb]
      have hm' : c ∈ l := by
        rcases List.mem_cons.1 h with h | h
        · exact absurd (by simp [h]) hb
        · exact h
      have := index_there hm'
      rw [if_neg (by simp; omega)]
      simp only [List.length_cons]
      omega

theorem count_behind : ∀ {l : List UInt8} {c : UInt8}, c ∈ l → (l.drop (idxN c l + 1)).count c + 1 = l.count c
  | b :: l, c, h => by
    unfold idxN Lib.indexByte
    by_cases hb : b == c
    · rw [if_pos hb, List.count_cons, if_pos hb]; simp
    · rw [if_neg hb]
      have hm' : c ∈ l := by
        rcases List.mem_cons.1 h with h | h
        · exact absurd (by simp [h]) hb
        · exact h
      have h1 := index_there hm'
      rw [if_neg (by simp; omega), List.count_cons, if_neg hb, Nat.add_zero, ← count_behind hm']
      have e : (Lib.indexByte l c + 1).toNat = idxN c l + 1 := by unfold idxN; omega
      rw [e, List.drop_succ_cons]

theorem count_rest (c : UInt8) (l : List UInt8) : ∀ j, j ≤ l.count c → (restL c l j).count c + j = l.count c
  | 0, _ => rfl
  | j + 1, h => by
    have ih := count_rest c l j (by omega)
    have hm' : c ∈ restL c l j := List.count_pos_iff.1 (by omega)
    have := count_behind hm'
    rw [restL]
    omega

theorem rest_there {c : UInt8} {l : List UInt8} {j : Nat} (h : j < l.count c) : c ∈ restL c l j :=
  List.count_pos_iff.1 (by have := count_rest c l j (by omega); omega)

end Go.Sy.YtlfopmhekhifoaaGreatDoor

namespace Go.Sy.YtlfopmhekhifoaaGreatDoor
open Go.Proofs

def cntT (c : UInt8) (s : ByteArray) : Nat := s.data.toList.count c

/-- The words so far, and nothing yet behind them. -/
def splitU (c : UInt8) (s : ByteArray) (j : Nat) : List ByteArray :=
  (List.range j).map (fun j => mkT (pieceL c s.data.toList j)) ++ List.replicate (cntT c s + 1 - j) ⟨#[]⟩

theorem splitU_length (c : UInt8) (s : ByteArray) (j : Nat) (h : j ≤ cntT c s) : (splitU c s j).length = cntT c s + 1 := by
  simp only [splitU, List.length_append, List.length_map, List.length_range, List.length_replicate]; omega

theorem splitU_zero (c : UInt8) (s : ByteArray) : splitU c s 0 = List.replicate (cntT c s + 1) ⟨#[]⟩ := by
  simp [splitU]

theorem splitU_succ (c : UInt8) (s : ByteArray) (j : Nat) (h : j < cntT c s) : splitU c s (j + 1) = (splitU c s j).set j (mkT (pieceL c s.data.toList j)) := by
  have e : cntT c s + 1 - j = (cntT c s + 1 - (j + 1)) + 1 := by omega
  have el : ((List.range j).map (fun j => mkT (pieceL c s.data.toList j))).length = j := by simp
  rw [splitU, splitU, List.set_append_right _ _ (by omega), el, Nat.sub_self, List.range_succ, List.map_append, e, List.replicate_succ, List.set_cons_zero]
  simp

theorem splitU_end (c : UInt8) (s : ByteArray) : (splitU c s (cntT c s)).set (cntT c s) (mkT (restL c s.data.toList (cntT c s))) = splitT c s := by
  have e : cntT c s + 1 - cntT c s = 0 + 1 := by omega
  have el : ((List.range (cntT c s)).map (fun j => mkT (pieceL c s.data.toList j))).length = cntT c s := by simp
  rw [splitU, List.set_append_right _ _ (by omega), el, Nat.sub_self, e, List.replicate_succ, List.set_cons_zero]
  rfl

theorem splitT_length (c : UInt8) (s : ByteArray) : (splitT c s).length = cntT c s + 1 := by simp only [splitT, List.length_append, List.length_map, List.length_range, List.length_singleton]; rfl

theorem restL_le (c : UInt8) (l : List UInt8) : ∀ j, (restL c l j).length ≤ l.length
  | 0 => Nat.le_refl _
  | j + 1 => by rw [restL, List.length_drop]; have := restL_le c l j; omega

theorem ext_list {a b : ByteArray} (h : a.data.toList = b.data.toList) : a = b := by
  cases a; cases b; simp only [ByteArray.mk.injEq]; exact Array.toList_inj.1 h

theorem mkT_size (l : List UInt8) : (mkT l).size = l.length := by simp [mkT, ByteArray.size]
theorem mkT_list (l : List UInt8) : (mkT l).data.toList = l := by simp [mkT]
theorem mkT_extract (l : List UInt8) (i j : Nat) : (mkT l).extract i j = mkT ((l.take j).drop i) := by
  apply ext_list
  simp [mkT, ByteArray.data_extract, List.extract_eq_take_drop, List.drop_take]

theorem mkT_self (s : ByteArray) : mkT s.data.toList = s := ext_list (by simp [mkT])

theorem piece_eq {c : UInt8} {s : ByteArray} {j m : Nat} (h : Lib.indexByte (restL c s.data.toList j) c = m) : pieceL c s.data.toList j = (restL c s.data.toList j).take m := by
  rw [pieceL, idxN, h, Int.toNat_natCast]
theorem rest_eq {c : UInt8} {s : ByteArray} {j m : Nat} (h : Lib.indexByte (restL c s.data.toList j) c = m) : restL c s.data.toList (j + 1) = (restL c s.data.toList j).drop (m + 1) := by
  rw [restL, idxN, h, Int.toNat_natCast]

set_option maxRecDepth 20000 in
theorem genSplitS (s : ByteArray) (c : UInt8) (hs : s.size < 100000) : Sy.Spec Tryz.prog 78 [strSV s, strSV ⟨#[c]⟩, intSV 0, intSV (-1)] [] (.sl 1 strSV (splitT c s)) [] := contract Γ hm 100 F78 Tryz.ntmps78 rfl fun F hF => by
  have hcl : cntT c s ≤ s.size := List.count_le_length
  have h0 := splitU_zero c s
  have hend := splitU_end c s
  have hlen := splitU_length c s
  have hsucc := splitU_succ c s
  have hthere : ∀ j, j < cntT c s → c ∈ restL c s.data.toList j := fun j hj => rest_there hj
  have hle := restL_le c s.data.toList
  have hsz : s.data.toList.length = s.size := rfl
  have hp := fun j m => piece_eq (c := c) (s := s) (j := j) (m := m)
  have hq := fun j m => rest_eq (c := c) (s := s) (j := j) (m := m)
  obtain ⟨n, hn⟩ : ∃ n, cntT c s = n := ⟨_, rfl⟩
  rw [hn] at hcl h0 hend hlen hsucc hthere
  ((conv=>whnf);repeat((first|refine aF ?_|refine aT ?_);(first|refine rG Γ hm ?_|refine rD Γ hm (by kernel_rfl) ?_);conv=>whnf))
  refine call0 (strCountS s c n hn) F112 rfl rfl rfl rfl rfl ?_
  ((first|refine rG Γ hm ?_|refine rD Γ hm (by kernel_rfl) ?_);(conv=>whnf);repeat((first|refine aF ?_|refine aT ?_);(first|refine rG Γ hm ?_|refine rD Γ hm (by kernel_rfl) ?_);conv=>whnf))
  refine ⟨by unfold I64; omega, ?_⟩
  ((conv=>whnf);repeat((first|refine aF ?_|refine aT ?_);(first|refine rG Γ hm ?_|refine rD Γ hm (by kernel_rfl) ?_);conv=>whnf))
  refine ⟨by unfold I64; omega, ?_⟩
  ((conv=>whnf);repeat((first|refine aF ?_|refine aT ?_);(first|refine rG Γ hm ?_|refine rD Γ hm (by kernel_rfl) ?_);conv=>whnf))
  refine stepOp (good_min_le rfl rfl rfl (by omega)) rfl rfl ?_
  ((first|refine rG Γ hm ?_|refine rD Γ hm (by kernel_rfl) ?_);(conv=>whnf);repeat((first|refine aF ?_|refine aT ?_);(first|refine rG Γ hm ?_|refine rD Γ hm (by kernel_rfl) ?_);conv=>whnf))
  refine stepOp (good_makeSlice Γ.toTy (d := 31) (n := n + 1) strSV ⟨#[]⟩ rfl rfl rfl rfl rfl rfl (congrArg (fun z => SV.val (.int .i64 z)) (Int.natCast_succ n).symm) (congrArg (fun z => SV.val (.int .i64 z)) (Int.natCast_succ n).symm) (by omega) (by omega) rfl rfl rfl) rfl rfl ?_
  rw [← h0]
  clear h0
  ((first|refine rG Γ hm ?_|refine rD Γ hm (by kernel_rfl) ?_);(conv=>whnf);repeat((first|refine aF ?_|refine aT ?_);(first|refine rG Γ hm ?_|refine rD Γ hm (by kernel_rfl) ?_);conv=>whnf))
  refine ⟨by unfold I64; omega, ?_⟩
  ((conv=>whnf);repeat((first|refine aF ?_|refine aT ?_);(first|refine rG Γ hm ?_|refine rD Γ hm (by kernel_rfl) ?_);conv=>whnf))
  generalize hR : restL c s.data.toList = rest at *
  generalize hU : splitU c s = u at *
  generalize hP : pieceL c s.data.toList = piece at *
  refine G_count n (fun j => [(0, strSV (mkT (rest j))), (1, strSV ⟨#[c]⟩), (2, intSV 0), (3, intSV n), (9, .osl 31), (10, intSV j)]) (fun j => [(31, .row 1 strSV (u j))]) []
    ⟨⟨congrArg strSV (by rw [← hR]; exact (mkT_self s).symm), rfl, rfl, rfl, rfl, rfl, congrArg (fun z => SV.val (.int .i64 z)) (by omega), rfl, rfl, rfl, rfl, rfl, trivial⟩, ⟨.inl rfl, rfl, trivial⟩, rfl, rfl⟩ ?_
  intro j hj
  have hlj := hlen j hj
  have hlr := hle j
  have hc1 : ((⟨#[c]⟩ : ByteArray).size : Int) = 1 := rfl
  ((first|refine rG Γ hm ?_|refine rD Γ hm (by kernel_rfl) ?_);(conv=>whnf);repeat((first|refine aF ?_|refine aT ?_);(first|refine rG Γ hm ?_|refine rD Γ hm (by kernel_rfl) ?_);conv=>whnf))
  refine ⟨fun h => ?_, fun h => ?_⟩
  · have hlt : j < n := by simpa using h
    have hi := index_there (hthere j hlt)
    have hpj := hp j
    have hqj := hq j
    have hsj := hsucc j hlt
    generalize hrj : rest j = r at *
    generalize u j = uj at *
    obtain ⟨m, hm'⟩ : ∃ m : Nat, Lib.indexByte r c = m := ⟨(Lib.indexByte r c).toNat, by omega⟩
    have hpm := hpj m hm'
    have hqm := hqj m hm'
    rw [hm', Int.toNat_natCast] at hi
    have hsm := mkT_size r
    ((first|refine rG Γ hm ?_|refine rD Γ hm (by kernel_rfl) ?_);(conv=>whnf);repeat((first|refine aF ?_|refine aT ?_);(first|refine rG Γ hm ?_|refine rD Γ hm (by kernel_rfl) ?_);conv=>whnf))
    refine call0 (strIndexS (mkT r) c m (by rw [mkT_list]; exact hm')) F113 rfl rfl rfl rfl rfl ?_
    ((first|refine rG Γ hm ?_|refine rD Γ hm (by kernel_rfl) ?_);(conv=>whnf);repeat((first|refine aF ?_|refine aT ?_);(first|refine rG Γ hm ?_|refine rD Γ hm (by kernel_rfl) ?_);conv=>whnf))
    refine ⟨by unfold I64; omega, ?_⟩
    ((conv=>whnf);repeat((first|refine aF ?_|refine aT ?_);(first|refine rG Γ hm ?_|refine rD Γ hm (by kernel_rfl) ?_);conv=>whnf))
    refine ⟨⟨by omega, by omega, by omega⟩, ?_⟩
    ((conv=>whnf);repeat((first|refine aF ?_|refine aT ?_);(first|refine rG Γ hm ?_|refine rD Γ hm (by kernel_rfl) ?_);conv=>whnf))
    refine ⟨by omega, by omega, ?_⟩
    ((conv=>whnf);repeat((first|refine aF ?_|refine aT ?_);(first|refine rG Γ hm ?_|refine rD Γ hm (by kernel_rfl) ?_);conv=>whnf))
    have hx : (mkT r).extract (Int.toNat 0) ((m : Int) + 0).toNat = mkT (r.take m) := by
      rw [mkT_extract]; simp
    have hy : (mkT r).extract ((m : Int) + ((⟨#[c]⟩ : ByteArray).size : Nat)).toNat (((mkT r).size : Nat) : Int).toNat = mkT (r.drop (m + 1)) := by
      rw [mkT_extract, hc1, mkT_size, Int.toNat_natCast, List.take_length]
      rfl
    refine ⟨rfl, by omega, mkT (r.take m), congrArg (fun z => [strSV z]) hx.symm, rfl, ?_⟩
    ((conv=>whnf);repeat((first|refine aF ?_|refine aT ?_);(first|refine rG Γ hm ?_|refine rD Γ hm (by kernel_rfl) ?_);conv=>whnf))
    refine ⟨by unfold I64; omega, ?_⟩
    ((conv=>whnf);repeat((first|refine aF ?_|refine aT ?_);(first|refine rG Γ hm ?_|refine rD Γ hm (by kernel_rfl) ?_);conv=>whnf))
    refine ⟨⟨by omega, by omega, by omega⟩, ?_⟩
    ((conv=>whnf);repeat((first|refine aF ?_|refine aT ?_);(first|refine rG Γ hm ?_|refine rD Γ hm (by kernel_rfl) ?_);conv=>whnf))
    refine ⟨by unfold I64; omega, ?_⟩
    ((conv=>whnf);repeat((first|refine aF ?_|refine aT ?_);(first|refine rG Γ hm ?_|refine rD Γ hm (by kernel_rfl) ?_);conv=>whnf))
    refine G_next [] (by omega) ⟨⟨congrArg strSV (by rw [hqm]; exact hy.symm), rfl, rfl, rfl, rfl, rfl, rfl, rfl, rfl, rfl, rfl, rfl, trivial⟩, ⟨.inl (congrArg (Ob.row 1 strSV) (by rw [hsj, hpm]; rfl)), rfl, trivial⟩, rfl, rfl⟩
  · have : j = n := by have := of_decide_eq_false h; omega
    subst this
    ((first|refine rG Γ hm ?_|refine rD Γ hm (by kernel_rfl) ?_);(conv=>whnf);repeat((first|refine aF ?_|refine aT ?_);(first|refine rG Γ hm ?_|refine rD Γ hm (by kernel_rfl) ?_);conv=>whnf))
    refine ⟨by omega, by omega, ?_⟩
    ((conv=>whnf);repeat((first|refine aF ?_|refine aT ?_);(first|refine rG Γ hm ?_|refine rD Γ hm (by kernel_rfl) ?_);conv=>whnf))
    refine ⟨rfl, by omega, mkT (rest j), rfl, rfl, ?_⟩
    ((conv=>whnf);repeat((first|refine aF ?_|refine aT ?_);(first|refine rG Γ hm ?_|refine rD Γ hm (by kernel_rfl) ?_);conv=>whnf))
    refine ⟨by unfold I64; omega, ?_⟩
    ((conv=>whnf);repeat((first|refine aF ?_|refine aT ?_);(first|refine rG Γ hm ?_|refine rD Γ hm (by kernel_rfl) ?_);conv=>whnf))
    refine stepOp (good_slice_osl Γ.toTy (d := 65) (hi := j + 1) rfl rfl rfl rfl rfl (by decide) rfl (.inl ⟨rfl, rfl⟩) (.inr ⟨_, _, rfl, congrArg (fun z => SV.val (.int .i64 z)) (Int.natCast_succ j).symm⟩) (by rw [List.length_set]; omega)) rfl rfl ?_
    have hE : ((u j).set ((j : Int).toNat) (mkT (rest j))).take (j + 1) = splitT c s := by
      rw [← hend, List.take_of_length_le (by rw [List.length_set]; omega)]
      rfl
    rw [hE]
    refine G_data 65 rfl ?_
    ((first|refine rG Γ hm ?_|refine rD Γ hm (by kernel_rfl) ?_);(conv=>whnf);repeat((first|refine aF ?_|refine aT ?_);(first|refine rG Γ hm ?_|refine rD Γ hm (by kernel_rfl) ?_);conv=>whnf))
    exact done0 rfl (.cons .tmp .nil) rfl rfl

/-- strings.Split. -/
theorem splitS (s : ByteArray) (c : UInt8) (hs : s.size < 100000) : Sy.Spec Tryz.prog 29 [strSV s, strSV ⟨#[c]⟩] [] (.sl 1 strSV (splitT c s)) [] := contract Γ hm 100 F29 Tryz.ntmps29 rfl fun F hF => by
  have q := genSplitS s c hs
  generalize splitT c s = l at *
  ((conv=>whnf);repeat((first|refine aF ?_|refine aT ?_);(first|refine rG Γ hm ?_|refine rD Γ hm (by kernel_rfl) ?_);conv=>whnf))
  refine call0 q F78 rfl rfl rfl rfl rfl ?_
  ((first|refine rG Γ hm ?_|refine rD Γ hm (by kernel_rfl) ?_);(conv=>whnf);repeat((first|refine aF ?_|refine aT ?_);(first|refine rG Γ hm ?_|refine rD Γ hm (by kernel_rfl) ?_);conv=>whnf))
  exact done0 rfl (.cons .tmp .nil) rfl rfl

end Go.Sy.YtlfopmhekhifoaaGreatDoor

namespace Go.Sy.YtlfopmhekhifoaaGreatDoor
open Go.Proofs

/-- A list, of which the first and the last j items have been swapped. -/
def revU {α : Type} (l : List α) (j : Nat) : List α := List.ofFn fun i : Fin l.length => if i.1 < j ∨ l.length - j ≤ i.1 then l[l.length - 1 - i.1] else l[i.1]

theorem revU_length {α : Type} (l : List α) (j : Nat) : (revU l j).length = l.length := by simp [revU]
theorem revU_get {α : Type} (l : List α) (j i : Nat) (h : i < l.length) : (revU l j)[i]'(by rw [revU_length]; exact h) = if i < j ∨ l.length - j ≤ i then l[l.length - 1 - i] else l[i] := by simp [revU]

theorem revU_zero {α : Type} (l : List α) : revU l 0 = l := by
  apply List.ext_getElem (revU_length l 0)
  intro i h1 h2
  rw [revU_get l 0 i h2, if_neg (by omega)]

theorem revU_end {α : Type} (l : List α) (j : Nat) (h : l.length ≤ 2 * j + 1) : revU l j = l.reverse := by
  apply List.ext_getElem (by rw [revU_length, List.length_reverse])
  intro i h1 h2
  have hi : i < l.length := by rw [revU_length] at h1; exact h1
  rw [revU_get l j i hi, List.getElem_reverse]
  split
  · rfl
  · congr 1; omega

theorem revU_succ {α : Type} (l : List α) (j : Nat) (h : 2 * j + 1 < l.length) :
    ((revU l j).set j ((revU l j)[l.length - 1 - j]'(by rw [revU_length]; omega))).set (l.length - 1 - j) ((revU l j)[j]'(by rw [revU_length]; omega)) = revU l (j + 1) := by
  apply List.ext_getElem (by simp only [List.length_set, revU_length])
  intro i h1 h2
  have hi : i < l.length := by rw [revU_length] at h2; exact h2
  rw [List.getElem_set, List.getElem_set, revU_get l (j + 1) i hi, revU_get l j i hi, revU_get l j _ (by omega), revU_get l j _ (by omega)]
  by_cases e1 : l.length - 1 - j = i
  · rw [if_pos e1, if_neg (by omega), if_pos (by omega)]
    congr 1; omega
  · rw [if_neg e1]
    by_cases e2 : j = i
    · rw [if_pos e2, if_neg (by omega), if_pos (by omega)]
      congr 1; omega
    · rw [if_neg e2]
      by_cases e3 : i < j ∨ l.length - j ≤ i
      · rw [if_pos e3, if_pos (by omega)]
      · rw [if_neg e3, if_neg (by omega)]

theorem revU_next {α : Type} {l u : List α} {j k : Nat} (hu : revU l j = u) (h : 2 * j + 1 < l.length) (hk : l.length - 1 - j = k) (h1 : k < u.length) (h2 : j < u.length) : (u.set j u[k]).set k u[j] = revU l (j + 1) := by
  subst hu hk
  exact revU_succ l j h

/-- A number's digits, the last one first. -/
def revDigs (u : Nat) : List UInt8 := if u < 10 then [UInt8.ofNat (48 + u)] else UInt8.ofNat (48 + u % 10) :: revDigs (u / 10)

theorem revDigs_pos (u : Nat) : 0 < (revDigs u).length := by
  rw [revDigs]; split <;> simp

theorem revDigs_len : ∀ (j u : Nat), j + 1 < (revDigs u).length ↔ 0 < u / 10 ^ (j + 1)
  | 0, u => by
    rw [revDigs]
    split
    · simp; omega
    · have := revDigs_pos (u / 10)
      simp only [List.length_cons]; omega
  | j + 1, u => by
    rw [revDigs]
    have e : u / 10 ^ (j + 1 + 1) = u / 10 / 10 ^ (j + 1) := by rw [Nat.div_div_eq_div_mul, Nat.pow_succ 10 (j + 1), Nat.mul_comm (10 ^ (j + 1))]
    rw [e]
    split
    · have : u / 10 = 0 := by omega
      rw [this]; simp
    · rw [List.length_cons, ← revDigs_len j (u / 10)]; omega

theorem revDigs_get : ∀ (j u : Nat) (h : j < (revDigs u).length), (revDigs u)[j] = UInt8.ofNat (48 + u / 10 ^ j % 10)
  | 0, u, h => by
    have e : (revDigs u)[0] = UInt8.ofNat (48 + u % 10) := by
      simp only [revDigs.eq_1 u]
      split
      · show UInt8.ofNat (48 + u) = UInt8.ofNat (48 + u % 10)
        rw [Nat.mod_eq_of_lt (by assumption)]
      · rfl
    rw [e]; simp
  | j + 1, u, h => by
    have hu : ¬ u < 10 := fun hu => by rw [revDigs, if_pos hu] at h; simp at h
    have e0 : revDigs u = UInt8.ofNat (48 + u % 10) :: revDigs (u / 10) := by rw [revDigs.eq_1 u, if_neg hu]
    have e : u / 10 ^ (j + 1) = u / 10 / 10 ^ j := by rw [Nat.div_div_eq_div_mul, Nat.pow_succ, Nat.mul_comm]
    have hl : j < (revDigs (u / 10)).length := by rw [e0] at h; simpa using h
    have := revDigs_get j (u / 10) hl
    rw [e, ← this]
    simp only [e0, List.getElem_cons_succ]

theorem revDigs_short : ∀ (k u : Nat), u < 10 ^ k → (revDigs u).length ≤ k + 1
  | 0, u, h => by rw [revDigs, if_pos (by simp at h; omega)]; simp
  | k + 1, u, h => by
    rw [revDigs]
    split
    · simp
    · have := revDigs_short k (u / 10) (by rw [Nat.pow_succ] at h; omega)
      simp only [List.length_cons]; omega

/-- A number as a text. -/
def numL (n : Int) : List UInt8 := (revDigs n.natAbs ++ (if n < 0 then [45] else [])).reverse
def numT (n : Int) : ByteArray := mkT (numL n)

theorem numL_nat (m : Nat) : numL m = (revDigs m).reverse := by
  rw [numL, Int.natAbs_natCast, if_neg (by omega), List.append_nil]

set_option maxRecDepth 20000 in
theorem numTextS (m : Nat) (hb : m < 9223372036854775808) : Sy.Spec Tryz.prog 61 [intSV m] [] (strSV (numT m)) [] := contract Γ hm 100 F61 Tryz.ntmps61 rfl fun F hF => by
  have hpos := revDigs_pos m
  have hlen := fun j => revDigs_len j m
  have hget := fun j => revDigs_get j m
  have hsh : (revDigs m).length ≤ 20 := revDigs_short 19 m (by omega)
  rw [numT, numL_nat]
  generalize revDigs m = D at *
  ((conv=>whnf);repeat((first|refine aF ?_|refine aT ?_);(first|refine rG Γ hm ?_|refine rD Γ hm (by kernel_rfl) ?_);conv=>whnf))
  refine G_adopt 3 1000 1 byteSV rfl rfl ?_
  refine G_count D.length (fun j => [(0, intSV m), (3, .osl 1000), (4, u64SV (m / 10 ^ j : Nat)), (5, boolSV (decide (j < D.length)))]) (fun j => [(1000, .row 1 byteSV (D.take j))]) []
    ⟨⟨rfl, rfl, rfl, rfl, congrArg (fun z => SV.val (.int .u64 z)) (by rw [IntKind.wrap_u64]; omega), rfl, congrArg boolSV (decide_eq_true hpos), rfl, trivial⟩, ⟨.inl rfl, rfl, trivial⟩, rfl, rfl⟩ ?_
  intro j hj
  ((first|refine rG Γ hm ?_|refine rD Γ hm (by kernel_rfl) ?_);(conv=>whnf);repeat((first|refine aF ?_|refine aT ?_);(first|refine rG Γ hm ?_|refine rD Γ hm (by kernel_rfl) ?_);conv=>whnf))
  refine ⟨fun h => ?_, fun h => ?_⟩
  · have hlt : j < D.length := of_decide_eq_true h
    have hgj := hget j hlt
    have hlj := hlen j
    have e : m / 10 ^ (j + 1) = m / 10 ^ j / 10 := by rw [Nat.div_div_eq_div_mul, Nat.pow_succ]
    have hq : m / 10 ^ j ≤ m := Nat.div_le_self _ _
    rw [e] at hlj
    ((first|refine rG Γ hm ?_|refine rD Γ hm (by kernel_rfl) ?_);(conv=>whnf);repeat((first|refine aF ?_|refine aT ?_);(first|refine rG Γ hm ?_|refine rD Γ hm (by kernel_rfl) ?_);conv=>whnf))
    refine ⟨by decide, ?_⟩
    ((conv=>whnf);repeat((first|refine aF ?_|refine aT ?_);(first|refine rG Γ hm ?_|refine rD Γ hm (by kernel_rfl) ?_);conv=>whnf))
    refine stepOp (good_appendT Γ.toTy 23 rfl rfl rfl rfl rfl (.row rfl) (.lit (l := [D[j]]) rfl ?_) (by simp) ?_ ?_) rfl rfl ?_
    · rw [hgj]
      simp only [List.map_cons, List.map_nil, byteSV]
      congr 3
      generalize m / 10 ^ j = q at *
      rw [Int.tmod_eq_emod_of_nonneg (Int.natCast_nonneg _), IntKind.wrap_u64, IntKind.wrap_u8]
      simp
    · simp; omega
    · simp; omega
    ((first|refine rG Γ hm ?_|refine rD Γ hm (by kernel_rfl) ?_);(conv=>whnf);repeat((first|refine aF ?_|refine aT ?_);(first|refine rG Γ hm ?_|refine rD Γ hm (by kernel_rfl) ?_);conv=>whnf))
    refine ⟨by decide, ?_⟩
    ((conv=>whnf);repeat((first|refine aF ?_|refine aT ?_);(first|refine rG Γ hm ?_|refine rD Γ hm (by kernel_rfl) ?_);conv=>whnf))
    refine G_next [(1000, 23)] hlt ⟨⟨rfl, rfl, rfl, rfl, congrArg (fun z => SV.val (.int .u64 z)) ?_, rfl, congrArg boolSV ?_, rfl, trivial⟩, ⟨.inl (congrArg (Ob.row 1 byteSV) (List.take_succ_eq_append_getElem hlt)), rfl, trivial⟩, rfl, rfl⟩
    · rw [e, Int.tdiv_eq_ediv_of_nonneg (Int.natCast_nonneg _), IntKind.wrap_u64]
      generalize m / 10 ^ j = q at *
      omega
    · rw [Int.tdiv_eq_ediv_of_nonneg (Int.natCast_nonneg _), IntKind.wrap_u64]
      generalize m / 10 ^ j = q at *
      refine decide_eq_decide.2 ?_
      omega
  · have : j = D.length := by have := of_decide_eq_false h; omega
    subst this
    rw [List.take_length]
    ((first|refine rG Γ hm ?_|refine rD Γ hm (by kernel_rfl) ?_);(conv=>whnf);repeat((first|refine aF ?_|refine aT ?_);(first|refine rG Γ hm ?_|refine rD Γ hm (by kernel_rfl) ?_);conv=>whnf))
    refine ⟨by unfold I64; omega, ?_⟩
    ((conv=>whnf);repeat((first|refine aF ?_|refine aT ?_);(first|refine rG Γ hm ?_|refine rD Γ hm (by kernel_rfl) ?_);conv=>whnf))
    refine G_count (D.length / 2) (fun j => [(3, .osl 1000), (6, intSV j), (7, intSV (D.length - 1 - j : Nat))]) (fun j => [(1000, .row 1 byteSV (revU D j))]) []
      ⟨⟨rfl, rfl, rfl, rfl, congrArg (fun z => SV.val (.int .i64 z)) (by omega), rfl, trivial⟩, ⟨.inl (congrArg (Ob.row 1 byteSV) (revU_zero D)), rfl, trivial⟩, rfl, rfl⟩ ?_
    intro i hi
    have hul := revU_length D i
    ((first|refine rG Γ hm ?_|refine rD Γ hm (by kernel_rfl) ?_);(conv=>whnf);repeat((first|refine aF ?_|refine aT ?_);(first|refine rG Γ hm ?_|refine rD Γ hm (by kernel_rfl) ?_);conv=>whnf))
    refine ⟨fun h2 => ?_, fun h2 => ?_⟩
    · have hlt : 2 * i + 1 < D.length := by have := of_decide_eq_true h2; omega
      obtain ⟨u, hu⟩ : ∃ u, revU D i = u := ⟨_, rfl⟩
      obtain ⟨k, hk⟩ : ∃ k, D.length - 1 - i = k := ⟨_, rfl⟩
      rw [hu] at hul
      have hs := revU_next hu hlt hk (by omega) (by omega)
      rw [hu, hk]
      ((first|refine rG Γ hm ?_|refine rD Γ hm (by kernel_rfl) ?_);(conv=>whnf);repeat((first|refine aF ?_|refine aT ?_);(first|refine rG Γ hm ?_|refine rD Γ hm (by kernel_rfl) ?_);conv=>whnf))
      refine ⟨by omega, by omega, ?_⟩
      ((conv=>whnf);repeat((first|refine aF ?_|refine aT ?_);(first|refine rG Γ hm ?_|refine rD Γ hm (by kernel_rfl) ?_);conv=>whnf))
      refine ⟨rfl, by omega, ?_⟩
      ((conv=>whnf);repeat((first|refine aF ?_|refine aT ?_);(first|refine rG Γ hm ?_|refine rD Γ hm (by kernel_rfl) ?_);conv=>whnf))
      refine ⟨by omega, by omega, ?_⟩
      ((conv=>whnf);repeat((first|refine aF ?_|refine aT ?_);(first|refine rG Γ hm ?_|refine rD Γ hm (by kernel_rfl) ?_);conv=>whnf))
      refine ⟨rfl, by omega, ?_⟩
      ((conv=>whnf);repeat((first|refine aF ?_|refine aT ?_);(first|refine rG Γ hm ?_|refine rD Γ hm (by kernel_rfl) ?_);conv=>whnf))
      refine ⟨by omega, by omega, ?_⟩
      ((conv=>whnf);repeat((first|refine aF ?_|refine aT ?_);(first|refine rG Γ hm ?_|refine rD Γ hm (by kernel_rfl) ?_);conv=>whnf))
      refine ⟨rfl, by omega, u[k], rfl, rfl, ?_⟩
      ((conv=>whnf);repeat((first|refine aF ?_|refine aT ?_);(first|refine rG Γ hm ?_|refine rD Γ hm (by kernel_rfl) ?_);conv=>whnf))
      refine ⟨by omega, by simp; omega, ?_⟩
      ((conv=>whnf);repeat((first|refine aF ?_|refine aT ?_);(first|refine rG Γ hm ?_|refine rD Γ hm (by kernel_rfl) ?_);conv=>whnf))
      refine ⟨rfl, by simp; omega, u[i], rfl, rfl, ?_⟩
      ((conv=>whnf);repeat((first|refine aF ?_|refine aT ?_);(first|refine rG Γ hm ?_|refine rD Γ hm (by kernel_rfl) ?_);conv=>whnf))
      refine ⟨(by kernel_rfl), ?_⟩
      ((conv=>whnf);repeat((first|refine aF ?_|refine aT ?_);(first|refine rG Γ hm ?_|refine rD Γ hm (by kernel_rfl) ?_);conv=>whnf))
      refine ⟨by unfold I64; omega, ?_⟩
      ((conv=>whnf);repeat((first|refine aF ?_|refine aT ?_);(first|refine rG Γ hm ?_|refine rD Γ hm (by kernel_rfl) ?_);conv=>whnf))
      refine ⟨by unfold I64; omega, ?_⟩
      ((conv=>whnf);repeat((first|refine aF ?_|refine aT ?_);(first|refine rG Γ hm ?_|refine rD Γ hm (by kernel_rfl) ?_);conv=>whnf))
      refine G_next [] (by omega) ⟨⟨rfl, rfl, rfl, rfl, congrArg (fun z => SV.val (.int .i64 z)) (by omega), rfl, trivial⟩, ⟨.inl (congrArg (Ob.row 1 byteSV) hs.symm), rfl, trivial⟩, rfl, rfl⟩
    · have h3 : D.length ≤ 2 * i + 1 := by have := of_decide_eq_false h2; omega
      rw [revU_end D i h3]
      ((first|refine rG Γ hm ?_|refine rD Γ hm (by kernel_rfl) ?_);(conv=>whnf);repeat((first|refine aF ?_|refine aT ?_);(first|refine rG Γ hm ?_|refine rD Γ hm (by kernel_rfl) ?_);conv=>whnf))
      refine stepOp (good_stringT Γ.toTy (bs := D.reverse) rfl rfl rfl rfl rfl rfl rfl (.row rfl)) rfl rfl ?_
      ((first|refine rG Γ hm ?_|refine rD Γ hm (by kernel_rfl) ?_);(conv=>whnf);repeat((first|refine aF ?_|refine aT ?_);(first|refine rG Γ hm ?_|refine rD Γ hm (by kernel_rfl) ?_);conv=>whnf))
      exact done0 rfl (.cons .tmp .nil) rfl rfl

end Go.Sy.YtlfopmhekhifoaaGreatDoor
