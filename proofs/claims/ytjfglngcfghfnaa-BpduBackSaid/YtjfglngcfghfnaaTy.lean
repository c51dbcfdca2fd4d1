/-
  The types' table of this seat's program, and its functions' own facts. Written by program (gentypes.py).
-/
import Derived.Test.YtjfglngcfghfnaaSy20
import Derived.Test.YtjfglngcfghfnaaProg
namespace Go.Sy.Ytjfglngcfghfnaa
open Go.Proofs

theorem ty1 : tiOf Try.prog 1 = some ⟨.func, 1, [.nilFunc]⟩ := by kernel_rfl
theorem ty2 : tiOf Try.prog 2 = some ⟨.int .i64, 1, [.int .i64 0]⟩ := by kernel_rfl
theorem ty3 : tiOf Try.prog 3 = some ⟨.int .i64, 1, [.int .i64 0]⟩ := by kernel_rfl
theorem ty4 : tiOf Try.prog 4 = some ⟨.bool, 1, [.bool false]⟩ := by kernel_rfl
theorem ty5 : tiOf Try.prog 5 = some ⟨.int .u8, 1, [.int .u8 0]⟩ := by kernel_rfl
theorem ty7 : tiOf Try.prog 7 = some ⟨.struct [(0, 1), (1, 1), (2, 1), (3, 1)], 4, [.int .i64 0, .int .i64 0, .bool false, .int .u8 0]⟩ := by kernel_rfl
theorem ty9 : tiOf Try.prog 9 = some ⟨.string, 1, [.string .empty]⟩ := by kernel_rfl
theorem ty12 : tiOf Try.prog 12 = some ⟨.int .u64, 1, [.int .u64 0]⟩ := by kernel_rfl
theorem ty13 : tiOf Try.prog 13 = some ⟨.struct [(0, 1), (1, 1)], 2, [.string .empty, .int .u64 0]⟩ := by kernel_rfl
theorem ty15 : tiOf Try.prog 15 = some ⟨.ptr, 1, [.pointer none]⟩ := by kernel_rfl
theorem ty16 : tiOf Try.prog 16 = some ⟨.ptr, 1, [.pointer none]⟩ := by kernel_rfl
theorem ty17 : tiOf Try.prog 17 = some ⟨.ptr, 1, [.pointer none]⟩ := by kernel_rfl
theorem ty18 : tiOf Try.prog 18 = some ⟨.struct [(0, 1)], 1, [.pointer none]⟩ := by kernel_rfl
theorem ty20 : tiOf Try.prog 20 = some ⟨.iface, 1, [.nilIface]⟩ := by kernel_rfl
theorem ty21 : tiOf Try.prog 21 = some ⟨.int .i32, 1, [.int .i32 0]⟩ := by kernel_rfl
theorem ty22 : tiOf Try.prog 22 = some ⟨.slice 5 1 1 [.int .u8 0], 1, [.slice none 0 0]⟩ := by kernel_rfl
theorem ty23 : tiOf Try.prog 23 = some ⟨.func, 1, [.nilFunc]⟩ := by kernel_rfl
theorem ty24 : tiOf Try.prog 24 = some ⟨.int .u64, 1, [.int .u64 0]⟩ := by kernel_rfl
theorem ty25 : tiOf Try.prog 25 = some ⟨.struct [(0, 1), (1, 1), (2, 1), (3, 1), (4, 1), (5, 1), (6, 1), (7, 1), (8, 1), (9, 1)], 10, [.bool false, .bool false, .int .u64 0, .int .u64 0, .int .i64 0, .int .i64 0, .int .i64 0, .int .i64 0, .int .i64 0, .int .i64 0]⟩ := by kernel_rfl
theorem ty26 : tiOf Try.prog 26 = some ⟨.struct [(0, 1), (1, 1), (2, 1), (3, 1), (4, 1), (5, 1), (6, 1), (7, 1), (8, 1), (9, 1)], 10, [.bool false, .bool false, .int .u64 0, .int .u64 0, .int .i64 0, .int .i64 0, .int .i64 0, .int .i64 0, .int .i64 0, .int .i64 0]⟩ := by kernel_rfl
theorem ty27 : tiOf Try.prog 27 = some ⟨.int .i64, 1, [.int .i64 0]⟩ := by kernel_rfl
theorem ty29 : tiOf Try.prog 29 = some ⟨.func, 1, [.nilFunc]⟩ := by kernel_rfl
theorem ty30 : tiOf Try.prog 30 = some ⟨.struct [(0, 1), (1, 1), (2, 1), (3, 1), (4, 1), (5, 1), (6, 1), (7, 1), (8, 1), (9, 1)], 10, [.bool false, .bool false, .int .u64 0, .int .u64 0, .int .i64 0, .int .i64 0, .int .i64 0, .int .i64 0, .int .i64 0, .int .i64 0]⟩ := by kernel_rfl
theorem ty32 : tiOf Try.prog 32 = some ⟨.func, 1, [.nilFunc]⟩ := by kernel_rfl
theorem ty33 : tiOf Try.prog 33 = some ⟨.func, 1, [.nilFunc]⟩ := by kernel_rfl
theorem ty35 : tiOf Try.prog 35 = some ⟨.func, 1, [.nilFunc]⟩ := by kernel_rfl
theorem ty36 : tiOf Try.prog 36 = some ⟨.func, 1, [.nilFunc]⟩ := by kernel_rfl
theorem ty37 : tiOf Try.prog 37 = some ⟨.func, 1, [.nilFunc]⟩ := by kernel_rfl
theorem ty39 : tiOf Try.prog 39 = some ⟨.func, 1, [.nilFunc]⟩ := by kernel_rfl
theorem ty41 : tiOf Try.prog 41 = some ⟨.func, 1, [.nilFunc]⟩ := by kernel_rfl
theorem ty42 : tiOf Try.prog 42 = some ⟨.func, 1, [.nilFunc]⟩ := by kernel_rfl
theorem ty43 : tiOf Try.prog 43 = some ⟨.func, 1, [.nilFunc]⟩ := by kernel_rfl
theorem ty44 : tiOf Try.prog 44 = some ⟨.func, 1, [.nilFunc]⟩ := by kernel_rfl
theorem ty45 : tiOf Try.prog 45 = some ⟨.func, 1, [.nilFunc]⟩ := by kernel_rfl
theorem ty46 : tiOf Try.prog 46 = some ⟨.int .u16, 1, [.int .u16 0]⟩ := by kernel_rfl
theorem ty47 : tiOf Try.prog 47 = some ⟨.func, 1, [.nilFunc]⟩ := by kernel_rfl
theorem ty48 : tiOf Try.prog 48 = some ⟨.struct [(0, 1), (1, 1), (2, 1), (3, 1)], 4, [.int .u64 0, .int .u64 0, .int .i64 0, .slice none 0 0]⟩ := by kernel_rfl
theorem ty49 : tiOf Try.prog 49 = some ⟨.struct [(0, 1), (1, 1), (2, 1), (3, 1)], 4, [.int .u64 0, .int .u64 0, .int .i64 0, .slice none 0 0]⟩ := by kernel_rfl
theorem ty51 : tiOf Try.prog 51 = some ⟨.func, 1, [.nilFunc]⟩ := by kernel_rfl
theorem ty53 : tiOf Try.prog 53 = some ⟨.func, 1, [.nilFunc]⟩ := by kernel_rfl
theorem ty55 : tiOf Try.prog 55 = some ⟨.func, 1, [.nilFunc]⟩ := by kernel_rfl
theorem ty56 : tiOf Try.prog 56 = some ⟨.func, 1, [.nilFunc]⟩ := by kernel_rfl
theorem ty57 : tiOf Try.prog 57 = some ⟨.func, 1, [.nilFunc]⟩ := by kernel_rfl
theorem ty58 : tiOf Try.prog 58 = some ⟨.func, 1, [.nilFunc]⟩ := by kernel_rfl
theorem ty59 : tiOf Try.prog 59 = some ⟨.func, 1, [.nilFunc]⟩ := by kernel_rfl
theorem ty60 : tiOf Try.prog 60 = some ⟨.slice 3 1 8 [.int .i64 0], 1, [.slice none 0 0]⟩ := by kernel_rfl
theorem ty61 : tiOf Try.prog 61 = some ⟨.func, 1, [.nilFunc]⟩ := by kernel_rfl
theorem ty62 : tiOf Try.prog 62 = some ⟨.func, 1, [.nilFunc]⟩ := by kernel_rfl
theorem ty63 : tiOf Try.prog 63 = some ⟨.int .u64, 1, [.int .u64 0]⟩ := by kernel_rfl
theorem ty64 : tiOf Try.prog 64 = some ⟨.func, 1, [.nilFunc]⟩ := by kernel_rfl
theorem ty65 : tiOf Try.prog 65 = some ⟨.func, 1, [.nilFunc]⟩ := by kernel_rfl
theorem ty66 : tiOf Try.prog 66 = some ⟨.func, 1, [.nilFunc]⟩ := by kernel_rfl
theorem ty67 : tiOf Try.prog 67 = some ⟨.func, 1, [.nilFunc]⟩ := by kernel_rfl
theorem ty68 : tiOf Try.prog 68 = some ⟨.func, 1, [.nilFunc]⟩ := by kernel_rfl
theorem ty69 : tiOf Try.prog 69 = some ⟨.ptr, 1, [.pointer none]⟩ := by kernel_rfl
theorem ty70 : tiOf Try.prog 70 = some ⟨.struct [(0, 1), (1, 1)], 2, [.slice none 0 0, .int .i64 0]⟩ := by kernel_rfl
theorem ty71 : tiOf Try.prog 71 = some ⟨.struct [(0, 1), (1, 1)], 2, [.slice none 0 0, .int .i64 0]⟩ := by kernel_rfl
theorem ty72 : tiOf Try.prog 72 = some ⟨.func, 1, [.nilFunc]⟩ := by kernel_rfl
theorem ty73 : tiOf Try.prog 73 = some ⟨.func, 1, [.nilFunc]⟩ := by kernel_rfl
theorem ty74 : tiOf Try.prog 74 = some ⟨.func, 1, [.nilFunc]⟩ := by kernel_rfl
theorem ty75 : tiOf Try.prog 75 = some ⟨.func, 1, [.nilFunc]⟩ := by kernel_rfl
theorem ty76 : tiOf Try.prog 76 = some ⟨.func, 1, [.nilFunc]⟩ := by kernel_rfl
theorem ty77 : tiOf Try.prog 77 = some ⟨.func, 1, [.nilFunc]⟩ := by kernel_rfl
theorem ty78 : tiOf Try.prog 78 = some ⟨.func, 1, [.nilFunc]⟩ := by kernel_rfl
theorem ty79 : tiOf Try.prog 79 = some ⟨.func, 1, [.nilFunc]⟩ := by kernel_rfl
theorem ty80 : tiOf Try.prog 80 = some ⟨.struct [(0, 1), (1, 1), (2, 1), (3, 1)], 4, [.pointer none, .pointer none, .pointer none, .string .empty]⟩ := by kernel_rfl
theorem ty85 : tiOf Try.prog 85 = some ⟨.int .u32, 1, [.int .u32 0]⟩ := by kernel_rfl
theorem ty88 : tiOf Try.prog 88 = some ⟨.func, 1, [.nilFunc]⟩ := by kernel_rfl
theorem ty89 : tiOf Try.prog 89 = some ⟨.ptr, 1, [.pointer none]⟩ := by kernel_rfl
theorem ty92 : tiOf Try.prog 92 = some ⟨.struct [(0, 1), (1, 1), (2, 1), (3, 1), (4, 1), (5, 1), (6, 1), (7, 1), (8, 1), (9, 1), (10, 1)], 11, [.int .u64 0, .int .u64 0, .int .u32 0, .int .u8 0, .int .u8 0, .int .u8 0, .int .u8 0, .nilFunc, .pointer none, .int .i32 0, .int .i32 0]⟩ := by kernel_rfl

theorem tq26 : eqsOf Try.prog 26 = some [.bool, .bool, .int .u64, .int .u64, .int .i64, .int .i64, .int .i64, .int .i64, .int .i64, .int .i64] := by kernel_rfl
theorem tq30 : eqsOf Try.prog 30 = some [.bool, .bool, .int .u64, .int .u64, .int .i64, .int .i64, .int .i64, .int .i64, .int .i64, .int .i64] := by kernel_rfl

def tab : Tr TI := (.nd 47 (⟨.func, 1, [.nilFunc]⟩) (.nd 24 (⟨.int .u64, 1, [.int .u64 0]⟩) (.nd 13 (⟨.struct [(0, 1), (1, 1)], 2, [.string .empty, .int .u64 0]⟩) (.nd 5 (⟨.int .u8, 1, [.int .u8 0]⟩) (.nd 3 (⟨.int .i64, 1, [.int .i64 0]⟩) (.nd 2 (⟨.int .i64, 1, [.int .i64 0]⟩) (.nd 1 (⟨.func, 1, [.nilFunc]⟩) .lf .lf) .lf) (.nd 4 (⟨.bool, 1, [.bool false]⟩) .lf .lf)) (.nd 9 (⟨.string, 1, [.string .empty]⟩) (.nd 7 (⟨.struct [(0, 1), (1, 1), (2, 1), (3, 1)], 4, [.int .i64 0, .int .i64 0, .bool false, .int .u8 0]⟩) .lf .lf) (.nd 12 (⟨.int .u64, 1, [.int .u64 0]⟩) .lf .lf))) (.nd 20 (⟨.iface, 1, [.nilIface]⟩) (.nd 17 (⟨.ptr, 1, [.pointer none]⟩) (.nd 16 (⟨.ptr, 1, [.pointer none]⟩) (.nd 15 (⟨.ptr, 1, [.pointer none]⟩) .lf .lf) .lf) (.nd 18 (⟨.struct [(0, 1)], 1, [.pointer none]⟩) .lf .lf)) (.nd 22 (⟨.slice 5 1 1 [.int .u8 0], 1, [.slice none 0 0]⟩) (.nd 21 (⟨.int .i32, 1, [.int .i32 0]⟩) .lf .lf) (.nd 23 (⟨.func, 1, [.nilFunc]⟩) .lf .lf)))) (.nd 36 (⟨.func, 1, [.nilFunc]⟩) (.nd 30 (⟨.struct [(0, 1), (1, 1), (2, 1), (3, 1), (4, 1), (5, 1), (6, 1), (7, 1), (8, 1), (9, 1)], 10, [.bool false, .bool false, .int .u64 0, .int .u64 0, .int .i64 0, .int .i64 0, .int .i64 0, .int .i64 0, .int .i64 0, .int .i64 0]⟩) (.nd 27 (⟨.int .i64, 1, [.int .i64 0]⟩) (.nd 26 (⟨.struct [(0, 1), (1, 1), (2, 1), (3, 1), (4, 1), (5, 1), (6, 1), (7, 1), (8, 1), (9, 1)], 10, [.bool false, .bool false, .int .u64 0, .int .u64 0, .int .i64 0, .int .i64 0, .int .i64 0, .int .i64 0, .int .i64 0, .int .i64 0]⟩) (.nd 25 (⟨.struct [(0, 1), (1, 1), (2, 1), (3, 1), (4, 1), (5, 1), (6, 1), (7, 1), (8, 1), (9, 1)], 10, [.bool false, .bool false, .int .u64 0, .int .u64 0, .int .i64 0, .int .i64 0, .int .i64 0, .int .i64 0, .int .i64 0, .int .i64 0]⟩) .lf .lf) .lf) (.nd 29 (⟨.func, 1, [.nilFunc]⟩) .lf .lf)) (.nd 33 (⟨.func, 1, [.nilFunc]⟩) (.nd 32 (⟨.func, 1, [.nilFunc]⟩) .lf .lf) (.nd 35 (⟨.func, 1, [.nilFunc]⟩) .lf .lf))) (.nd 43 (⟨.func, 1, [.nilFunc]⟩) (.nd 41 (⟨.func, 1, [.nilFunc]⟩) (.nd 39 (⟨.func, 1, [.nilFunc]⟩) (.nd 37 (⟨.func, 1, [.nilFunc]⟩) .lf .lf) .lf) (.nd 42 (⟨.func, 1, [.nilFunc]⟩) .lf .lf)) (.nd 45 (⟨.func, 1, [.nilFunc]⟩) (.nd 44 (⟨.func, 1, [.nilFunc]⟩) .lf .lf) (.nd 46 (⟨.int .u16, 1, [.int .u16 0]⟩) .lf .lf))))) (.nd 68 (⟨.func, 1, [.nilFunc]⟩) (.nd 59 (⟨.func, 1, [.nilFunc]⟩) (.nd 55 (⟨.func, 1, [.nilFunc]⟩) (.nd 51 (⟨.func, 1, [.nilFunc]⟩) (.nd 49 (⟨.struct [(0, 1), (1, 1), (2, 1), (3, 1)], 4, [.int .u64 0, .int .u64 0, .int .i64 0, .slice none 0 0]⟩) (.nd 48 (⟨.struct [(0, 1), (1, 1), (2, 1), (3, 1)], 4, [.int .u64 0, .int .u64 0, .int .i64 0, .slice none 0 0]⟩) .lf .lf) .lf) (.nd 53 (⟨.func, 1, [.nilFunc]⟩) .lf .lf)) (.nd 57 (⟨.func, 1, [.nilFunc]⟩) (.nd 56 (⟨.func, 1, [.nilFunc]⟩) .lf .lf) (.nd 58 (⟨.func, 1, [.nilFunc]⟩) .lf .lf))) (.nd 64 (⟨.func, 1, [.nilFunc]⟩) (.nd 62 (⟨.func, 1, [.nilFunc]⟩) (.nd 61 (⟨.func, 1, [.nilFunc]⟩) (.nd 60 (⟨.slice 3 1 8 [.int .i64 0], 1, [.slice none 0 0]⟩) .lf .lf) .lf) (.nd 63 (⟨.int .u64, 1, [.int .u64 0]⟩) .lf .lf)) (.nd 66 (⟨.func, 1, [.nilFunc]⟩) (.nd 65 (⟨.func, 1, [.nilFunc]⟩) .lf .lf) (.nd 67 (⟨.func, 1, [.nilFunc]⟩) .lf .lf)))) (.nd 77 (⟨.func, 1, [.nilFunc]⟩) (.nd 73 (⟨.func, 1, [.nilFunc]⟩) (.nd 71 (⟨.struct [(0, 1), (1, 1)], 2, [.slice none 0 0, .int .i64 0]⟩) (.nd 70 (⟨.struct [(0, 1), (1, 1)], 2, [.slice none 0 0, .int .i64 0]⟩) (.nd 69 (⟨.ptr, 1, [.pointer none]⟩) .lf .lf) .lf) (.nd 72 (⟨.func, 1, [.nilFunc]⟩) .lf .lf)) (.nd 75 (⟨.func, 1, [.nilFunc]⟩) (.nd 74 (⟨.func, 1, [.nilFunc]⟩) .lf .lf) (.nd 76 (⟨.func, 1, [.nilFunc]⟩) .lf .lf))) (.nd 85 (⟨.int .u32, 1, [.int .u32 0]⟩) (.nd 79 (⟨.func, 1, [.nilFunc]⟩) (.nd 78 (⟨.func, 1, [.nilFunc]⟩) .lf .lf) (.nd 80 (⟨.struct [(0, 1), (1, 1), (2, 1), (3, 1)], 4, [.pointer none, .pointer none, .pointer none, .string .empty]⟩) .lf .lf)) (.nd 89 (⟨.ptr, 1, [.pointer none]⟩) (.nd 88 (⟨.func, 1, [.nilFunc]⟩) .lf .lf) (.nd 92 (⟨.struct [(0, 1), (1, 1), (2, 1), (3, 1), (4, 1), (5, 1), (6, 1), (7, 1), (8, 1), (9, 1), (10, 1)], 11, [.int .u64 0, .int .u64 0, .int .u32 0, .int .u8 0, .int .u8 0, .int .u8 0, .int .u8 0, .nilFunc, .pointer none, .int .i32 0, .int .i32 0]⟩) .lf .lf))))))

def etab : Tr (List EK) := (.nd 30 ([.bool, .bool, .int .u64, .int .u64, .int .i64, .int .i64, .int .i64, .int .i64, .int .i64, .int .i64]) (.nd 26 ([.bool, .bool, .int .u64, .int .u64, .int .i64, .int .i64, .int .i64, .int .i64, .int .i64, .int .i64]) .lf .lf) .lf)

theorem tab_ok : tab.all (fun t i => tiOf Try.prog t = some i) := ⟨ty47, ⟨ty24, ⟨ty13, ⟨ty5, ⟨ty3, ⟨ty2, ⟨ty1, trivial, trivial⟩, trivial⟩, ⟨ty4, trivial, trivial⟩⟩, ⟨ty9, ⟨ty7, trivial, trivial⟩, ⟨ty12, trivial, trivial⟩⟩⟩, ⟨ty20, ⟨ty17, ⟨ty16, ⟨ty15, trivial, trivial⟩, trivial⟩, ⟨ty18, trivial, trivial⟩⟩, ⟨ty22, ⟨ty21, trivial, trivial⟩, ⟨ty23, trivial, trivial⟩⟩⟩⟩, ⟨ty36, ⟨ty30, ⟨ty27, ⟨ty26, ⟨ty25, trivial, trivial⟩, trivial⟩, ⟨ty29, trivial, trivial⟩⟩, ⟨ty33, ⟨ty32, trivial, trivial⟩, ⟨ty35, trivial, trivial⟩⟩⟩, ⟨ty43, ⟨ty41, ⟨ty39, ⟨ty37, trivial, trivial⟩, trivial⟩, ⟨ty42, trivial, trivial⟩⟩, ⟨ty45, ⟨ty44, trivial, trivial⟩, ⟨ty46, trivial, trivial⟩⟩⟩⟩⟩, ⟨ty68, ⟨ty59, ⟨ty55, ⟨ty51, ⟨ty49, ⟨ty48, trivial, trivial⟩, trivial⟩, ⟨ty53, trivial, trivial⟩⟩, ⟨ty57, ⟨ty56, trivial, trivial⟩, ⟨ty58, trivial, trivial⟩⟩⟩, ⟨ty64, ⟨ty62, ⟨ty61, ⟨ty60, trivial, trivial⟩, trivial⟩, ⟨ty63, trivial, trivial⟩⟩, ⟨ty66, ⟨ty65, trivial, trivial⟩, ⟨ty67, trivial, trivial⟩⟩⟩⟩, ⟨ty77, ⟨ty73, ⟨ty71, ⟨ty70, ⟨ty69, trivial, trivial⟩, trivial⟩, ⟨ty72, trivial, trivial⟩⟩, ⟨ty75, ⟨ty74, trivial, trivial⟩, ⟨ty76, trivial, trivial⟩⟩⟩, ⟨ty85, ⟨ty79, ⟨ty78, trivial, trivial⟩, ⟨ty80, trivial, trivial⟩⟩, ⟨ty89, ⟨ty88, trivial, trivial⟩, ⟨ty92, trivial, trivial⟩⟩⟩⟩⟩⟩

theorem etab_ok : etab.all (fun t i => eqsOf Try.prog t = some i) := ⟨tq30, ⟨tq26, trivial, trivial⟩, trivial⟩

def Γ : TyE Try.prog := ⟨⟨fun t => tab.look t, fun _ _ h => tiOf_ok (Tr.look_ok tab_ok h)⟩, fun t => etab.look t, fun _ _ h => eqsOf_ok (Tr.look_ok etab_ok h)⟩

theorem hm : Try.prog.follows .mixedOrders = true := by kernel_rfl

theorem F3 : Fun Try.prog 3 Try.f3 (bodyOf Try.f3) := ⟨Try.func3, rfl, by kernel_rfl⟩  -- paling/palinglaw40.BpduTakes
theorem F4 : Fun Try.prog 4 Try.f4 (bodyOf Try.f4) := ⟨Try.func4, rfl, by kernel_rfl⟩  -- paling/palinglaw40.BpduBack
theorem F5 : Fun Try.prog 5 Try.f5 (bodyOf Try.f5) := ⟨Try.func5, rfl, by kernel_rfl⟩  -- paling/palinglaw40.BpduPuts
theorem F6 : Fun Try.prog 6 Try.f6 (bodyOf Try.f6) := ⟨Try.func6, rfl, by kernel_rfl⟩  -- paling/palinglaw40.BpduOrder
theorem F7 : Fun Try.prog 7 Try.f7 (bodyOf Try.f7) := ⟨Try.func7, rfl, by kernel_rfl⟩  -- paling/palinglaw40.works
theorem F8 : Fun Try.prog 8 Try.f8 (bodyOf Try.f8) := ⟨Try.func8, rfl, by kernel_rfl⟩  -- paling/bpdu.Take
theorem F9 : Fun Try.prog 9 Try.f9 (bodyOf Try.f9) := ⟨Try.func9, rfl, by kernel_rfl⟩  -- paling/palingref40.Take
theorem F10 : Fun Try.prog 10 Try.f10 (bodyOf Try.f10) := ⟨Try.func10, rfl, by kernel_rfl⟩  -- paling/bpdu.Put
theorem F11 : Fun Try.prog 11 Try.f11 (bodyOf Try.f11) := ⟨Try.func11, rfl, by kernel_rfl⟩  -- paling/bpdu.Right
theorem F12 : Fun Try.prog 12 Try.f12 (bodyOf Try.f12) := ⟨Try.func12, rfl, by kernel_rfl⟩  -- paling/palingref40.Put
theorem F13 : Fun Try.prog 13 Try.f13 (bodyOf Try.f13) := ⟨Try.func13, rfl, by kernel_rfl⟩  -- paling/bpdu.Id
theorem F14 : Fun Try.prog 14 Try.f14 (bodyOf Try.f14) := ⟨Try.func14, rfl, by kernel_rfl⟩  -- paling/palingref40.Id
theorem F15 : Fun Try.prog 15 Try.f15 (bodyOf Try.f15) := ⟨Try.func15, rfl, by kernel_rfl⟩  -- paling/palingref40.Right
theorem F16 : Fun Try.prog 16 Try.f16 (bodyOf Try.f16) := ⟨Try.func16, rfl, by kernel_rfl⟩  -- paling/bpdu.Better
theorem F17 : Fun Try.prog 17 Try.f17 (bodyOf Try.f17) := ⟨Try.func17, rfl, by kernel_rfl⟩  -- paling/palingref40.Better
theorem F18 : Fun Try.prog 18 Try.f18 (bodyOf Try.f18) := ⟨Try.func18, rfl, by kernel_rfl⟩  -- paling/ether.Take
theorem F19 : Fun Try.prog 19 Try.f19 (bodyOf Try.f19) := ⟨Try.func19, rfl, by kernel_rfl⟩  -- paling/bpdu.parse
theorem F20 : Fun Try.prog 20 Try.f20 (bodyOf Try.f20) := ⟨Try.func20, rfl, by kernel_rfl⟩  -- paling/palingref04.Take
theorem F21 : Fun Try.prog 21 Try.f21 (bodyOf Try.f21) := ⟨Try.func21, rfl, by kernel_rfl⟩  -- paling/palingref40.number
theorem F22 : Fun Try.prog 22 Try.f22 (bodyOf Try.f22) := ⟨Try.func22, rfl, by kernel_rfl⟩  -- paling/bpdu.number
theorem F23 : Fun Try.prog 23 Try.f23 (bodyOf Try.f23) := ⟨Try.func23, rfl, by kernel_rfl⟩  -- paling/bpdu.pairs
theorem F24 : Fun Try.prog 24 Try.f24 (bodyOf Try.f24) := ⟨Try.func24, rfl, by kernel_rfl⟩  -- paling/ether.Put
theorem F25 : Fun Try.prog 25 Try.f25 (bodyOf Try.f25) := ⟨Try.func25, rfl, by kernel_rfl⟩  -- paling/palingref04.Put
theorem F26 : Fun Try.prog 26 Try.f26 (bodyOf Try.f26) := ⟨Try.func26, rfl, by kernel_rfl⟩  -- paling/palingref40.body
theorem F27 : Fun Try.prog 27 Try.f27 (bodyOf Try.f27) := ⟨Try.func27, rfl, by kernel_rfl⟩  -- paling/palingref40.small
theorem F28 : Fun Try.prog 28 Try.f28 (bodyOf Try.f28) := ⟨Try.func28, rfl, by kernel_rfl⟩  -- cmp.Or[int]
theorem F29 : Fun Try.prog 29 Try.f29 (bodyOf Try.f29) := ⟨Try.func29, rfl, by kernel_rfl⟩  -- cmp.Compare[uint64]
theorem F30 : Fun Try.prog 30 Try.f30 (bodyOf Try.f30) := ⟨Try.func30, rfl, by kernel_rfl⟩  -- cmp.Compare[int]
theorem F31 : Fun Try.prog 31 Try.f31 (bodyOf Try.f31) := ⟨Try.func31, rfl, by kernel_rfl⟩  -- paling/mac.Take
theorem F32 : Fun Try.prog 32 Try.f32 (bodyOf Try.f32) := ⟨Try.func32, rfl, by kernel_rfl⟩  -- (*paling/bpdu.reader).next
theorem F33 : Fun Try.prog 33 Try.f33 (bodyOf Try.f33) := ⟨Try.func33, rfl, by kernel_rfl⟩  -- (*paling/bpdu.reader).pair
theorem F34 : Fun Try.prog 34 Try.f34 (bodyOf Try.f34) := ⟨Try.func34, rfl, by kernel_rfl⟩  -- paling/palingref01.Take
theorem F35 : Fun Try.prog 35 Try.f35 (bodyOf Try.f35) := ⟨Try.func35, rfl, by kernel_rfl⟩  -- paling/mac.Put
theorem F36 : Fun Try.prog 36 Try.f36 (bodyOf Try.f36) := ⟨Try.func36, rfl, by kernel_rfl⟩  -- paling/palingref01.Bytes
theorem F37 : Fun Try.prog 37 Try.f37 (bodyOf Try.f37) := ⟨Try.func37, rfl, by kernel_rfl⟩  -- paling/palingref40.bytes
theorem F38 : Fun Try.prog 38 Try.f38 (bodyOf Try.f38) := ⟨Try.func38, rfl, by kernel_rfl⟩  -- cmp.isNaN[uint64]
theorem F39 : Fun Try.prog 39 Try.f39 (bodyOf Try.f39) := ⟨Try.func39, rfl, by kernel_rfl⟩  -- cmp.isNaN[int]
theorem F40 : Fun Try.prog 40 Try.f40 (bodyOf Try.f40) := ⟨Try.func40, rfl, by kernel_rfl⟩  -- paling/palingref01.number
theorem F41 : Fun Try.prog 41 Try.f41 (bodyOf Try.f41) := ⟨Try.func41, rfl, by kernel_rfl⟩  -- paling/mac.shift

end Go.Sy.Ytjfglngcfghfnaa
