/-
  The types' table of this seat's program, and its functions' own facts. Written by program (gentypes.py).
-/
import Derived.Test.YtjnkgkpenhjmfaaSy22
import Derived.Test.YtjnkgkpenhjmfaaProg
namespace Go.Sy.Ytjnkgkpenhjmfaa
open Go.Proofs

set_option maxRecDepth 100000

theorem ty1 : tiOf Try.prog 1 = some ⟨.func, 1, [.nilFunc]⟩ := by kernel_rfl
theorem ty2 : tiOf Try.prog 2 = some ⟨.int .i64, 1, [.int .i64 0]⟩ := by kernel_rfl
theorem ty3 : tiOf Try.prog 3 = some ⟨.int .i64, 1, [.int .i64 0]⟩ := by kernel_rfl
theorem ty4 : tiOf Try.prog 4 = some ⟨.bool, 1, [.bool false]⟩ := by kernel_rfl
theorem ty5 : tiOf Try.prog 5 = some ⟨.int .u8, 1, [.int .u8 0]⟩ := by kernel_rfl
theorem ty7 : tiOf Try.prog 7 = some ⟨.struct [(0, 1), (1, 1), (2, 1), (3, 1)], 4, [.int .i64 0, .int .i64 0, .bool false, .int .u8 0]⟩ := by kernel_rfl
theorem ty9 : tiOf Try.prog 9 = some ⟨.string, 1, [.string .empty]⟩ := by kernel_rfl
theorem ty12 : tiOf Try.prog 12 = some ⟨.int .u64, 1, [.int .u64 0]⟩ := by kernel_rfl
theorem ty13 : tiOf Try.prog 13 = some ⟨.struct [(0, 1), (1, 1)], 2, [.string .empty, .int .u64 0]⟩ := by kernel_rfl
theorem ty15 : tiOf Try.prog 15 = some ⟨.ptr, 1, [.pointer none]⟩ := by kernel_rfl
theorem ty16 : tiOf Try.prog 16 = some ⟨.ptr, 1, [.pointer none]⟩ := by kernel_rfl
theorem ty17 : tiOf Try.prog 17 = some ⟨.ptr, 1, [.pointer none]⟩ := by kernel_rfl
theorem ty18 : tiOf Try.prog 18 = some ⟨.struct [(0, 1)], 1, [.pointer none]⟩ := by kernel_rfl
theorem ty20 : tiOf Try.prog 20 = some ⟨.iface, 1, [.nilIface]⟩ := by kernel_rfl
theorem ty21 : tiOf Try.prog 21 = some ⟨.int .i32, 1, [.int .i32 0]⟩ := by kernel_rfl
theorem ty22 : tiOf Try.prog 22 = some ⟨.slice 46 5 48 [.int .i64 0, .int .i64 0, .string .empty, .int .u64 0, .int .u32 0], 1, [.slice none 0 0]⟩ := by kernel_rfl
theorem ty23 : tiOf Try.prog 23 = some ⟨.slice 52 7 80 [.int .i64 0, .int .i64 0, .int .i64 0, .int .i64 0, .int .i64 0, .string .empty, .slice none 0 0], 1, [.slice none 0 0]⟩ := by kernel_rfl
theorem ty24 : tiOf Try.prog 24 = some ⟨.slice 75 3 24 [.int .i64 0, .int .i64 0, .int .i64 0], 1, [.slice none 0 0]⟩ := by kernel_rfl
theorem ty25 : tiOf Try.prog 25 = some ⟨.slice 54 6 64 [.int .i64 0, .int .i64 0, .int .i64 0, .int .i64 0, .int .i64 0, .slice none 0 0], 1, [.slice none 0 0]⟩ := by kernel_rfl
theorem ty26 : tiOf Try.prog 26 = some ⟨.slice 79 4 32 [.int .i64 0, .int .i64 0, .int .i64 0, .int .u64 0], 1, [.slice none 0 0]⟩ := by kernel_rfl
theorem ty27 : tiOf Try.prog 27 = some ⟨.slice 57 4 48 [.int .i64 0, .int .i64 0, .int .i64 0, .slice none 0 0], 1, [.slice none 0 0]⟩ := by kernel_rfl
theorem ty28 : tiOf Try.prog 28 = some ⟨.slice 59 5 80 [.int .i64 0, .int .i64 0, .string .empty, .slice none 0 0, .slice none 0 0], 1, [.slice none 0 0]⟩ := by kernel_rfl
theorem ty29 : tiOf Try.prog 29 = some ⟨.slice 91 5 40 [.int .i64 0, .int .i64 0, .int .i64 0, .int .u32 0, .int .i64 0], 1, [.slice none 0 0]⟩ := by kernel_rfl
theorem ty30 : tiOf Try.prog 30 = some ⟨.struct [(0, 1), (1, 1), (2, 1), (3, 1), (4, 1), (5, 1), (6, 1), (7, 1)], 8, [.slice none 0 0, .slice none 0 0, .slice none 0 0, .slice none 0 0, .slice none 0 0, .slice none 0 0, .slice none 0 0, .slice none 0 0]⟩ := by kernel_rfl
theorem ty31 : tiOf Try.prog 31 = some ⟨.struct [(0, 1), (1, 1), (2, 1), (3, 1), (4, 1), (5, 1), (6, 1), (7, 1)], 8, [.slice none 0 0, .slice none 0 0, .slice none 0 0, .slice none 0 0, .slice none 0 0, .slice none 0 0, .slice none 0 0, .slice none 0 0]⟩ := by kernel_rfl
theorem ty32 : tiOf Try.prog 32 = some ⟨.func, 1, [.nilFunc]⟩ := by kernel_rfl
theorem ty33 : tiOf Try.prog 33 = some ⟨.func, 1, [.nilFunc]⟩ := by kernel_rfl
theorem ty34 : tiOf Try.prog 34 = some ⟨.slice 3 1 8 [.int .i64 0], 1, [.slice none 0 0]⟩ := by kernel_rfl
theorem ty35 : tiOf Try.prog 35 = some ⟨.func, 1, [.nilFunc]⟩ := by kernel_rfl
theorem ty36 : tiOf Try.prog 36 = some ⟨.func, 1, [.nilFunc]⟩ := by kernel_rfl
theorem ty37 : tiOf Try.prog 37 = some ⟨.struct [(0, 1), (1, 1), (2, 1), (3, 1), (4, 1)], 5, [.int .i64 0, .int .i64 0, .int .i64 0, .int .i64 0, .int .i64 0]⟩ := by kernel_rfl
theorem ty38 : tiOf Try.prog 38 = some ⟨.struct [(0, 1), (1, 1), (2, 1), (3, 1), (4, 1)], 5, [.int .i64 0, .int .i64 0, .int .i64 0, .int .i64 0, .int .i64 0]⟩ := by kernel_rfl
theorem ty39 : tiOf Try.prog 39 = some ⟨.func, 1, [.nilFunc]⟩ := by kernel_rfl
theorem ty40 : tiOf Try.prog 40 = some ⟨.func, 1, [.nilFunc]⟩ := by kernel_rfl
theorem ty41 : tiOf Try.prog 41 = some ⟨.struct [(0, 1), (1, 1), (2, 1), (3, 1), (4, 1)], 5, [.int .i64 0, .int .i64 0, .int .i64 0, .int .i64 0, .int .i64 0]⟩ := by kernel_rfl
theorem ty42 : tiOf Try.prog 42 = some ⟨.func, 1, [.nilFunc]⟩ := by kernel_rfl
theorem ty43 : tiOf Try.prog 43 = some ⟨.int .u64, 1, [.int .u64 0]⟩ := by kernel_rfl
theorem ty44 : tiOf Try.prog 44 = some ⟨.int .u32, 1, [.int .u32 0]⟩ := by kernel_rfl
theorem ty45 : tiOf Try.prog 45 = some ⟨.struct [(0, 1), (1, 1), (2, 1), (3, 1), (4, 1)], 5, [.int .i64 0, .int .i64 0, .string .empty, .int .u64 0, .int .u32 0]⟩ := by kernel_rfl
theorem ty46 : tiOf Try.prog 46 = some ⟨.struct [(0, 1), (1, 1), (2, 1), (3, 1), (4, 1)], 5, [.int .i64 0, .int .i64 0, .string .empty, .int .u64 0, .int .u32 0]⟩ := by kernel_rfl
theorem ty47 : tiOf Try.prog 47 = some ⟨.slice 38 5 40 [.int .i64 0, .int .i64 0, .int .i64 0, .int .i64 0, .int .i64 0], 1, [.slice none 0 0]⟩ := by kernel_rfl
theorem ty49 : tiOf Try.prog 49 = some ⟨.func, 1, [.nilFunc]⟩ := by kernel_rfl
theorem ty50 : tiOf Try.prog 50 = some ⟨.func, 1, [.nilFunc]⟩ := by kernel_rfl
theorem ty51 : tiOf Try.prog 51 = some ⟨.struct [(0, 1), (1, 1), (2, 1), (3, 1), (4, 1), (5, 1), (6, 1)], 7, [.int .i64 0, .int .i64 0, .int .i64 0, .int .i64 0, .int .i64 0, .string .empty, .slice none 0 0]⟩ := by kernel_rfl
theorem ty52 : tiOf Try.prog 52 = some ⟨.struct [(0, 1), (1, 1), (2, 1), (3, 1), (4, 1), (5, 1), (6, 1)], 7, [.int .i64 0, .int .i64 0, .int .i64 0, .int .i64 0, .int .i64 0, .string .empty, .slice none 0 0]⟩ := by kernel_rfl
theorem ty53 : tiOf Try.prog 53 = some ⟨.struct [(0, 1), (1, 1), (2, 1), (3, 1), (4, 1), (5, 1)], 6, [.int .i64 0, .int .i64 0, .int .i64 0, .int .i64 0, .int .i64 0, .slice none 0 0]⟩ := by kernel_rfl
theorem ty54 : tiOf Try.prog 54 = some ⟨.struct [(0, 1), (1, 1), (2, 1), (3, 1), (4, 1), (5, 1)], 6, [.int .i64 0, .int .i64 0, .int .i64 0, .int .i64 0, .int .i64 0, .slice none 0 0]⟩ := by kernel_rfl
theorem ty55 : tiOf Try.prog 55 = some ⟨.slice 44 1 4 [.int .u32 0], 1, [.slice none 0 0]⟩ := by kernel_rfl
theorem ty56 : tiOf Try.prog 56 = some ⟨.struct [(0, 1), (1, 1), (2, 1), (3, 1)], 4, [.int .i64 0, .int .i64 0, .int .i64 0, .slice none 0 0]⟩ := by kernel_rfl
theorem ty57 : tiOf Try.prog 57 = some ⟨.struct [(0, 1), (1, 1), (2, 1), (3, 1)], 4, [.int .i64 0, .int .i64 0, .int .i64 0, .slice none 0 0]⟩ := by kernel_rfl
theorem ty58 : tiOf Try.prog 58 = some ⟨.struct [(0, 1), (1, 1), (2, 1), (3, 1), (4, 1)], 5, [.int .i64 0, .int .i64 0, .string .empty, .slice none 0 0, .slice none 0 0]⟩ := by kernel_rfl
theorem ty59 : tiOf Try.prog 59 = some ⟨.struct [(0, 1), (1, 1), (2, 1), (3, 1), (4, 1)], 5, [.int .i64 0, .int .i64 0, .string .empty, .slice none 0 0, .slice none 0 0]⟩ := by kernel_rfl
theorem ty60 : tiOf Try.prog 60 = some ⟨.func, 1, [.nilFunc]⟩ := by kernel_rfl
theorem ty61 : tiOf Try.prog 61 = some ⟨.func, 1, [.nilFunc]⟩ := by kernel_rfl
theorem ty62 : tiOf Try.prog 62 = some ⟨.func, 1, [.nilFunc]⟩ := by kernel_rfl
theorem ty63 : tiOf Try.prog 63 = some ⟨.func, 1, [.nilFunc]⟩ := by kernel_rfl
theorem ty64 : tiOf Try.prog 64 = some ⟨.func, 1, [.nilFunc]⟩ := by kernel_rfl
theorem ty65 : tiOf Try.prog 65 = some ⟨.func, 1, [.nilFunc]⟩ := by kernel_rfl
theorem ty66 : tiOf Try.prog 66 = some ⟨.func, 1, [.nilFunc]⟩ := by kernel_rfl
theorem ty67 : tiOf Try.prog 67 = some ⟨.struct [(0, 8)], 8, [.slice none 0 0, .slice none 0 0, .slice none 0 0, .slice none 0 0, .slice none 0 0, .slice none 0 0, .slice none 0 0, .slice none 0 0]⟩ := by kernel_rfl
theorem ty68 : tiOf Try.prog 68 = some ⟨.struct [(0, 8)], 8, [.slice none 0 0, .slice none 0 0, .slice none 0 0, .slice none 0 0, .slice none 0 0, .slice none 0 0, .slice none 0 0, .slice none 0 0]⟩ := by kernel_rfl
theorem ty69 : tiOf Try.prog 69 = some ⟨.func, 1, [.nilFunc]⟩ := by kernel_rfl
theorem ty70 : tiOf Try.prog 70 = some ⟨.func, 1, [.nilFunc]⟩ := by kernel_rfl
theorem ty71 : tiOf Try.prog 71 = some ⟨.func, 1, [.nilFunc]⟩ := by kernel_rfl
theorem ty72 : tiOf Try.prog 72 = some ⟨.func, 1, [.nilFunc]⟩ := by kernel_rfl
theorem ty73 : tiOf Try.prog 73 = some ⟨.func, 1, [.nilFunc]⟩ := by kernel_rfl
theorem ty74 : tiOf Try.prog 74 = some ⟨.struct [(0, 1), (1, 1), (2, 1)], 3, [.int .i64 0, .int .i64 0, .int .i64 0]⟩ := by kernel_rfl
theorem ty75 : tiOf Try.prog 75 = some ⟨.struct [(0, 1), (1, 1), (2, 1)], 3, [.int .i64 0, .int .i64 0, .int .i64 0]⟩ := by kernel_rfl
theorem ty76 : tiOf Try.prog 76 = some ⟨.func, 1, [.nilFunc]⟩ := by kernel_rfl
theorem ty77 : tiOf Try.prog 77 = some ⟨.func, 1, [.nilFunc]⟩ := by kernel_rfl
theorem ty78 : tiOf Try.prog 78 = some ⟨.struct [(0, 1), (1, 1), (2, 1), (3, 1)], 4, [.int .i64 0, .int .i64 0, .int .i64 0, .int .u64 0]⟩ := by kernel_rfl
theorem ty79 : tiOf Try.prog 79 = some ⟨.struct [(0, 1), (1, 1), (2, 1), (3, 1)], 4, [.int .i64 0, .int .i64 0, .int .i64 0, .int .u64 0]⟩ := by kernel_rfl
theorem ty80 : tiOf Try.prog 80 = some ⟨.func, 1, [.nilFunc]⟩ := by kernel_rfl
theorem ty81 : tiOf Try.prog 81 = some ⟨.func, 1, [.nilFunc]⟩ := by kernel_rfl
theorem ty82 : tiOf Try.prog 82 = some ⟨.func, 1, [.nilFunc]⟩ := by kernel_rfl
theorem ty83 : tiOf Try.prog 83 = some ⟨.func, 1, [.nilFunc]⟩ := by kernel_rfl
theorem ty84 : tiOf Try.prog 84 = some ⟨.func, 1, [.nilFunc]⟩ := by kernel_rfl
theorem ty85 : tiOf Try.prog 85 = some ⟨.func, 1, [.nilFunc]⟩ := by kernel_rfl
theorem ty86 : tiOf Try.prog 86 = some ⟨.func, 1, [.nilFunc]⟩ := by kernel_rfl
theorem ty87 : tiOf Try.prog 87 = some ⟨.func, 1, [.nilFunc]⟩ := by kernel_rfl
theorem ty88 : tiOf Try.prog 88 = some ⟨.struct [(0, 1), (1, 1)], 2, [.int .u32 0, .int .i64 0]⟩ := by kernel_rfl
theorem ty89 : tiOf Try.prog 89 = some ⟨.struct [(0, 1), (1, 1)], 2, [.int .u32 0, .int .i64 0]⟩ := by kernel_rfl
theorem ty90 : tiOf Try.prog 90 = some ⟨.struct [(0, 1), (1, 1), (2, 1), (3, 2)], 5, [.int .i64 0, .int .i64 0, .int .i64 0, .int .u32 0, .int .i64 0]⟩ := by kernel_rfl
theorem ty91 : tiOf Try.prog 91 = some ⟨.struct [(0, 1), (1, 1), (2, 1), (3, 2)], 5, [.int .i64 0, .int .i64 0, .int .i64 0, .int .u32 0, .int .i64 0]⟩ := by kernel_rfl
theorem ty92 : tiOf Try.prog 92 = some ⟨.func, 1, [.nilFunc]⟩ := by kernel_rfl
theorem ty93 : tiOf Try.prog 93 = some ⟨.func, 1, [.nilFunc]⟩ := by kernel_rfl
theorem ty94 : tiOf Try.prog 94 = some ⟨.func, 1, [.nilFunc]⟩ := by kernel_rfl
theorem ty95 : tiOf Try.prog 95 = some ⟨.func, 1, [.nilFunc]⟩ := by kernel_rfl
theorem ty96 : tiOf Try.prog 96 = some ⟨.func, 1, [.nilFunc]⟩ := by kernel_rfl
theorem ty97 : tiOf Try.prog 97 = some ⟨.func, 1, [.nilFunc]⟩ := by kernel_rfl
theorem ty98 : tiOf Try.prog 98 = some ⟨.func, 1, [.nilFunc]⟩ := by kernel_rfl
theorem ty99 : tiOf Try.prog 99 = some ⟨.func, 1, [.nilFunc]⟩ := by kernel_rfl
theorem ty100 : tiOf Try.prog 100 = some ⟨.func, 1, [.nilFunc]⟩ := by kernel_rfl
theorem ty101 : tiOf Try.prog 101 = some ⟨.func, 1, [.nilFunc]⟩ := by kernel_rfl
theorem ty102 : tiOf Try.prog 102 = some ⟨.func, 1, [.nilFunc]⟩ := by kernel_rfl
theorem ty103 : tiOf Try.prog 103 = some ⟨.func, 1, [.nilFunc]⟩ := by kernel_rfl
theorem ty104 : tiOf Try.prog 104 = some ⟨.func, 1, [.nilFunc]⟩ := by kernel_rfl
theorem ty105 : tiOf Try.prog 105 = some ⟨.func, 1, [.nilFunc]⟩ := by kernel_rfl
theorem ty106 : tiOf Try.prog 106 = some ⟨.func, 1, [.nilFunc]⟩ := by kernel_rfl
theorem ty107 : tiOf Try.prog 107 = some ⟨.func, 1, [.nilFunc]⟩ := by kernel_rfl
theorem ty108 : tiOf Try.prog 108 = some ⟨.func, 1, [.nilFunc]⟩ := by kernel_rfl
theorem ty109 : tiOf Try.prog 109 = some ⟨.func, 1, [.nilFunc]⟩ := by kernel_rfl
theorem ty110 : tiOf Try.prog 110 = some ⟨.func, 1, [.nilFunc]⟩ := by kernel_rfl
theorem ty111 : tiOf Try.prog 111 = some ⟨.func, 1, [.nilFunc]⟩ := by kernel_rfl
theorem ty112 : tiOf Try.prog 112 = some ⟨.func, 1, [.nilFunc]⟩ := by kernel_rfl
theorem ty113 : tiOf Try.prog 113 = some ⟨.int .u64, 1, [.int .u64 0]⟩ := by kernel_rfl
theorem ty114 : tiOf Try.prog 114 = some ⟨.func, 1, [.nilFunc]⟩ := by kernel_rfl
theorem ty115 : tiOf Try.prog 115 = some ⟨.struct [(0, 1), (1, 1), (2, 1), (3, 1)], 4, [.pointer none, .pointer none, .pointer none, .string .empty]⟩ := by kernel_rfl
theorem ty120 : tiOf Try.prog 120 = some ⟨.func, 1, [.nilFunc]⟩ := by kernel_rfl
theorem ty123 : tiOf Try.prog 123 = some ⟨.func, 1, [.nilFunc]⟩ := by kernel_rfl
theorem ty124 : tiOf Try.prog 124 = some ⟨.ptr, 1, [.pointer none]⟩ := by kernel_rfl
theorem ty127 : tiOf Try.prog 127 = some ⟨.struct [(0, 1), (1, 1), (2, 1), (3, 1), (4, 1), (5, 1), (6, 1), (7, 1), (8, 1), (9, 1), (10, 1)], 11, [.int .u64 0, .int .u64 0, .int .u32 0, .int .u8 0, .int .u8 0, .int .u8 0, .int .u8 0, .nilFunc, .pointer none, .int .i32 0, .int .i32 0]⟩ := by kernel_rfl

theorem tq38 : eqsOf Try.prog 38 = some [.int .i64, .int .i64, .int .i64, .int .i64, .int .i64] := by kernel_rfl
theorem tq41 : eqsOf Try.prog 41 = some [.int .i64, .int .i64, .int .i64, .int .i64, .int .i64] := by kernel_rfl
theorem tq46 : eqsOf Try.prog 46 = some [.int .i64, .int .i64, .string, .int .u64, .int .u32] := by kernel_rfl
theorem tq75 : eqsOf Try.prog 75 = some [.int .i64, .int .i64, .int .i64] := by kernel_rfl
theorem tq79 : eqsOf Try.prog 79 = some [.int .i64, .int .i64, .int .i64, .int .u64] := by kernel_rfl
theorem tq89 : eqsOf Try.prog 89 = some [.int .u32, .int .i64] := by kernel_rfl

def tab : Tr TI := (.nd 64 (⟨.func, 1, [.nilFunc]⟩) (.nd 35 (⟨.func, 1, [.nilFunc]⟩) (.nd 21 (⟨.int .i32, 1, [.int .i32 0]⟩) (.nd 12 (⟨.int .u64, 1, [.int .u64 0]⟩) (.nd 4 (⟨.bool, 1, [.bool false]⟩) (.nd 2 (⟨.int .i64, 1, [.int .i64 0]⟩) (.nd 1 (⟨.func, 1, [.nilFunc]⟩) .lf .lf) (.nd 3 (⟨.int .i64, 1, [.int .i64 0]⟩) .lf .lf)) (.nd 7 (⟨.struct [(0, 1), (1, 1), (2, 1), (3, 1)], 4, [.int .i64 0, .int .i64 0, .bool false, .int .u8 0]⟩) (.nd 5 (⟨.int .u8, 1, [.int .u8 0]⟩) .lf .lf) (.nd 9 (⟨.string, 1, [.string .empty]⟩) .lf .lf))) (.nd 17 (⟨.ptr, 1, [.pointer none]⟩) (.nd 15 (⟨.ptr, 1, [.pointer none]⟩) (.nd 13 (⟨.struct [(0, 1), (1, 1)], 2, [.string .empty, .int .u64 0]⟩) .lf .lf) (.nd 16 (⟨.ptr, 1, [.pointer none]⟩) .lf .lf)) (.nd 20 (⟨.iface, 1, [.nilIface]⟩) (.nd 18 (⟨.struct [(0, 1)], 1, [.pointer none]⟩) .lf .lf) .lf))) (.nd 28 (⟨.slice 59 5 80 [.int .i64 0, .int .i64 0, .string .empty, .slice none 0 0, .slice none 0 0], 1, [.slice none 0 0]⟩) (.nd 25 (⟨.slice 54 6 64 [.int .i64 0, .int .i64 0, .int .i64 0, .int .i64 0, .int .i64 0, .slice none 0 0], 1, [.slice none 0 0]⟩) (.nd 23 (⟨.slice 52 7 80 [.int .i64 0, .int .i64 0, .int .i64 0, .int .i64 0, .int .i64 0, .string .empty, .slice none 0 0], 1, [.slice none 0 0]⟩) (.nd 22 (⟨.slice 46 5 48 [.int .i64 0, .int .i64 0, .string .empty, .int .u64 0, .int .u32 0], 1, [.slice none 0 0]⟩) .lf .lf) (.nd 24 (⟨.slice 75 3 24 [.int .i64 0, .int .i64 0, .int .i64 0], 1, [.slice none 0 0]⟩) .lf .lf)) (.nd 27 (⟨.slice 57 4 48 [.int .i64 0, .int .i64 0, .int .i64 0, .slice none 0 0], 1, [.slice none 0 0]⟩) (.nd 26 (⟨.slice 79 4 32 [.int .i64 0, .int .i64 0, .int .i64 0, .int .u64 0], 1, [.slice none 0 0]⟩) .lf .lf) .lf)) (.nd 32 (⟨.func, 1, [.nilFunc]⟩) (.nd 30 (⟨.struct [(0, 1), (1, 1), (2, 1), (3, 1), (4, 1), (5, 1), (6, 1), (7, 1)], 8, [.slice none 0 0, .slice none 0 0, .slice none 0 0, .slice none 0 0, .slice none 0 0, .slice none 0 0, .slice none 0 0, .slice none 0 0]⟩) (.nd 29 (⟨.slice 91 5 40 [.int .i64 0, .int .i64 0, .int .i64 0, .int .u32 0, .int .i64 0], 1, [.slice none 0 0]⟩) .lf .lf) (.nd 31 (⟨.struct [(0, 1), (1, 1), (2, 1), (3, 1), (4, 1), (5, 1), (6, 1), (7, 1)], 8, [.slice none 0 0, .slice none 0 0, .slice none 0 0, .slice none 0 0, .slice none 0 0, .slice none 0 0, .slice none 0 0, .slice none 0 0]⟩) .lf .lf)) (.nd 34 (⟨.slice 3 1 8 [.int .i64 0], 1, [.slice none 0 0]⟩) (.nd 33 (⟨.func, 1, [.nilFunc]⟩) .lf .lf) .lf)))) (.nd 50 (⟨.func, 1, [.nilFunc]⟩) (.nd 42 (⟨.func, 1, [.nilFunc]⟩) (.nd 39 (⟨.func, 1, [.nilFunc]⟩) (.nd 37 (⟨.struct [(0, 1), (1, 1), (2, 1), (3, 1), (4, 1)], 5, [.int .i64 0, .int .i64 0, .int .i64 0, .int .i64 0, .int .i64 0]⟩) (.nd 36 (⟨.func, 1, [.nilFunc]⟩) .lf .lf) (.nd 38 (⟨.struct [(0, 1), (1, 1), (2, 1), (3, 1), (4, 1)], 5, [.int .i64 0, .int .i64 0, .int .i64 0, .int .i64 0, .int .i64 0]⟩) .lf .lf)) (.nd 41 (⟨.struct [(0, 1), (1, 1), (2, 1), (3, 1), (4, 1)], 5, [.int .i64 0, .int .i64 0, .int .i64 0, .int .i64 0, .int .i64 0]⟩) (.nd 40 (⟨.func, 1, [.nilFunc]⟩) .lf .lf) .lf)) (.nd 46 (⟨.struct [(0, 1), (1, 1), (2, 1), (3, 1), (4, 1)], 5, [.int .i64 0, .int .i64 0, .string .empty, .int .u64 0, .int .u32 0]⟩) (.nd 44 (⟨.int .u32, 1, [.int .u32 0]⟩) (.nd 43 (⟨.int .u64, 1, [.int .u64 0]⟩) .lf .lf) (.nd 45 (⟨.struct [(0, 1), (1, 1), (2, 1), (3, 1), (4, 1)], 5, [.int .i64 0, .int .i64 0, .string .empty, .int .u64 0, .int .u32 0]⟩) .lf .lf)) (.nd 49 (⟨.func, 1, [.nilFunc]⟩) (.nd 47 (⟨.slice 38 5 40 [.int .i64 0, .int .i64 0, .int .i64 0, .int .i64 0, .int .i64 0], 1, [.slice none 0 0]⟩) .lf .lf) .lf))) (.nd 57 (⟨.struct [(0, 1), (1, 1), (2, 1), (3, 1)], 4, [.int .i64 0, .int .i64 0, .int .i64 0, .slice none 0 0]⟩) (.nd 54 (⟨.struct [(0, 1), (1, 1), (2, 1), (3, 1), (4, 1), (5, 1)], 6, [.int .i64 0, .int .i64 0, .int .i64 0, .int .i64 0, .int .i64 0, .slice none 0 0]⟩) (.nd 52 (⟨.struct [(0, 1), (1, 1), (2, 1), (3, 1), (4, 1), (5, 1), (6, 1)], 7, [.int .i64 0, .int .i64 0, .int .i64 0, .int .i64 0, .int .i64 0, .string .empty, .slice none 0 0]⟩) (.nd 51 (⟨.struct [(0, 1), (1, 1), (2, 1), (3, 1), (4, 1), (5, 1), (6, 1)], 7, [.int .i64 0, .int .i64 0, .int .i64 0, .int .i64 0, .int .i64 0, .string .empty, .slice none 0 0]⟩) .lf .lf) (.nd 53 (⟨.struct [(0, 1), (1, 1), (2, 1), (3, 1), (4, 1), (5, 1)], 6, [.int .i64 0, .int .i64 0, .int .i64 0, .int .i64 0, .int .i64 0, .slice none 0 0]⟩) .lf .lf)) (.nd 56 (⟨.struct [(0, 1), (1, 1), (2, 1), (3, 1)], 4, [.int .i64 0, .int .i64 0, .int .i64 0, .slice none 0 0]⟩) (.nd 55 (⟨.slice 44 1 4 [.int .u32 0], 1, [.slice none 0 0]⟩) .lf .lf) .lf)) (.nd 61 (⟨.func, 1, [.nilFunc]⟩) (.nd 59 (⟨.struct [(0, 1), (1, 1), (2, 1), (3, 1), (4, 1)], 5, [.int .i64 0, .int .i64 0, .string .empty, .slice none 0 0, .slice none 0 0]⟩) (.nd 58 (⟨.struct [(0, 1), (1, 1), (2, 1), (3, 1), (4, 1)], 5, [.int .i64 0, .int .i64 0, .string .empty, .slice none 0 0, .slice none 0 0]⟩) .lf .lf) (.nd 60 (⟨.func, 1, [.nilFunc]⟩) .lf .lf)) (.nd 63 (⟨.func, 1, [.nilFunc]⟩) (.nd 62 (⟨.func, 1, [.nilFunc]⟩) .lf .lf) .lf))))) (.nd 92 (⟨.func, 1, [.nilFunc]⟩) (.nd 78 (⟨.struct [(0, 1), (1, 1), (2, 1), (3, 1)], 4, [.int .i64 0, .int .i64 0, .int .i64 0, .int .u64 0]⟩) (.nd 71 (⟨.func, 1, [.nilFunc]⟩) (.nd 68 (⟨.struct [(0, 8)], 8, [.slice none 0 0, .slice none 0 0, .slice none 0 0, .slice none 0 0, .slice none 0 0, .slice none 0 0, .slice none 0 0, .slice none 0 0]⟩) (.nd 66 (⟨.func, 1, [.nilFunc]⟩) (.nd 65 (⟨.func, 1, [.nilFunc]⟩) .lf .lf) (.nd 67 (⟨.struct [(0, 8)], 8, [.slice none 0 0, .slice none 0 0, .slice none 0 0, .slice none 0 0, .slice none 0 0, .slice none 0 0, .slice none 0 0, .slice none 0 0]⟩) .lf .lf)) (.nd 70 (⟨.func, 1, [.nilFunc]⟩) (.nd 69 (⟨.func, 1, [.nilFunc]⟩) .lf .lf) .lf)) (.nd 75 (⟨.struct [(0, 1), (1, 1), (2, 1)], 3, [.int .i64 0, .int .i64 0, .int .i64 0]⟩) (.nd 73 (⟨.func, 1, [.nilFunc]⟩) (.nd 72 (⟨.func, 1, [.nilFunc]⟩) .lf .lf) (.nd 74 (⟨.struct [(0, 1), (1, 1), (2, 1)], 3, [.int .i64 0, .int .i64 0, .int .i64 0]⟩) .lf .lf)) (.nd 77 (⟨.func, 1, [.nilFunc]⟩) (.nd 76 (⟨.func, 1, [.nilFunc]⟩) .lf .lf) .lf))) (.nd 85 (⟨.func, 1, [.nilFunc]⟩) (.nd 82 (⟨.func, 1, [.nilFunc]⟩) (.nd 80 (⟨.func, 1, [.nilFunc]⟩) (.nd 79 (⟨.struct [(0, 1), (1, 1), (2, 1), (3, 1)], 4, [.int .i64 0, .int .i64 0, .int .i64 0, .int .u64 0]⟩) .lf .lf) (.nd 81 (⟨.func, 1, [.nilFunc]⟩) .lf .lf)) (.nd 84 (⟨.func, 1, [.nilFunc]⟩) (.nd 83 (⟨.func, 1, [.nilFunc]⟩) .lf .lf) .lf)) (.nd 89 (⟨.struct [(0, 1), (1, 1)], 2, [.int .u32 0, .int .i64 0]⟩) (.nd 87 (⟨.func, 1, [.nilFunc]⟩) (.nd 86 (⟨.func, 1, [.nilFunc]⟩) .lf .lf) (.nd 88 (⟨.struct [(0, 1), (1, 1)], 2, [.int .u32 0, .int .i64 0]⟩) .lf .lf)) (.nd 91 (⟨.struct [(0, 1), (1, 1), (2, 1), (3, 2)], 5, [.int .i64 0, .int .i64 0, .int .i64 0, .int .u32 0, .int .i64 0]⟩) (.nd 90 (⟨.struct [(0, 1), (1, 1), (2, 1), (3, 2)], 5, [.int .i64 0, .int .i64 0, .int .i64 0, .int .u32 0, .int .i64 0]⟩) .lf .lf) .lf)))) (.nd 106 (⟨.func, 1, [.nilFunc]⟩) (.nd 99 (⟨.func, 1, [.nilFunc]⟩) (.nd 96 (⟨.func, 1, [.nilFunc]⟩) (.nd 94 (⟨.func, 1, [.nilFunc]⟩) (.nd 93 (⟨.func, 1, [.nilFunc]⟩) .lf .lf) (.nd 95 (⟨.func, 1, [.nilFunc]⟩) .lf .lf)) (.nd 98 (⟨.func, 1, [.nilFunc]⟩) (.nd 97 (⟨.func, 1, [.nilFunc]⟩) .lf .lf) .lf)) (.nd 103 (⟨.func, 1, [.nilFunc]⟩) (.nd 101 (⟨.func, 1, [.nilFunc]⟩) (.nd 100 (⟨.func, 1, [.nilFunc]⟩) .lf .lf) (.nd 102 (⟨.func, 1, [.nilFunc]⟩) .lf .lf)) (.nd 105 (⟨.func, 1, [.nilFunc]⟩) (.nd 104 (⟨.func, 1, [.nilFunc]⟩) .lf .lf) .lf))) (.nd 113 (⟨.int .u64, 1, [.int .u64 0]⟩) (.nd 110 (⟨.func, 1, [.nilFunc]⟩) (.nd 108 (⟨.func, 1, [.nilFunc]⟩) (.nd 107 (⟨.func, 1, [.nilFunc]⟩) .lf .lf) (.nd 109 (⟨.func, 1, [.nilFunc]⟩) .lf .lf)) (.nd 112 (⟨.func, 1, [.nilFunc]⟩) (.nd 111 (⟨.func, 1, [.nilFunc]⟩) .lf .lf) .lf)) (.nd 123 (⟨.func, 1, [.nilFunc]⟩) (.nd 115 (⟨.struct [(0, 1), (1, 1), (2, 1), (3, 1)], 4, [.pointer none, .pointer none, .pointer none, .string .empty]⟩) (.nd 114 (⟨.func, 1, [.nilFunc]⟩) .lf .lf) (.nd 120 (⟨.func, 1, [.nilFunc]⟩) .lf .lf)) (.nd 127 (⟨.struct [(0, 1), (1, 1), (2, 1), (3, 1), (4, 1), (5, 1), (6, 1), (7, 1), (8, 1), (9, 1), (10, 1)], 11, [.int .u64 0, .int .u64 0, .int .u32 0, .int .u8 0, .int .u8 0, .int .u8 0, .int .u8 0, .nilFunc, .pointer none, .int .i32 0, .int .i32 0]⟩) (.nd 124 (⟨.ptr, 1, [.pointer none]⟩) .lf .lf) .lf))))))

def etab : Tr (List EK) := (.nd 75 ([.int .i64, .int .i64, .int .i64]) (.nd 41 ([.int .i64, .int .i64, .int .i64, .int .i64, .int .i64]) (.nd 38 ([.int .i64, .int .i64, .int .i64, .int .i64, .int .i64]) .lf .lf) (.nd 46 ([.int .i64, .int .i64, .string, .int .u64, .int .u32]) .lf .lf)) (.nd 89 ([.int .u32, .int .i64]) (.nd 79 ([.int .i64, .int .i64, .int .i64, .int .u64]) .lf .lf) .lf))

theorem tab_ok : tab.all (fun t i => tiOf Try.prog t = some i) := ⟨ty64, ⟨ty35, ⟨ty21, ⟨ty12, ⟨ty4, ⟨ty2, ⟨ty1, trivial, trivial⟩, ⟨ty3, trivial, trivial⟩⟩, ⟨ty7, ⟨ty5, trivial, trivial⟩, ⟨ty9, trivial, trivial⟩⟩⟩, ⟨ty17, ⟨ty15, ⟨ty13, trivial, trivial⟩, ⟨ty16, trivial, trivial⟩⟩, ⟨ty20, ⟨ty18, trivial, trivial⟩, trivial⟩⟩⟩, ⟨ty28, ⟨ty25, ⟨ty23, ⟨ty22, trivial, trivial⟩, ⟨ty24, trivial, trivial⟩⟩, ⟨ty27, ⟨ty26, trivial, trivial⟩, trivial⟩⟩, ⟨ty32, ⟨ty30, ⟨ty29, trivial, trivial⟩, ⟨ty31, trivial, trivial⟩⟩, ⟨ty34, ⟨ty33, trivial, trivial⟩, trivial⟩⟩⟩⟩, ⟨ty50, ⟨ty42, ⟨ty39, ⟨ty37, ⟨ty36, trivial, trivial⟩, ⟨ty38, trivial, trivial⟩⟩, ⟨ty41, ⟨ty40, trivial, trivial⟩, trivial⟩⟩, ⟨ty46, ⟨ty44, ⟨ty43, trivial, trivial⟩, ⟨ty45, trivial, trivial⟩⟩, ⟨ty49, ⟨ty47, trivial, trivial⟩, trivial⟩⟩⟩, ⟨ty57, ⟨ty54, ⟨ty52, ⟨ty51, trivial, trivial⟩, ⟨ty53, trivial, trivial⟩⟩, ⟨ty56, ⟨ty55, trivial, trivial⟩, trivial⟩⟩, ⟨ty61, ⟨ty59, ⟨ty58, trivial, trivial⟩, ⟨ty60, trivial, trivial⟩⟩, ⟨ty63, ⟨ty62, trivial, trivial⟩, trivial⟩⟩⟩⟩⟩, ⟨ty92, ⟨ty78, ⟨ty71, ⟨ty68, ⟨ty66, ⟨ty65, trivial, trivial⟩, ⟨ty67, trivial, trivial⟩⟩, ⟨ty70, ⟨ty69, trivial, trivial⟩, trivial⟩⟩, ⟨ty75, ⟨ty73, ⟨ty72, trivial, trivial⟩, ⟨ty74, trivial, trivial⟩⟩, ⟨ty77, ⟨ty76, trivial, trivial⟩, trivial⟩⟩⟩, ⟨ty85, ⟨ty82, ⟨ty80, ⟨ty79, trivial, trivial⟩, ⟨ty81, trivial, trivial⟩⟩, ⟨ty84, ⟨ty83, trivial, trivial⟩, trivial⟩⟩, ⟨ty89, ⟨ty87, ⟨ty86, trivial, trivial⟩, ⟨ty88, trivial, trivial⟩⟩, ⟨ty91, ⟨ty90, trivial, trivial⟩, trivial⟩⟩⟩⟩, ⟨ty106, ⟨ty99, ⟨ty96, ⟨ty94, ⟨ty93, trivial, trivial⟩, ⟨ty95, trivial, trivial⟩⟩, ⟨ty98, ⟨ty97, trivial, trivial⟩, trivial⟩⟩, ⟨ty103, ⟨ty101, ⟨ty100, trivial, trivial⟩, ⟨ty102, trivial, trivial⟩⟩, ⟨ty105, ⟨ty104, trivial, trivial⟩, trivial⟩⟩⟩, ⟨ty113, ⟨ty110, ⟨ty108, ⟨ty107, trivial, trivial⟩, ⟨ty109, trivial, trivial⟩⟩, ⟨ty112, ⟨ty111, trivial, trivial⟩, trivial⟩⟩, ⟨ty123, ⟨ty115, ⟨ty114, trivial, trivial⟩, ⟨ty120, trivial, trivial⟩⟩, ⟨ty127, ⟨ty124, trivial, trivial⟩, trivial⟩⟩⟩⟩⟩⟩

theorem etab_ok : etab.all (fun t i => eqsOf Try.prog t = some i) := ⟨tq75, ⟨tq41, ⟨tq38, trivial, trivial⟩, ⟨tq46, trivial, trivial⟩⟩, ⟨tq89, ⟨tq79, trivial, trivial⟩, trivial⟩⟩

def Γ : TyE Try.prog := ⟨⟨fun t => tab.look t, fun _ _ h => tiOf_ok (Tr.look_ok tab_ok h)⟩, fun t => etab.look t, fun _ _ h => eqsOf_ok (Tr.look_ok etab_ok h)⟩

theorem hm : Try.prog.follows .mixedOrders = true := by kernel_rfl

theorem F3 : Fun Try.prog 3 Try.f3 (bodyOf Try.f3) := ⟨Try.func3, rfl, by kernel_rfl⟩  -- paling/palinglaw24.VectorRanks
theorem F4 : Fun Try.prog 4 Try.f4 (bodyOf Try.f4) := ⟨Try.func4, rfl, by kernel_rfl⟩  -- paling/palinglaw24.VectorLess
theorem F5 : Fun Try.prog 5 Try.f5 (bodyOf Try.f5) := ⟨Try.func5, rfl, by kernel_rfl⟩  -- paling/palinglaw24.VectorOrder
theorem F6 : Fun Try.prog 6 Try.f6 (bodyOf Try.f6) := ⟨Try.func6, rfl, by kernel_rfl⟩  -- paling/palinglaw24.VectorUnlike
theorem F7 : Fun Try.prog 7 Try.f7 (bodyOf Try.f7) := ⟨Try.func7, rfl, by kernel_rfl⟩  -- paling/palinglaw24.VectorLeast
theorem F8 : Fun Try.prog 8 Try.f8 (bodyOf Try.f8) := ⟨Try.func8, rfl, by kernel_rfl⟩  -- paling/palinglaw15.Great
theorem F9 : Fun Try.prog 9 Try.f9 (bodyOf Try.f9) := ⟨Try.func9, rfl, by kernel_rfl⟩  -- paling/palinglaw24.works
theorem F10 : Fun Try.prog 10 Try.f10 (bodyOf Try.f10) := ⟨Try.func10, rfl, by kernel_rfl⟩  -- paling/vector.Ranks
theorem F11 : Fun Try.prog 11 Try.f11 (bodyOf Try.f11) := ⟨Try.func11, rfl, by kernel_rfl⟩  -- paling/vector.Costs
theorem F12 : Fun Try.prog 12 Try.f12 (bodyOf Try.f12) := ⟨Try.func12, rfl, by kernel_rfl⟩  -- paling/palingref24.Costs
theorem F13 : Fun Try.prog 13 Try.f13 (bodyOf Try.f13) := ⟨Try.func13, rfl, by kernel_rfl⟩  -- paling/palingref15.Right
theorem F14 : Fun Try.prog 14 Try.f14 (bodyOf Try.f14) := ⟨Try.func14, rfl, by kernel_rfl⟩  -- paling/palingref03.Ints
theorem F15 : Fun Try.prog 15 Try.f15 (bodyOf Try.f15) := ⟨Try.func15, rfl, by kernel_rfl⟩  -- paling/palingref24.Ranks
theorem F16 : Fun Try.prog 16 Try.f16 (bodyOf Try.f16) := ⟨Try.func16, rfl, by kernel_rfl⟩  -- paling/vector.Less
theorem F17 : Fun Try.prog 17 Try.f17 (bodyOf Try.f17) := ⟨Try.func17, rfl, by kernel_rfl⟩  -- paling/palingref24.Less
theorem F18 : Fun Try.prog 18 Try.f18 (bodyOf Try.f18) := ⟨Try.func18, rfl, by kernel_rfl⟩  -- paling/vector.Least
theorem F19 : Fun Try.prog 19 Try.f19 (bodyOf Try.f19) := ⟨Try.func19, rfl, by kernel_rfl⟩  -- paling/names.Right
theorem F20 : Fun Try.prog 20 Try.f20 (bodyOf Try.f20) := ⟨Try.func20, rfl, by kernel_rfl⟩  -- slices.SortStableFunc[[]int,int]
theorem F21 : Fun Try.prog 21 Try.f21 (bodyOf Try.f21) := ⟨Try.func21, rfl, by kernel_rfl⟩  -- paling/vector.Ranks$1
theorem F22 : Fun Try.prog 22 Try.f22 (bodyOf Try.f22) := ⟨Try.func22, rfl, by kernel_rfl⟩  -- cmp.Or[int]
theorem F23 : Fun Try.prog 23 Try.f23 (bodyOf Try.f23) := ⟨Try.func23, rfl, by kernel_rfl⟩  -- cmp.Compare[int]
theorem F24 : Fun Try.prog 24 Try.f24 (bodyOf Try.f24) := ⟨Try.func24, rfl, by kernel_rfl⟩  -- cmp.Compare[uint64]
theorem F25 : Fun Try.prog 25 Try.f25 (bodyOf Try.f25) := ⟨Try.func25, rfl, by kernel_rfl⟩  -- slices.ContainsFunc[[]paling/api.Port,paling/api.Port]
theorem F26 : Fun Try.prog 26 Try.f26 (bodyOf Try.f26) := ⟨Try.func26, rfl, by kernel_rfl⟩  -- paling/vector.Costs$1
theorem F27 : Fun Try.prog 27 Try.f27 (bodyOf Try.f27) := ⟨Try.func27, rfl, by kernel_rfl⟩  -- paling/palingref15.domains
theorem F28 : Fun Try.prog 28 Try.f28 (bodyOf Try.f28) := ⟨Try.func28, rfl, by kernel_rfl⟩  -- paling/palingref15.ports
theorem F29 : Fun Try.prog 29 Try.f29 (bodyOf Try.f29) := ⟨Try.func29, rfl, by kernel_rfl⟩  -- paling/palingref15.links
theorem F30 : Fun Try.prog 30 Try.f30 (bodyOf Try.f30) := ⟨Try.func30, rfl, by kernel_rfl⟩  -- paling/palingref15.rest
theorem F31 : Fun Try.prog 31 Try.f31 (bodyOf Try.f31) := ⟨Try.func31, rfl, by kernel_rfl⟩  -- paling/palingref24.ahead
theorem F32 : Fun Try.prog 32 Try.f32 (bodyOf Try.f32) := ⟨Try.func32, rfl, by kernel_rfl⟩  -- (paling/names.judge).few
theorem F33 : Fun Try.prog 33 Try.f33 (bodyOf Try.f33) := ⟨Try.func33, rfl, by kernel_rfl⟩  -- paling/names.all[paling/api.Domain]
theorem F34 : Fun Try.prog 34 Try.f34 (bodyOf Try.f34) := ⟨Try.func34, rfl, by kernel_rfl⟩  -- (paling/names.judge).bare
theorem F35 : Fun Try.prog 35 Try.f35 (bodyOf Try.f35) := ⟨Try.func35, rfl, by kernel_rfl⟩  -- (paling/names.judge).peers
theorem F36 : Fun Try.prog 36 Try.f36 (bodyOf Try.f36) := ⟨Try.func36, rfl, by kernel_rfl⟩  -- paling/names.all[paling/api.Port]
theorem F37 : Fun Try.prog 37 Try.f37 (bodyOf Try.f37) := ⟨Try.func37, rfl, by kernel_rfl⟩  -- (paling/names.judge).port
theorem F38 : Fun Try.prog 38 Try.f38 (bodyOf Try.f38) := ⟨Try.func38, rfl, by kernel_rfl⟩  -- paling/names.all[paling/api.Link]
theorem F39 : Fun Try.prog 39 Try.f39 (bodyOf Try.f39) := ⟨Try.func39, rfl, by kernel_rfl⟩  -- (paling/names.judge).link
theorem F40 : Fun Try.prog 40 Try.f40 (bodyOf Try.f40) := ⟨Try.func40, rfl, by kernel_rfl⟩  -- paling/names.all[paling/api.Static]
theorem F41 : Fun Try.prog 41 Try.f41 (bodyOf Try.f41) := ⟨Try.func41, rfl, by kernel_rfl⟩  -- (paling/names.judge).static
theorem F42 : Fun Try.prog 42 Try.f42 (bodyOf Try.f42) := ⟨Try.func42, rfl, by kernel_rfl⟩  -- paling/names.all[paling/api.Flood]
theorem F43 : Fun Try.prog 43 Try.f43 (bodyOf Try.f43) := ⟨Try.func43, rfl, by kernel_rfl⟩  -- paling/names.Right$1
theorem F44 : Fun Try.prog 44 Try.f44 (bodyOf Try.f44) := ⟨Try.func44, rfl, by kernel_rfl⟩  -- paling/names.place[paling/api.Device]
theorem F45 : Fun Try.prog 45 Try.f45 (bodyOf Try.f45) := ⟨Try.func45, rfl, by kernel_rfl⟩  -- paling/names.all[paling/api.Vrf]
theorem F46 : Fun Try.prog 46 Try.f46 (bodyOf Try.f46) := ⟨Try.func46, rfl, by kernel_rfl⟩  -- paling/names.Right$2
theorem F47 : Fun Try.prog 47 Try.f47 (bodyOf Try.f47) := ⟨Try.func47, rfl, by kernel_rfl⟩  -- paling/names.rising
theorem F48 : Fun Try.prog 48 Try.f48 (bodyOf Try.f48) := ⟨Try.func48, rfl, by kernel_rfl⟩  -- paling/names.all[paling/api.Irb]
theorem F49 : Fun Try.prog 49 Try.f49 (bodyOf Try.f49) := ⟨Try.func49, rfl, by kernel_rfl⟩  -- (paling/names.judge).irb
theorem F50 : Fun Try.prog 50 Try.f50 (bodyOf Try.f50) := ⟨Try.func50, rfl, by kernel_rfl⟩  -- slices.stableCmpFunc[int]
theorem F51 : Fun Try.prog 51 Try.f51 (bodyOf Try.f51) := ⟨Try.func51, rfl, by kernel_rfl⟩  -- cmp.isNaN[int]
theorem F52 : Fun Try.prog 52 Try.f52 (bodyOf Try.f52) := ⟨Try.func52, rfl, by kernel_rfl⟩  -- cmp.isNaN[uint64]
theorem F53 : Fun Try.prog 53 Try.f53 (bodyOf Try.f53) := ⟨Try.func53, rfl, by kernel_rfl⟩  -- slices.IndexFunc[[]paling/api.Port,paling/api.Port]
theorem F54 : Fun Try.prog 54 Try.f54 (bodyOf Try.f54) := ⟨Try.func54, rfl, by kernel_rfl⟩  -- paling/palingref15.Place
theorem F55 : Fun Try.prog 55 Try.f55 (bodyOf Try.f55) := ⟨Try.func55, rfl, by kernel_rfl⟩  -- paling/palingref15.At
theorem F56 : Fun Try.prog 56 Try.f56 (bodyOf Try.f56) := ⟨Try.func56, rfl, by kernel_rfl⟩  -- paling/palingref15.peer
theorem F57 : Fun Try.prog 57 Try.f57 (bodyOf Try.f57) := ⟨Try.func57, rfl, by kernel_rfl⟩  -- paling/palingref15.In
theorem F58 : Fun Try.prog 58 Try.f58 (bodyOf Try.f58) := ⟨Try.func58, rfl, by kernel_rfl⟩  -- paling/palingref15.rising
theorem F59 : Fun Try.prog 59 Try.f59 (bodyOf Try.f59) := ⟨Try.func59, rfl, by kernel_rfl⟩  -- paling/palingref15.Member
theorem F60 : Fun Try.prog 60 Try.f60 (bodyOf Try.f60) := ⟨Try.func60, rfl, by kernel_rfl⟩  -- paling/names.place[paling/api.Irb]
theorem F61 : Fun Try.prog 61 Try.f61 (bodyOf Try.f61) := ⟨Try.func61, rfl, by kernel_rfl⟩  -- (paling/names.judge).domain
theorem F62 : Fun Try.prog 62 Try.f62 (bodyOf Try.f62) := ⟨Try.func62, rfl, by kernel_rfl⟩  -- paling/names.all[int]
theorem F63 : Fun Try.prog 63 Try.f63 (bodyOf Try.f63) := ⟨Try.func63, rfl, by kernel_rfl⟩  -- (paling/names.judge).peers$1
theorem F64 : Fun Try.prog 64 Try.f64 (bodyOf Try.f64) := ⟨Try.func64, rfl, by kernel_rfl⟩  -- (paling/names.judge).peer
theorem F65 : Fun Try.prog 65 Try.f65 (bodyOf Try.f65) := ⟨Try.func65, rfl, by kernel_rfl⟩  -- slices.Index[[]int,int]
theorem F66 : Fun Try.prog 66 Try.f66 (bodyOf Try.f66) := ⟨Try.func66, rfl, by kernel_rfl⟩  -- slices.Contains[[]int,int]
theorem F67 : Fun Try.prog 67 Try.f67 (bodyOf Try.f67) := ⟨Try.func67, rfl, by kernel_rfl⟩  -- paling/names.place[paling/api.Link]
theorem F68 : Fun Try.prog 68 Try.f68 (bodyOf Try.f68) := ⟨Try.func68, rfl, by kernel_rfl⟩  -- paling/names.place[paling/api.Port]
theorem F69 : Fun Try.prog 69 Try.f69 (bodyOf Try.f69) := ⟨Try.func69, rfl, by kernel_rfl⟩  -- paling/names.place[paling/api.Domain]
theorem F70 : Fun Try.prog 70 Try.f70 (bodyOf Try.f70) := ⟨Try.func70, rfl, by kernel_rfl⟩  -- paling/names.Member
theorem F71 : Fun Try.prog 71 Try.f71 (bodyOf Try.f71) := ⟨Try.func71, rfl, by kernel_rfl⟩  -- paling/num.Rising
theorem F72 : Fun Try.prog 72 Try.f72 (bodyOf Try.f72) := ⟨Try.func72, rfl, by kernel_rfl⟩  -- paling/names.place[paling/api.Vrf]
theorem F73 : Fun Try.prog 73 Try.f73 (bodyOf Try.f73) := ⟨Try.func73, rfl, by kernel_rfl⟩  -- slices.insertionSortCmpFunc[int]
theorem F74 : Fun Try.prog 74 Try.f74 (bodyOf Try.f74) := ⟨Try.func74, rfl, by kernel_rfl⟩  -- slices.symMergeCmpFunc[int]
theorem F75 : Fun Try.prog 75 Try.f75 (bodyOf Try.f75) := ⟨Try.func75, rfl, by kernel_rfl⟩  -- paling/palingref03.Rising
theorem F76 : Fun Try.prog 76 Try.f76 (bodyOf Try.f76) := ⟨Try.func76, rfl, by kernel_rfl⟩  -- slices.IndexFunc[[]paling/api.Domain,paling/api.Domain]
theorem F77 : Fun Try.prog 77 Try.f77 (bodyOf Try.f77) := ⟨Try.func77, rfl, by kernel_rfl⟩  -- (paling/names.judge).domain$1
theorem F78 : Fun Try.prog 78 Try.f78 (bodyOf Try.f78) := ⟨Try.func78, rfl, by kernel_rfl⟩  -- (paling/names.judge).vtep
theorem F79 : Fun Try.prog 79 Try.f79 (bodyOf Try.f79) := ⟨Try.func79, rfl, by kernel_rfl⟩  -- slices.rotateCmpFunc[int]
theorem F80 : Fun Try.prog 80 Try.f80 (bodyOf Try.f80) := ⟨Try.func80, rfl, by kernel_rfl⟩  -- slices.swapRangeCmpFunc[int]

end Go.Sy.Ytjnkgkpenhjmfaa
