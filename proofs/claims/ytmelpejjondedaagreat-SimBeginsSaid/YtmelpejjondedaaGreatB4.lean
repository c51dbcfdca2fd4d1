/-
  The types' table of this seat's program, and its functions' own facts. Written by program (gentypes.py). Nets: what a net's value reads as. Contracts: bytes of numbers, frames put (mac, palingref01, ether, palingref04). Scripts made by a number: what they are. Sums of words, brought down.
-/
import Derived.Test.YtmelpejjondedaaGreatB3
import Derived.Test.YtmelpejjondedaaGreatProg
import Derived.Laws.Bits64b

namespace Go.Sy.YtmelpejjondedaaGreat
open Go.Proofs
set_option maxRecDepth 100000
theorem ty1 : tiOf Tryz.prog 1 = some ⟨.func, 1, [.nilFunc]⟩ := by kernel_rfl
theorem ty2 : tiOf Tryz.prog 2 = some ⟨.int .i64, 1, [.int .i64 0]⟩ := by kernel_rfl
theorem ty3 : tiOf Tryz.prog 3 = some ⟨.int .i64, 1, [.int .i64 0]⟩ := by kernel_rfl
theorem ty4 : tiOf Tryz.prog 4 = some ⟨.bool, 1, [.bool false]⟩ := by kernel_rfl
theorem ty5 : tiOf Tryz.prog 5 = some ⟨.int .u8, 1, [.int .u8 0]⟩ := by kernel_rfl
theorem ty7 : tiOf Tryz.prog 7 = some ⟨.struct [(0, 1), (1, 1), (2, 1), (3, 1)], 4, [.int .i64 0, .int .i64 0, .bool false, .int .u8 0]⟩ := by kernel_rfl
theorem ty9 : tiOf Tryz.prog 9 = some ⟨.string, 1, [.string .empty]⟩ := by kernel_rfl
theorem ty12 : tiOf Tryz.prog 12 = some ⟨.int .u64, 1, [.int .u64 0]⟩ := by kernel_rfl
theorem ty13 : tiOf Tryz.prog 13 = some ⟨.struct [(0, 1), (1, 1)], 2, [.string .empty, .int .u64 0]⟩ := by kernel_rfl
theorem ty15 : tiOf Tryz.prog 15 = some ⟨.ptr, 1, [.pointer none]⟩ := by kernel_rfl
theorem ty16 : tiOf Tryz.prog 16 = some ⟨.ptr, 1, [.pointer none]⟩ := by kernel_rfl
theorem ty17 : tiOf Tryz.prog 17 = some ⟨.ptr, 1, [.pointer none]⟩ := by kernel_rfl
theorem ty18 : tiOf Tryz.prog 18 = some ⟨.struct [(0, 1)], 1, [.pointer none]⟩ := by kernel_rfl
theorem ty20 : tiOf Tryz.prog 20 = some ⟨.iface, 1, [.nilIface]⟩ := by kernel_rfl
theorem ty21 : tiOf Tryz.prog 21 = some ⟨.int .i32, 1, [.int .i32 0]⟩ := by kernel_rfl
theorem ty22 : tiOf Tryz.prog 22 = some ⟨.slice 92 5 48 [.int .i64 0, .int .i64 0, .string .empty, .int .u64 0, .int .u32 0], 1, [.slice none 0 0]⟩ := by kernel_rfl
theorem ty23 : tiOf Tryz.prog 23 = some ⟨.slice 81 7 80 [.int .i64 0, .int .i64 0, .int .i64 0, .int .i64 0, .int .i64 0, .string .empty, .slice none 0 0], 1, [.slice none 0 0]⟩ := by kernel_rfl
theorem ty24 : tiOf Tryz.prog 24 = some ⟨.slice 167 3 24 [.int .i64 0, .int .i64 0, .int .i64 0], 1, [.slice none 0 0]⟩ := by kernel_rfl
theorem ty25 : tiOf Tryz.prog 25 = some ⟨.slice 83 6 64 [.int .i64 0, .int .i64 0, .int .i64 0, .int .i64 0, .int .i64 0, .slice none 0 0], 1, [.slice none 0 0]⟩ := by kernel_rfl
theorem ty26 : tiOf Tryz.prog 26 = some ⟨.slice 196 4 32 [.int .i64 0, .int .i64 0, .int .i64 0, .int .u64 0], 1, [.slice none 0 0]⟩ := by kernel_rfl
theorem ty27 : tiOf Tryz.prog 27 = some ⟨.slice 86 4 48 [.int .i64 0, .int .i64 0, .int .i64 0, .slice none 0 0], 1, [.slice none 0 0]⟩ := by kernel_rfl
theorem ty28 : tiOf Tryz.prog 28 = some ⟨.slice 88 5 80 [.int .i64 0, .int .i64 0, .string .empty, .slice none 0 0, .slice none 0 0], 1, [.slice none 0 0]⟩ := by kernel_rfl
theorem ty29 : tiOf Tryz.prog 29 = some ⟨.slice 203 5 40 [.int .i64 0, .int .i64 0, .int .i64 0, .int .u32 0, .int .i64 0], 1, [.slice none 0 0]⟩ := by kernel_rfl
theorem ty30 : tiOf Tryz.prog 30 = some ⟨.struct [(0, 1), (1, 1), (2, 1), (3, 1), (4, 1), (5, 1), (6, 1), (7, 1)], 8, [.slice none 0 0, .slice none 0 0, .slice none 0 0, .slice none 0 0, .slice none 0 0, .slice none 0 0, .slice none 0 0, .slice none 0 0]⟩ := by kernel_rfl
theorem ty31 : tiOf Tryz.prog 31 = some ⟨.struct [(0, 1), (1, 1), (2, 1), (3, 1), (4, 1), (5, 1), (6, 1), (7, 1)], 8, [.slice none 0 0, .slice none 0 0, .slice none 0 0, .slice none 0 0, .slice none 0 0, .slice none 0 0, .slice none 0 0, .slice none 0 0]⟩ := by kernel_rfl
theorem ty32 : tiOf Tryz.prog 32 = some ⟨.slice 47 6 80 [.int .i64 0, .int .i64 0, .int .i64 0, .int .i64 0, .slice none 0 0, .slice none 0 0], 1, [.slice none 0 0]⟩ := by kernel_rfl
theorem ty33 : tiOf Tryz.prog 33 = some ⟨.func, 1, [.nilFunc]⟩ := by kernel_rfl
theorem ty34 : tiOf Tryz.prog 34 = some ⟨.func, 1, [.nilFunc]⟩ := by kernel_rfl
theorem ty35 : tiOf Tryz.prog 35 = some ⟨.func, 1, [.nilFunc]⟩ := by kernel_rfl
theorem ty36 : tiOf Tryz.prog 36 = some ⟨.slice 67 3 40 [.int .i64 0, .int .i64 0, .slice none 0 0], 1, [.slice none 0 0]⟩ := by kernel_rfl
theorem ty37 : tiOf Tryz.prog 37 = some ⟨.int .i64, 1, [.int .i64 0]⟩ := by kernel_rfl
theorem ty39 : tiOf Tryz.prog 39 = some ⟨.func, 1, [.nilFunc]⟩ := by kernel_rfl
theorem ty40 : tiOf Tryz.prog 40 = some ⟨.ptr, 1, [.pointer none]⟩ := by kernel_rfl
theorem ty42 : tiOf Tryz.prog 42 = some ⟨.func, 1, [.nilFunc]⟩ := by kernel_rfl
theorem ty43 : tiOf Tryz.prog 43 = some ⟨.func, 1, [.nilFunc]⟩ := by kernel_rfl
theorem ty44 : tiOf Tryz.prog 44 = some ⟨.slice 5 1 1 [.int .u8 0], 1, [.slice none 0 0]⟩ := by kernel_rfl
theorem ty45 : tiOf Tryz.prog 45 = some ⟨.slice 4 1 1 [.bool false], 1, [.slice none 0 0]⟩ := by kernel_rfl
theorem ty46 : tiOf Tryz.prog 46 = some ⟨.struct [(0, 1), (1, 1), (2, 1), (3, 1), (4, 1), (5, 1)], 6, [.int .i64 0, .int .i64 0, .int .i64 0, .int .i64 0, .slice none 0 0, .slice none 0 0]⟩ := by kernel_rfl
theorem ty47 : tiOf Tryz.prog 47 = some ⟨.struct [(0, 1), (1, 1), (2, 1), (3, 1), (4, 1), (5, 1)], 6, [.int .i64 0, .int .i64 0, .int .i64 0, .int .i64 0, .slice none 0 0, .slice none 0 0]⟩ := by kernel_rfl
theorem ty48 : tiOf Tryz.prog 48 = some ⟨.func, 1, [.nilFunc]⟩ := by kernel_rfl
theorem ty49 : tiOf Tryz.prog 49 = some ⟨.func, 1, [.nilFunc]⟩ := by kernel_rfl
theorem ty50 : tiOf Tryz.prog 50 = some ⟨.func, 1, [.nilFunc]⟩ := by kernel_rfl
theorem ty51 : tiOf Tryz.prog 51 = some ⟨.slice 55 1 24 [.slice none 0 0], 1, [.slice none 0 0]⟩ := by kernel_rfl
theorem ty52 : tiOf Tryz.prog 52 = some ⟨.ptr, 1, [.pointer none]⟩ := by kernel_rfl
theorem ty54 : tiOf Tryz.prog 54 = some ⟨.func, 1, [.nilFunc]⟩ := by kernel_rfl
theorem ty55 : tiOf Tryz.prog 55 = some ⟨.slice 137 3 24 [.int .u64 0, .int .i64 0, .int .i64 0], 1, [.slice none 0 0]⟩ := by kernel_rfl
theorem ty56 : tiOf Tryz.prog 56 = some ⟨.func, 1, [.nilFunc]⟩ := by kernel_rfl
theorem ty57 : tiOf Tryz.prog 57 = some ⟨.slice 143 1 24 [.slice none 0 0], 1, [.slice none 0 0]⟩ := by kernel_rfl
theorem ty58 : tiOf Tryz.prog 58 = some ⟨.array 3 64 1, 64, [.int .i64 0, .int .i64 0, .int .i64 0, .int .i64 0, .int .i64 0, .int .i64 0, .int .i64 0, .int .i64 0, .int .i64 0, .int .i64 0, .int .i64 0, .int .i64 0, .int .i64 0, .int .i64 0, .int .i64 0, .int .i64 0, .int .i64 0, .int .i64 0, .int .i64 0, .int .i64 0, .int .i64 0, .int .i64 0, .int .i64 0, .int .i64 0, .int .i64 0, .int .i64 0, .int .i64 0, .int .i64 0, .int .i64 0, .int .i64 0, .int .i64 0, .int .i64 0, .int .i64 0, .int .i64 0, .int .i64 0, .int .i64 0, .int .i64 0, .int .i64 0, .int .i64 0, .int .i64 0, .int .i64 0, .int .i64 0, .int .i64 0, .int .i64 0, .int .i64 0, .int .i64 0, .int .i64 0, .int .i64 0, .int .i64 0, .int .i64 0, .int .i64 0, .int .i64 0, .int .i64 0, .int .i64 0, .int .i64 0, .int .i64 0, .int .i64 0, .int .i64 0, .int .i64 0, .int .i64 0, .int .i64 0, .int .i64 0, .int .i64 0, .int .i64 0]⟩ := by kernel_rfl
theorem ty59 : tiOf Tryz.prog 59 = some ⟨.struct [(0, 8), (8, 1), (9, 1), (10, 1), (11, 1), (12, 1), (13, 64)], 77, [.slice none 0 0, .slice none 0 0, .slice none 0 0, .slice none 0 0, .slice none 0 0, .slice none 0 0, .slice none 0 0, .slice none 0 0, .slice none 0 0, .slice none 0 0, .slice none 0 0, .int .i64 0, .int .i64 0, .int .i64 0, .int .i64 0, .int .i64 0, .int .i64 0, .int .i64 0, .int .i64 0, .int .i64 0, .int .i64 0, .int .i64 0, .int .i64 0, .int .i64 0, .int .i64 0, .int .i64 0, .int .i64 0, .int .i64 0, .int .i64 0, .int .i64 0, .int .i64 0, .int .i64 0, .int .i64 0, .int .i64 0, .int .i64 0, .int .i64 0, .int .i64 0, .int .i64 0, .int .i64 0, .int .i64 0, .int .i64 0, .int .i64 0, .int .i64 0, .int .i64 0, .int .i64 0, .int .i64 0, .int .i64 0, .int .i64 0, .int .i64 0, .int .i64 0, .int .i64 0, .int .i64 0, .int .i64 0, .int .i64 0, .int .i64 0, .int .i64 0, .int .i64 0, .int .i64 0, .int .i64 0, .int .i64 0, .int .i64 0, .int .i64 0, .int .i64 0, .int .i64 0, .int .i64 0, .int .i64 0, .int .i64 0, .int .i64 0, .int .i64 0, .int .i64 0, .int .i64 0, .int .i64 0, .int .i64 0, .int .i64 0, .int .i64 0, .int .i64 0, .int .i64 0]⟩ := by kernel_rfl
theorem ty60 : tiOf Tryz.prog 60 = some ⟨.struct [(0, 8), (8, 1), (9, 1), (10, 1), (11, 1), (12, 1), (13, 64)], 77, [.slice none 0 0, .slice none 0 0, .slice none 0 0, .slice none 0 0, .slice none 0 0, .slice none 0 0, .slice none 0 0, .slice none 0 0, .slice none 0 0, .slice none 0 0, .slice none 0 0, .int .i64 0, .int .i64 0, .int .i64 0, .int .i64 0, .int .i64 0, .int .i64 0, .int .i64 0, .int .i64 0, .int .i64 0, .int .i64 0, .int .i64 0, .int .i64 0, .int .i64 0, .int .i64 0, .int .i64 0, .int .i64 0, .int .i64 0, .int .i64 0, .int .i64 0, .int .i64 0, .int .i64 0, .int .i64 0, .int .i64 0, .int .i64 0, .int .i64 0, .int .i64 0, .int .i64 0, .int .i64 0, .int .i64 0, .int .i64 0, .int .i64 0, .int .i64 0, .int .i64 0, .int .i64 0, .int .i64 0, .int .i64 0, .int .i64 0, .int .i64 0, .int .i64 0, .int .i64 0, .int .i64 0, .int .i64 0, .int .i64 0, .int .i64 0, .int .i64 0, .int .i64 0, .int .i64 0, .int .i64 0, .int .i64 0, .int .i64 0, .int .i64 0, .int .i64 0, .int .i64 0, .int .i64 0, .int .i64 0, .int .i64 0, .int .i64 0, .int .i64 0, .int .i64 0, .int .i64 0, .int .i64 0, .int .i64 0, .int .i64 0, .int .i64 0, .int .i64 0, .int .i64 0]⟩ := by kernel_rfl
theorem ty61 : tiOf Tryz.prog 61 = some ⟨.func, 1, [.nilFunc]⟩ := by kernel_rfl
theorem ty62 : tiOf Tryz.prog 62 = some ⟨.func, 1, [.nilFunc]⟩ := by kernel_rfl
theorem ty63 : tiOf Tryz.prog 63 = some ⟨.func, 1, [.nilFunc]⟩ := by kernel_rfl
theorem ty64 : tiOf Tryz.prog 64 = some ⟨.func, 1, [.nilFunc]⟩ := by kernel_rfl
theorem ty65 : tiOf Tryz.prog 65 = some ⟨.slice 3 1 8 [.int .i64 0], 1, [.slice none 0 0]⟩ := by kernel_rfl
theorem ty66 : tiOf Tryz.prog 66 = some ⟨.struct [(0, 1), (1, 1), (2, 1)], 3, [.int .i64 0, .int .i64 0, .slice none 0 0]⟩ := by kernel_rfl
theorem ty67 : tiOf Tryz.prog 67 = some ⟨.struct [(0, 1), (1, 1), (2, 1)], 3, [.int .i64 0, .int .i64 0, .slice none 0 0]⟩ := by kernel_rfl
theorem ty68 : tiOf Tryz.prog 68 = some ⟨.func, 1, [.nilFunc]⟩ := by kernel_rfl
theorem ty69 : tiOf Tryz.prog 69 = some ⟨.func, 1, [.nilFunc]⟩ := by kernel_rfl
theorem ty71 : tiOf Tryz.prog 71 = some ⟨.func, 1, [.nilFunc]⟩ := by kernel_rfl
theorem ty72 : tiOf Tryz.prog 72 = some ⟨.func, 1, [.nilFunc]⟩ := by kernel_rfl
theorem ty73 : tiOf Tryz.prog 73 = some ⟨.func, 1, [.nilFunc]⟩ := by kernel_rfl
theorem ty75 : tiOf Tryz.prog 75 = some ⟨.func, 1, [.nilFunc]⟩ := by kernel_rfl
theorem ty76 : tiOf Tryz.prog 76 = some ⟨.func, 1, [.nilFunc]⟩ := by kernel_rfl
theorem ty78 : tiOf Tryz.prog 78 = some ⟨.func, 1, [.nilFunc]⟩ := by kernel_rfl
theorem ty79 : tiOf Tryz.prog 79 = some ⟨.func, 1, [.nilFunc]⟩ := by kernel_rfl
theorem ty80 : tiOf Tryz.prog 80 = some ⟨.struct [(0, 1), (1, 1), (2, 1), (3, 1), (4, 1), (5, 1), (6, 1)], 7, [.int .i64 0, .int .i64 0, .int .i64 0, .int .i64 0, .int .i64 0, .string .empty, .slice none 0 0]⟩ := by kernel_rfl
theorem ty81 : tiOf Tryz.prog 81 = some ⟨.struct [(0, 1), (1, 1), (2, 1), (3, 1), (4, 1), (5, 1), (6, 1)], 7, [.int .i64 0, .int .i64 0, .int .i64 0, .int .i64 0, .int .i64 0, .string .empty, .slice none 0 0]⟩ := by kernel_rfl
theorem ty82 : tiOf Tryz.prog 82 = some ⟨.struct [(0, 1), (1, 1), (2, 1), (3, 1), (4, 1), (5, 1)], 6, [.int .i64 0, .int .i64 0, .int .i64 0, .int .i64 0, .int .i64 0, .slice none 0 0]⟩ := by kernel_rfl
theorem ty83 : tiOf Tryz.prog 83 = some ⟨.struct [(0, 1), (1, 1), (2, 1), (3, 1), (4, 1), (5, 1)], 6, [.int .i64 0, .int .i64 0, .int .i64 0, .int .i64 0, .int .i64 0, .slice none 0 0]⟩ := by kernel_rfl
theorem ty84 : tiOf Tryz.prog 84 = some ⟨.slice 90 1 4 [.int .u32 0], 1, [.slice none 0 0]⟩ := by kernel_rfl
theorem ty85 : tiOf Tryz.prog 85 = some ⟨.struct [(0, 1), (1, 1), (2, 1), (3, 1)], 4, [.int .i64 0, .int .i64 0, .int .i64 0, .slice none 0 0]⟩ := by kernel_rfl
theorem ty86 : tiOf Tryz.prog 86 = some ⟨.struct [(0, 1), (1, 1), (2, 1), (3, 1)], 4, [.int .i64 0, .int .i64 0, .int .i64 0, .slice none 0 0]⟩ := by kernel_rfl
theorem ty87 : tiOf Tryz.prog 87 = some ⟨.struct [(0, 1), (1, 1), (2, 1), (3, 1), (4, 1)], 5, [.int .i64 0, .int .i64 0, .string .empty, .slice none 0 0, .slice none 0 0]⟩ := by kernel_rfl
theorem ty88 : tiOf Tryz.prog 88 = some ⟨.struct [(0, 1), (1, 1), (2, 1), (3, 1), (4, 1)], 5, [.int .i64 0, .int .i64 0, .string .empty, .slice none 0 0, .slice none 0 0]⟩ := by kernel_rfl
theorem ty89 : tiOf Tryz.prog 89 = some ⟨.int .u64, 1, [.int .u64 0]⟩ := by kernel_rfl
theorem ty90 : tiOf Tryz.prog 90 = some ⟨.int .u32, 1, [.int .u32 0]⟩ := by kernel_rfl
theorem ty91 : tiOf Tryz.prog 91 = some ⟨.struct [(0, 1), (1, 1), (2, 1), (3, 1), (4, 1)], 5, [.int .i64 0, .int .i64 0, .string .empty, .int .u64 0, .int .u32 0]⟩ := by kernel_rfl
theorem ty92 : tiOf Tryz.prog 92 = some ⟨.struct [(0, 1), (1, 1), (2, 1), (3, 1), (4, 1)], 5, [.int .i64 0, .int .i64 0, .string .empty, .int .u64 0, .int .u32 0]⟩ := by kernel_rfl
theorem ty94 : tiOf Tryz.prog 94 = some ⟨.func, 1, [.nilFunc]⟩ := by kernel_rfl
theorem ty95 : tiOf Tryz.prog 95 = some ⟨.struct [(0, 1), (1, 1), (2, 1), (3, 1)], 4, [.int .u64 0, .int .u64 0, .int .i64 0, .slice none 0 0]⟩ := by kernel_rfl
theorem ty96 : tiOf Tryz.prog 96 = some ⟨.struct [(0, 1), (1, 1), (2, 1), (3, 1)], 4, [.int .u64 0, .int .u64 0, .int .i64 0, .slice none 0 0]⟩ := by kernel_rfl
theorem ty98 : tiOf Tryz.prog 98 = some ⟨.func, 1, [.nilFunc]⟩ := by kernel_rfl
theorem ty99 : tiOf Tryz.prog 99 = some ⟨.func, 1, [.nilFunc]⟩ := by kernel_rfl
theorem ty101 : tiOf Tryz.prog 101 = some ⟨.func, 1, [.nilFunc]⟩ := by kernel_rfl
theorem ty102 : tiOf Tryz.prog 102 = some ⟨.func, 1, [.nilFunc]⟩ := by kernel_rfl
theorem ty103 : tiOf Tryz.prog 103 = some ⟨.struct [(0, 1), (1, 1), (2, 1), (3, 4)], 7, [.int .i64 0, .int .i64 0, .int .i64 0, .int .u64 0, .int .u64 0, .int .i64 0, .slice none 0 0]⟩ := by kernel_rfl
theorem ty104 : tiOf Tryz.prog 104 = some ⟨.struct [(0, 1), (1, 1), (2, 1), (3, 4)], 7, [.int .i64 0, .int .i64 0, .int .i64 0, .int .u64 0, .int .u64 0, .int .i64 0, .slice none 0 0]⟩ := by kernel_rfl
theorem ty106 : tiOf Tryz.prog 106 = some ⟨.func, 1, [.nilFunc]⟩ := by kernel_rfl
theorem ty107 : tiOf Tryz.prog 107 = some ⟨.func, 1, [.nilFunc]⟩ := by kernel_rfl
theorem ty108 : tiOf Tryz.prog 108 = some ⟨.func, 1, [.nilFunc]⟩ := by kernel_rfl
theorem ty109 : tiOf Tryz.prog 109 = some ⟨.func, 1, [.nilFunc]⟩ := by kernel_rfl
theorem ty110 : tiOf Tryz.prog 110 = some ⟨.func, 1, [.nilFunc]⟩ := by kernel_rfl
theorem ty112 : tiOf Tryz.prog 112 = some ⟨.func, 1, [.nilFunc]⟩ := by kernel_rfl
theorem ty113 : tiOf Tryz.prog 113 = some ⟨.func, 1, [.nilFunc]⟩ := by kernel_rfl
theorem ty114 : tiOf Tryz.prog 114 = some ⟨.ptr, 1, [.pointer none]⟩ := by kernel_rfl
theorem ty115 : tiOf Tryz.prog 115 = some ⟨.struct [], 0, []⟩ := by kernel_rfl
theorem ty116 : tiOf Tryz.prog 116 = some ⟨.struct [], 0, []⟩ := by kernel_rfl
theorem ty117 : tiOf Tryz.prog 117 = some ⟨.struct [], 0, []⟩ := by kernel_rfl
theorem ty118 : tiOf Tryz.prog 118 = some ⟨.struct [(0, 0), (0, 1)], 1, [.int .u32 0]⟩ := by kernel_rfl
theorem ty119 : tiOf Tryz.prog 119 = some ⟨.struct [(0, 0), (0, 1)], 1, [.int .u32 0]⟩ := by kernel_rfl
theorem ty120 : tiOf Tryz.prog 120 = some ⟨.struct [(0, 1), (1, 1)], 2, [.int .i32 0, .int .u32 0]⟩ := by kernel_rfl
theorem ty122 : tiOf Tryz.prog 122 = some ⟨.struct [(0, 0), (0, 2)], 2, [.int .i32 0, .int .u32 0]⟩ := by kernel_rfl
theorem ty123 : tiOf Tryz.prog 123 = some ⟨.struct [(0, 0), (0, 2)], 2, [.int .i32 0, .int .u32 0]⟩ := by kernel_rfl
theorem ty124 : tiOf Tryz.prog 124 = some ⟨.struct [(0, 0), (0, 1), (1, 2)], 3, [.int .u32 0, .int .i32 0, .int .u32 0]⟩ := by kernel_rfl
theorem ty125 : tiOf Tryz.prog 125 = some ⟨.struct [(0, 0), (0, 1), (1, 2)], 3, [.int .u32 0, .int .i32 0, .int .u32 0]⟩ := by kernel_rfl
theorem ty126 : tiOf Tryz.prog 126 = some ⟨.struct [(0, 1), (1, 3), (4, 1)], 5, [.slice none 0 0, .int .u32 0, .int .i32 0, .int .u32 0, .slice none 0 0]⟩ := by kernel_rfl
theorem ty127 : tiOf Tryz.prog 127 = some ⟨.struct [(0, 1), (1, 3), (4, 1)], 5, [.slice none 0 0, .int .u32 0, .int .i32 0, .int .u32 0, .slice none 0 0]⟩ := by kernel_rfl
theorem ty128 : tiOf Tryz.prog 128 = some ⟨.struct [], 0, []⟩ := by kernel_rfl
theorem ty129 : tiOf Tryz.prog 129 = some ⟨.struct [(0, 0), (0, 0), (0, 1)], 1, [.int .i64 0]⟩ := by kernel_rfl
theorem ty130 : tiOf Tryz.prog 130 = some ⟨.struct [(0, 0), (0, 0), (0, 1)], 1, [.int .i64 0]⟩ := by kernel_rfl
theorem ty131 : tiOf Tryz.prog 131 = some ⟨.array 130 64 1, 64, [.int .i64 0, .int .i64 0, .int .i64 0, .int .i64 0, .int .i64 0, .int .i64 0, .int .i64 0, .int .i64 0, .int .i64 0, .int .i64 0, .int .i64 0, .int .i64 0, .int .i64 0, .int .i64 0, .int .i64 0, .int .i64 0, .int .i64 0, .int .i64 0, .int .i64 0, .int .i64 0, .int .i64 0, .int .i64 0, .int .i64 0, .int .i64 0, .int .i64 0, .int .i64 0, .int .i64 0, .int .i64 0, .int .i64 0, .int .i64 0, .int .i64 0, .int .i64 0, .int .i64 0, .int .i64 0, .int .i64 0, .int .i64 0, .int .i64 0, .int .i64 0, .int .i64 0, .int .i64 0, .int .i64 0, .int .i64 0, .int .i64 0, .int .i64 0, .int .i64 0, .int .i64 0, .int .i64 0, .int .i64 0, .int .i64 0, .int .i64 0, .int .i64 0, .int .i64 0, .int .i64 0, .int .i64 0, .int .i64 0, .int .i64 0, .int .i64 0, .int .i64 0, .int .i64 0, .int .i64 0, .int .i64 0, .int .i64 0, .int .i64 0, .int .i64 0]⟩ := by kernel_rfl
theorem ty132 : tiOf Tryz.prog 132 = some ⟨.struct [(0, 8), (8, 1), (9, 1), (10, 1), (11, 1), (12, 1), (13, 64)], 77, [.slice none 0 0, .slice none 0 0, .slice none 0 0, .slice none 0 0, .slice none 0 0, .slice none 0 0, .slice none 0 0, .slice none 0 0, .pointer none, .slice none 0 0, .slice none 0 0, .int .i64 0, .int .i64 0, .int .i64 0, .int .i64 0, .int .i64 0, .int .i64 0, .int .i64 0, .int .i64 0, .int .i64 0, .int .i64 0, .int .i64 0, .int .i64 0, .int .i64 0, .int .i64 0, .int .i64 0, .int .i64 0, .int .i64 0, .int .i64 0, .int .i64 0, .int .i64 0, .int .i64 0, .int .i64 0, .int .i64 0, .int .i64 0, .int .i64 0, .int .i64 0, .int .i64 0, .int .i64 0, .int .i64 0, .int .i64 0, .int .i64 0, .int .i64 0, .int .i64 0, .int .i64 0, .int .i64 0, .int .i64 0, .int .i64 0, .int .i64 0, .int .i64 0, .int .i64 0, .int .i64 0, .int .i64 0, .int .i64 0, .int .i64 0, .int .i64 0, .int .i64 0, .int .i64 0, .int .i64 0, .int .i64 0, .int .i64 0, .int .i64 0, .int .i64 0, .int .i64 0, .int .i64 0, .int .i64 0, .int .i64 0, .int .i64 0, .int .i64 0, .int .i64 0, .int .i64 0, .int .i64 0, .int .i64 0, .int .i64 0, .int .i64 0, .int .i64 0, .int .i64 0]⟩ := by kernel_rfl
theorem ty133 : tiOf Tryz.prog 133 = some ⟨.struct [(0, 8), (8, 1), (9, 1), (10, 1), (11, 1), (12, 1), (13, 64)], 77, [.slice none 0 0, .slice none 0 0, .slice none 0 0, .slice none 0 0, .slice none 0 0, .slice none 0 0, .slice none 0 0, .slice none 0 0, .pointer none, .slice none 0 0, .slice none 0 0, .int .i64 0, .int .i64 0, .int .i64 0, .int .i64 0, .int .i64 0, .int .i64 0, .int .i64 0, .int .i64 0, .int .i64 0, .int .i64 0, .int .i64 0, .int .i64 0, .int .i64 0, .int .i64 0, .int .i64 0, .int .i64 0, .int .i64 0, .int .i64 0, .int .i64 0, .int .i64 0, .int .i64 0, .int .i64 0, .int .i64 0, .int .i64 0, .int .i64 0, .int .i64 0, .int .i64 0, .int .i64 0, .int .i64 0, .int .i64 0, .int .i64 0, .int .i64 0, .int .i64 0, .int .i64 0, .int .i64 0, .int .i64 0, .int .i64 0, .int .i64 0, .int .i64 0, .int .i64 0, .int .i64 0, .int .i64 0, .int .i64 0, .int .i64 0, .int .i64 0, .int .i64 0, .int .i64 0, .int .i64 0, .int .i64 0, .int .i64 0, .int .i64 0, .int .i64 0, .int .i64 0, .int .i64 0, .int .i64 0, .int .i64 0, .int .i64 0, .int .i64 0, .int .i64 0, .int .i64 0, .int .i64 0, .int .i64 0, .int .i64 0, .int .i64 0, .int .i64 0, .int .i64 0]⟩ := by kernel_rfl
theorem ty134 : tiOf Tryz.prog 134 = some ⟨.func, 1, [.nilFunc]⟩ := by kernel_rfl
theorem ty135 : tiOf Tryz.prog 135 = some ⟨.func, 1, [.nilFunc]⟩ := by kernel_rfl
theorem ty136 : tiOf Tryz.prog 136 = some ⟨.struct [(0, 1), (1, 1), (2, 1)], 3, [.int .u64 0, .int .i64 0, .int .i64 0]⟩ := by kernel_rfl
theorem ty137 : tiOf Tryz.prog 137 = some ⟨.struct [(0, 1), (1, 1), (2, 1)], 3, [.int .u64 0, .int .i64 0, .int .i64 0]⟩ := by kernel_rfl
theorem ty138 : tiOf Tryz.prog 138 = some ⟨.func, 1, [.nilFunc]⟩ := by kernel_rfl
theorem ty139 : tiOf Tryz.prog 139 = some ⟨.func, 1, [.nilFunc]⟩ := by kernel_rfl
theorem ty140 : tiOf Tryz.prog 140 = some ⟨.func, 1, [.nilFunc]⟩ := by kernel_rfl
theorem ty141 : tiOf Tryz.prog 141 = some ⟨.func, 1, [.nilFunc]⟩ := by kernel_rfl
theorem ty142 : tiOf Tryz.prog 142 = some ⟨.func, 1, [.nilFunc]⟩ := by kernel_rfl
theorem ty143 : tiOf Tryz.prog 143 = some ⟨.slice 104 7 72 [.int .i64 0, .int .i64 0, .int .i64 0, .int .u64 0, .int .u64 0, .int .i64 0, .slice none 0 0], 1, [.slice none 0 0]⟩ := by kernel_rfl
theorem ty144 : tiOf Tryz.prog 144 = some ⟨.func, 1, [.nilFunc]⟩ := by kernel_rfl
theorem ty145 : tiOf Tryz.prog 145 = some ⟨.func, 1, [.nilFunc]⟩ := by kernel_rfl
theorem ty146 : tiOf Tryz.prog 146 = some ⟨.func, 1, [.nilFunc]⟩ := by kernel_rfl
theorem ty147 : tiOf Tryz.prog 147 = some ⟨.func, 1, [.nilFunc]⟩ := by kernel_rfl
theorem ty148 : tiOf Tryz.prog 148 = some ⟨.func, 1, [.nilFunc]⟩ := by kernel_rfl
theorem ty149 : tiOf Tryz.prog 149 = some ⟨.func, 1, [.nilFunc]⟩ := by kernel_rfl
theorem ty150 : tiOf Tryz.prog 150 = some ⟨.func, 1, [.nilFunc]⟩ := by kernel_rfl
theorem ty151 : tiOf Tryz.prog 151 = some ⟨.func, 1, [.nilFunc]⟩ := by kernel_rfl
theorem ty152 : tiOf Tryz.prog 152 = some ⟨.ptr, 1, [.pointer none]⟩ := by kernel_rfl
theorem ty153 : tiOf Tryz.prog 153 = some ⟨.struct [(0, 1), (1, 1), (2, 1)], 3, [.slice none 0 0, .int .i64 0, .slice none 0 0]⟩ := by kernel_rfl
theorem ty154 : tiOf Tryz.prog 154 = some ⟨.struct [(0, 1), (1, 1), (2, 1)], 3, [.slice none 0 0, .int .i64 0, .slice none 0 0]⟩ := by kernel_rfl
theorem ty156 : tiOf Tryz.prog 156 = some ⟨.func, 1, [.nilFunc]⟩ := by kernel_rfl
theorem ty157 : tiOf Tryz.prog 157 = some ⟨.func, 1, [.nilFunc]⟩ := by kernel_rfl
theorem ty158 : tiOf Tryz.prog 158 = some ⟨.func, 1, [.nilFunc]⟩ := by kernel_rfl
theorem ty160 : tiOf Tryz.prog 160 = some ⟨.func, 1, [.nilFunc]⟩ := by kernel_rfl
theorem ty161 : tiOf Tryz.prog 161 = some ⟨.func, 1, [.nilFunc]⟩ := by kernel_rfl
theorem ty162 : tiOf Tryz.prog 162 = some ⟨.func, 1, [.nilFunc]⟩ := by kernel_rfl
theorem ty163 : tiOf Tryz.prog 163 = some ⟨.int .u64, 1, [.int .u64 0]⟩ := by kernel_rfl
theorem ty165 : tiOf Tryz.prog 165 = some ⟨.func, 1, [.nilFunc]⟩ := by kernel_rfl
theorem ty166 : tiOf Tryz.prog 166 = some ⟨.struct [(0, 1), (1, 1), (2, 1)], 3, [.int .i64 0, .int .i64 0, .int .i64 0]⟩ := by kernel_rfl
theorem ty167 : tiOf Tryz.prog 167 = some ⟨.struct [(0, 1), (1, 1), (2, 1)], 3, [.int .i64 0, .int .i64 0, .int .i64 0]⟩ := by kernel_rfl
theorem ty169 : tiOf Tryz.prog 169 = some ⟨.func, 1, [.nilFunc]⟩ := by kernel_rfl
theorem ty171 : tiOf Tryz.prog 171 = some ⟨.func, 1, [.nilFunc]⟩ := by kernel_rfl
theorem ty173 : tiOf Tryz.prog 173 = some ⟨.func, 1, [.nilFunc]⟩ := by kernel_rfl
theorem ty174 : tiOf Tryz.prog 174 = some ⟨.func, 1, [.nilFunc]⟩ := by kernel_rfl
theorem ty176 : tiOf Tryz.prog 176 = some ⟨.func, 1, [.nilFunc]⟩ := by kernel_rfl
theorem ty177 : tiOf Tryz.prog 177 = some ⟨.slice 182 9 104 [.int .i64 0, .int .i64 0, .int .i64 0, .slice none 0 0, .int .u64 0, .int .u64 0, .int .i64 0, .slice none 0 0, .int .i64 0], 1, [.slice none 0 0]⟩ := by kernel_rfl
theorem ty179 : tiOf Tryz.prog 179 = some ⟨.func, 1, [.nilFunc]⟩ := by kernel_rfl
theorem ty180 : tiOf Tryz.prog 180 = some ⟨.func, 1, [.nilFunc]⟩ := by kernel_rfl
theorem ty181 : tiOf Tryz.prog 181 = some ⟨.struct [(0, 1), (1, 1), (2, 1), (3, 1), (4, 4), (8, 1)], 9, [.int .i64 0, .int .i64 0, .int .i64 0, .slice none 0 0, .int .u64 0, .int .u64 0, .int .i64 0, .slice none 0 0, .int .i64 0]⟩ := by kernel_rfl
theorem ty182 : tiOf Tryz.prog 182 = some ⟨.struct [(0, 1), (1, 1), (2, 1), (3, 1), (4, 4), (8, 1)], 9, [.int .i64 0, .int .i64 0, .int .i64 0, .slice none 0 0, .int .u64 0, .int .u64 0, .int .i64 0, .slice none 0 0, .int .i64 0]⟩ := by kernel_rfl
theorem ty184 : tiOf Tryz.prog 184 = some ⟨.func, 1, [.nilFunc]⟩ := by kernel_rfl
theorem ty185 : tiOf Tryz.prog 185 = some ⟨.ptr, 1, [.pointer none]⟩ := by kernel_rfl
theorem ty187 : tiOf Tryz.prog 187 = some ⟨.func, 1, [.nilFunc]⟩ := by kernel_rfl
theorem ty188 : tiOf Tryz.prog 188 = some ⟨.func, 1, [.nilFunc]⟩ := by kernel_rfl
theorem ty189 : tiOf Tryz.prog 189 = some ⟨.func, 1, [.nilFunc]⟩ := by kernel_rfl
theorem ty190 : tiOf Tryz.prog 190 = some ⟨.func, 1, [.nilFunc]⟩ := by kernel_rfl
theorem ty191 : tiOf Tryz.prog 191 = some ⟨.func, 1, [.nilFunc]⟩ := by kernel_rfl
theorem ty192 : tiOf Tryz.prog 192 = some ⟨.func, 1, [.nilFunc]⟩ := by kernel_rfl
theorem ty193 : tiOf Tryz.prog 193 = some ⟨.func, 1, [.nilFunc]⟩ := by kernel_rfl
theorem ty194 : tiOf Tryz.prog 194 = some ⟨.func, 1, [.nilFunc]⟩ := by kernel_rfl
theorem ty195 : tiOf Tryz.prog 195 = some ⟨.struct [(0, 1), (1, 1), (2, 1), (3, 1)], 4, [.int .i64 0, .int .i64 0, .int .i64 0, .int .u64 0]⟩ := by kernel_rfl
theorem ty196 : tiOf Tryz.prog 196 = some ⟨.struct [(0, 1), (1, 1), (2, 1), (3, 1)], 4, [.int .i64 0, .int .i64 0, .int .i64 0, .int .u64 0]⟩ := by kernel_rfl
theorem ty197 : tiOf Tryz.prog 197 = some ⟨.func, 1, [.nilFunc]⟩ := by kernel_rfl
theorem ty198 : tiOf Tryz.prog 198 = some ⟨.func, 1, [.nilFunc]⟩ := by kernel_rfl
theorem ty199 : tiOf Tryz.prog 199 = some ⟨.func, 1, [.nilFunc]⟩ := by kernel_rfl
theorem ty200 : tiOf Tryz.prog 200 = some ⟨.struct [(0, 1), (1, 1)], 2, [.int .u32 0, .int .i64 0]⟩ := by kernel_rfl
theorem ty201 : tiOf Tryz.prog 201 = some ⟨.struct [(0, 1), (1, 1)], 2, [.int .u32 0, .int .i64 0]⟩ := by kernel_rfl
theorem ty202 : tiOf Tryz.prog 202 = some ⟨.struct [(0, 1), (1, 1), (2, 1), (3, 2)], 5, [.int .i64 0, .int .i64 0, .int .i64 0, .int .u32 0, .int .i64 0]⟩ := by kernel_rfl
theorem ty203 : tiOf Tryz.prog 203 = some ⟨.struct [(0, 1), (1, 1), (2, 1), (3, 2)], 5, [.int .i64 0, .int .i64 0, .int .i64 0, .int .u32 0, .int .i64 0]⟩ := by kernel_rfl
theorem ty204 : tiOf Tryz.prog 204 = some ⟨.func, 1, [.nilFunc]⟩ := by kernel_rfl
theorem ty205 : tiOf Tryz.prog 205 = some ⟨.func, 1, [.nilFunc]⟩ := by kernel_rfl
theorem ty206 : tiOf Tryz.prog 206 = some ⟨.ptr, 1, [.pointer none]⟩ := by kernel_rfl
theorem ty207 : tiOf Tryz.prog 207 = some ⟨.func, 1, [.nilFunc]⟩ := by kernel_rfl
theorem ty209 : tiOf Tryz.prog 209 = some ⟨.func, 1, [.nilFunc]⟩ := by kernel_rfl
theorem ty210 : tiOf Tryz.prog 210 = some ⟨.func, 1, [.nilFunc]⟩ := by kernel_rfl
theorem ty211 : tiOf Tryz.prog 211 = some ⟨.slice 217 9 104 [.int .i64 0, .int .i64 0, .int .i64 0, .slice none 0 0, .int .u64 0, .int .u64 0, .int .i64 0, .slice none 0 0, .int .i64 0], 1, [.slice none 0 0]⟩ := by kernel_rfl
theorem ty213 : tiOf Tryz.prog 213 = some ⟨.func, 1, [.nilFunc]⟩ := by kernel_rfl
theorem ty214 : tiOf Tryz.prog 214 = some ⟨.func, 1, [.nilFunc]⟩ := by kernel_rfl
theorem ty215 : tiOf Tryz.prog 215 = some ⟨.func, 1, [.nilFunc]⟩ := by kernel_rfl
theorem ty216 : tiOf Tryz.prog 216 = some ⟨.struct [(0, 1), (1, 1), (2, 1), (3, 1), (4, 4), (8, 1)], 9, [.int .i64 0, .int .i64 0, .int .i64 0, .slice none 0 0, .int .u64 0, .int .u64 0, .int .i64 0, .slice none 0 0, .int .i64 0]⟩ := by kernel_rfl
theorem ty217 : tiOf Tryz.prog 217 = some ⟨.struct [(0, 1), (1, 1), (2, 1), (3, 1), (4, 4), (8, 1)], 9, [.int .i64 0, .int .i64 0, .int .i64 0, .slice none 0 0, .int .u64 0, .int .u64 0, .int .i64 0, .slice none 0 0, .int .i64 0]⟩ := by kernel_rfl
theorem ty218 : tiOf Tryz.prog 218 = some ⟨.func, 1, [.nilFunc]⟩ := by kernel_rfl
theorem ty219 : tiOf Tryz.prog 219 = some ⟨.func, 1, [.nilFunc]⟩ := by kernel_rfl
theorem ty220 : tiOf Tryz.prog 220 = some ⟨.func, 1, [.nilFunc]⟩ := by kernel_rfl
theorem ty221 : tiOf Tryz.prog 221 = some ⟨.func, 1, [.nilFunc]⟩ := by kernel_rfl
theorem ty222 : tiOf Tryz.prog 222 = some ⟨.func, 1, [.nilFunc]⟩ := by kernel_rfl
theorem ty223 : tiOf Tryz.prog 223 = some ⟨.func, 1, [.nilFunc]⟩ := by kernel_rfl
theorem ty224 : tiOf Tryz.prog 224 = some ⟨.struct [(0, 8)], 8, [.slice none 0 0, .slice none 0 0, .slice none 0 0, .slice none 0 0, .slice none 0 0, .slice none 0 0, .slice none 0 0, .slice none 0 0]⟩ := by kernel_rfl
theorem ty225 : tiOf Tryz.prog 225 = some ⟨.struct [(0, 8)], 8, [.slice none 0 0, .slice none 0 0, .slice none 0 0, .slice none 0 0, .slice none 0 0, .slice none 0 0, .slice none 0 0, .slice none 0 0]⟩ := by kernel_rfl
theorem ty226 : tiOf Tryz.prog 226 = some ⟨.func, 1, [.nilFunc]⟩ := by kernel_rfl
theorem ty227 : tiOf Tryz.prog 227 = some ⟨.func, 1, [.nilFunc]⟩ := by kernel_rfl
theorem ty228 : tiOf Tryz.prog 228 = some ⟨.func, 1, [.nilFunc]⟩ := by kernel_rfl
theorem ty229 : tiOf Tryz.prog 229 = some ⟨.func, 1, [.nilFunc]⟩ := by kernel_rfl
theorem ty230 : tiOf Tryz.prog 230 = some ⟨.func, 1, [.nilFunc]⟩ := by kernel_rfl
theorem ty231 : tiOf Tryz.prog 231 = some ⟨.func, 1, [.nilFunc]⟩ := by kernel_rfl
theorem ty232 : tiOf Tryz.prog 232 = some ⟨.func, 1, [.nilFunc]⟩ := by kernel_rfl
theorem ty233 : tiOf Tryz.prog 233 = some ⟨.func, 1, [.nilFunc]⟩ := by kernel_rfl
theorem ty234 : tiOf Tryz.prog 234 = some ⟨.func, 1, [.nilFunc]⟩ := by kernel_rfl
theorem ty235 : tiOf Tryz.prog 235 = some ⟨.func, 1, [.nilFunc]⟩ := by kernel_rfl
theorem ty236 : tiOf Tryz.prog 236 = some ⟨.func, 1, [.nilFunc]⟩ := by kernel_rfl
theorem ty237 : tiOf Tryz.prog 237 = some ⟨.func, 1, [.nilFunc]⟩ := by kernel_rfl
theorem ty238 : tiOf Tryz.prog 238 = some ⟨.func, 1, [.nilFunc]⟩ := by kernel_rfl
theorem ty239 : tiOf Tryz.prog 239 = some ⟨.func, 1, [.nilFunc]⟩ := by kernel_rfl
theorem ty240 : tiOf Tryz.prog 240 = some ⟨.func, 1, [.nilFunc]⟩ := by kernel_rfl
theorem ty241 : tiOf Tryz.prog 241 = some ⟨.func, 1, [.nilFunc]⟩ := by kernel_rfl
theorem ty242 : tiOf Tryz.prog 242 = some ⟨.func, 1, [.nilFunc]⟩ := by kernel_rfl
theorem ty243 : tiOf Tryz.prog 243 = some ⟨.ptr, 1, [.pointer none]⟩ := by kernel_rfl
theorem ty244 : tiOf Tryz.prog 244 = some ⟨.func, 1, [.nilFunc]⟩ := by kernel_rfl
theorem ty245 : tiOf Tryz.prog 245 = some ⟨.func, 1, [.nilFunc]⟩ := by kernel_rfl
theorem ty246 : tiOf Tryz.prog 246 = some ⟨.struct [(0, 1), (1, 1), (2, 1), (3, 1), (4, 1)], 5, [.int .i64 0, .int .i64 0, .int .i64 0, .int .i64 0, .int .i64 0]⟩ := by kernel_rfl
theorem ty247 : tiOf Tryz.prog 247 = some ⟨.struct [(0, 1), (1, 1), (2, 1), (3, 1), (4, 1)], 5, [.int .i64 0, .int .i64 0, .int .i64 0, .int .i64 0, .int .i64 0]⟩ := by kernel_rfl
theorem ty248 : tiOf Tryz.prog 248 = some ⟨.slice 247 5 40 [.int .i64 0, .int .i64 0, .int .i64 0, .int .i64 0, .int .i64 0], 1, [.slice none 0 0]⟩ := by kernel_rfl
theorem ty249 : tiOf Tryz.prog 249 = some ⟨.struct [(0, 8), (8, 1), (9, 1), (10, 1)], 11, [.slice none 0 0, .slice none 0 0, .slice none 0 0, .slice none 0 0, .slice none 0 0, .slice none 0 0, .slice none 0 0, .slice none 0 0, .slice none 0 0, .slice none 0 0, .slice none 0 0]⟩ := by kernel_rfl
theorem ty250 : tiOf Tryz.prog 250 = some ⟨.struct [(0, 8), (8, 1), (9, 1), (10, 1)], 11, [.slice none 0 0, .slice none 0 0, .slice none 0 0, .slice none 0 0, .slice none 0 0, .slice none 0 0, .slice none 0 0, .slice none 0 0, .slice none 0 0, .slice none 0 0, .slice none 0 0]⟩ := by kernel_rfl
theorem ty252 : tiOf Tryz.prog 252 = some ⟨.func, 1, [.nilFunc]⟩ := by kernel_rfl
theorem ty253 : tiOf Tryz.prog 253 = some ⟨.func, 1, [.nilFunc]⟩ := by kernel_rfl
theorem ty255 : tiOf Tryz.prog 255 = some ⟨.func, 1, [.nilFunc]⟩ := by kernel_rfl
theorem ty256 : tiOf Tryz.prog 256 = some ⟨.func, 1, [.nilFunc]⟩ := by kernel_rfl
theorem ty257 : tiOf Tryz.prog 257 = some ⟨.func, 1, [.nilFunc]⟩ := by kernel_rfl
theorem ty258 : tiOf Tryz.prog 258 = some ⟨.func, 1, [.nilFunc]⟩ := by kernel_rfl
theorem ty259 : tiOf Tryz.prog 259 = some ⟨.func, 1, [.nilFunc]⟩ := by kernel_rfl
theorem ty261 : tiOf Tryz.prog 261 = some ⟨.func, 1, [.nilFunc]⟩ := by kernel_rfl
theorem ty262 : tiOf Tryz.prog 262 = some ⟨.func, 1, [.nilFunc]⟩ := by kernel_rfl
theorem ty264 : tiOf Tryz.prog 264 = some ⟨.func, 1, [.nilFunc]⟩ := by kernel_rfl
theorem ty265 : tiOf Tryz.prog 265 = some ⟨.func, 1, [.nilFunc]⟩ := by kernel_rfl
theorem ty267 : tiOf Tryz.prog 267 = some ⟨.func, 1, [.nilFunc]⟩ := by kernel_rfl
theorem ty269 : tiOf Tryz.prog 269 = some ⟨.func, 1, [.nilFunc]⟩ := by kernel_rfl
theorem ty270 : tiOf Tryz.prog 270 = some ⟨.func, 1, [.nilFunc]⟩ := by kernel_rfl
theorem ty271 : tiOf Tryz.prog 271 = some ⟨.struct [(0, 8), (8, 1), (9, 1), (10, 1), (11, 1)], 12, [.slice none 0 0, .slice none 0 0, .slice none 0 0, .slice none 0 0, .slice none 0 0, .slice none 0 0, .slice none 0 0, .slice none 0 0, .slice none 0 0, .slice none 0 0, .slice none 0 0, .slice none 0 0]⟩ := by kernel_rfl
theorem ty272 : tiOf Tryz.prog 272 = some ⟨.struct [(0, 8), (8, 1), (9, 1), (10, 1), (11, 1)], 12, [.slice none 0 0, .slice none 0 0, .slice none 0 0, .slice none 0 0, .slice none 0 0, .slice none 0 0, .slice none 0 0, .slice none 0 0, .slice none 0 0, .slice none 0 0, .slice none 0 0, .slice none 0 0]⟩ := by kernel_rfl
theorem ty273 : tiOf Tryz.prog 273 = some ⟨.func, 1, [.nilFunc]⟩ := by kernel_rfl
theorem ty274 : tiOf Tryz.prog 274 = some ⟨.func, 1, [.nilFunc]⟩ := by kernel_rfl
theorem ty275 : tiOf Tryz.prog 275 = some ⟨.func, 1, [.nilFunc]⟩ := by kernel_rfl
theorem ty277 : tiOf Tryz.prog 277 = some ⟨.func, 1, [.nilFunc]⟩ := by kernel_rfl
theorem ty278 : tiOf Tryz.prog 278 = some ⟨.func, 1, [.nilFunc]⟩ := by kernel_rfl
theorem ty280 : tiOf Tryz.prog 280 = some ⟨.func, 1, [.nilFunc]⟩ := by kernel_rfl
theorem ty282 : tiOf Tryz.prog 282 = some ⟨.func, 1, [.nilFunc]⟩ := by kernel_rfl
theorem ty283 : tiOf Tryz.prog 283 = some ⟨.func, 1, [.nilFunc]⟩ := by kernel_rfl
theorem ty284 : tiOf Tryz.prog 284 = some ⟨.func, 1, [.nilFunc]⟩ := by kernel_rfl
theorem ty285 : tiOf Tryz.prog 285 = some ⟨.func, 1, [.nilFunc]⟩ := by kernel_rfl
theorem ty286 : tiOf Tryz.prog 286 = some ⟨.func, 1, [.nilFunc]⟩ := by kernel_rfl
theorem ty287 : tiOf Tryz.prog 287 = some ⟨.func, 1, [.nilFunc]⟩ := by kernel_rfl
theorem ty288 : tiOf Tryz.prog 288 = some ⟨.func, 1, [.nilFunc]⟩ := by kernel_rfl
theorem ty289 : tiOf Tryz.prog 289 = some ⟨.func, 1, [.nilFunc]⟩ := by kernel_rfl
theorem ty291 : tiOf Tryz.prog 291 = some ⟨.func, 1, [.nilFunc]⟩ := by kernel_rfl
theorem ty292 : tiOf Tryz.prog 292 = some ⟨.func, 1, [.nilFunc]⟩ := by kernel_rfl
theorem ty293 : tiOf Tryz.prog 293 = some ⟨.func, 1, [.nilFunc]⟩ := by kernel_rfl
theorem ty294 : tiOf Tryz.prog 294 = some ⟨.func, 1, [.nilFunc]⟩ := by kernel_rfl
theorem ty295 : tiOf Tryz.prog 295 = some ⟨.func, 1, [.nilFunc]⟩ := by kernel_rfl
theorem ty296 : tiOf Tryz.prog 296 = some ⟨.func, 1, [.nilFunc]⟩ := by kernel_rfl
theorem ty297 : tiOf Tryz.prog 297 = some ⟨.ptr, 1, [.pointer none]⟩ := by kernel_rfl
theorem ty298 : tiOf Tryz.prog 298 = some ⟨.func, 1, [.nilFunc]⟩ := by kernel_rfl
theorem ty299 : tiOf Tryz.prog 299 = some ⟨.ptr, 1, [.pointer none]⟩ := by kernel_rfl
theorem ty300 : tiOf Tryz.prog 300 = some ⟨.func, 1, [.nilFunc]⟩ := by kernel_rfl
theorem ty301 : tiOf Tryz.prog 301 = some ⟨.func, 1, [.nilFunc]⟩ := by kernel_rfl
theorem ty302 : tiOf Tryz.prog 302 = some ⟨.func, 1, [.nilFunc]⟩ := by kernel_rfl
theorem ty303 : tiOf Tryz.prog 303 = some ⟨.func, 1, [.nilFunc]⟩ := by kernel_rfl
theorem ty304 : tiOf Tryz.prog 304 = some ⟨.func, 1, [.nilFunc]⟩ := by kernel_rfl
theorem ty305 : tiOf Tryz.prog 305 = some ⟨.func, 1, [.nilFunc]⟩ := by kernel_rfl
theorem ty306 : tiOf Tryz.prog 306 = some ⟨.func, 1, [.nilFunc]⟩ := by kernel_rfl
theorem ty307 : tiOf Tryz.prog 307 = some ⟨.func, 1, [.nilFunc]⟩ := by kernel_rfl
theorem ty308 : tiOf Tryz.prog 308 = some ⟨.func, 1, [.nilFunc]⟩ := by kernel_rfl
theorem ty309 : tiOf Tryz.prog 309 = some ⟨.func, 1, [.nilFunc]⟩ := by kernel_rfl
theorem ty310 : tiOf Tryz.prog 310 = some ⟨.func, 1, [.nilFunc]⟩ := by kernel_rfl
theorem ty311 : tiOf Tryz.prog 311 = some ⟨.func, 1, [.nilFunc]⟩ := by kernel_rfl
theorem ty312 : tiOf Tryz.prog 312 = some ⟨.func, 1, [.nilFunc]⟩ := by kernel_rfl
theorem ty313 : tiOf Tryz.prog 313 = some ⟨.func, 1, [.nilFunc]⟩ := by kernel_rfl
theorem ty314 : tiOf Tryz.prog 314 = some ⟨.func, 1, [.nilFunc]⟩ := by kernel_rfl
theorem ty315 : tiOf Tryz.prog 315 = some ⟨.func, 1, [.nilFunc]⟩ := by kernel_rfl
theorem ty316 : tiOf Tryz.prog 316 = some ⟨.func, 1, [.nilFunc]⟩ := by kernel_rfl
theorem ty317 : tiOf Tryz.prog 317 = some ⟨.func, 1, [.nilFunc]⟩ := by kernel_rfl
theorem ty318 : tiOf Tryz.prog 318 = some ⟨.struct [(0, 1), (1, 1), (2, 1), (3, 1), (4, 1), (5, 1), (6, 1)], 7, [.int .i64 0, .int .i64 0, .int .i64 0, .int .i64 0, .int .u32 0, .int .u32 0, .slice none 0 0]⟩ := by kernel_rfl
theorem ty319 : tiOf Tryz.prog 319 = some ⟨.struct [(0, 1), (1, 1), (2, 1), (3, 1), (4, 1), (5, 1), (6, 1)], 7, [.int .i64 0, .int .i64 0, .int .i64 0, .int .i64 0, .int .u32 0, .int .u32 0, .slice none 0 0]⟩ := by kernel_rfl
theorem ty321 : tiOf Tryz.prog 321 = some ⟨.func, 1, [.nilFunc]⟩ := by kernel_rfl
theorem ty322 : tiOf Tryz.prog 322 = some ⟨.func, 1, [.nilFunc]⟩ := by kernel_rfl
theorem ty323 : tiOf Tryz.prog 323 = some ⟨.func, 1, [.nilFunc]⟩ := by kernel_rfl
theorem ty324 : tiOf Tryz.prog 324 = some ⟨.func, 1, [.nilFunc]⟩ := by kernel_rfl
theorem ty325 : tiOf Tryz.prog 325 = some ⟨.func, 1, [.nilFunc]⟩ := by kernel_rfl
theorem ty326 : tiOf Tryz.prog 326 = some ⟨.func, 1, [.nilFunc]⟩ := by kernel_rfl
theorem ty327 : tiOf Tryz.prog 327 = some ⟨.func, 1, [.nilFunc]⟩ := by kernel_rfl
theorem ty328 : tiOf Tryz.prog 328 = some ⟨.func, 1, [.nilFunc]⟩ := by kernel_rfl
theorem ty329 : tiOf Tryz.prog 329 = some ⟨.func, 1, [.nilFunc]⟩ := by kernel_rfl
theorem ty330 : tiOf Tryz.prog 330 = some ⟨.func, 1, [.nilFunc]⟩ := by kernel_rfl
theorem ty332 : tiOf Tryz.prog 332 = some ⟨.func, 1, [.nilFunc]⟩ := by kernel_rfl
theorem ty334 : tiOf Tryz.prog 334 = some ⟨.func, 1, [.nilFunc]⟩ := by kernel_rfl
theorem ty335 : tiOf Tryz.prog 335 = some ⟨.func, 1, [.nilFunc]⟩ := by kernel_rfl
theorem ty336 : tiOf Tryz.prog 336 = some ⟨.func, 1, [.nilFunc]⟩ := by kernel_rfl
theorem ty337 : tiOf Tryz.prog 337 = some ⟨.func, 1, [.nilFunc]⟩ := by kernel_rfl
theorem ty338 : tiOf Tryz.prog 338 = some ⟨.func, 1, [.nilFunc]⟩ := by kernel_rfl
theorem ty339 : tiOf Tryz.prog 339 = some ⟨.func, 1, [.nilFunc]⟩ := by kernel_rfl
theorem ty340 : tiOf Tryz.prog 340 = some ⟨.ptr, 1, [.pointer none]⟩ := by kernel_rfl
theorem ty341 : tiOf Tryz.prog 341 = some ⟨.slice 345 3 24 [.int .i64 0, .int .i64 0, .int .i64 0], 1, [.slice none 0 0]⟩ := by kernel_rfl
theorem ty342 : tiOf Tryz.prog 342 = some ⟨.slice 345 3 24 [.int .i64 0, .int .i64 0, .int .i64 0], 1, [.slice none 0 0]⟩ := by kernel_rfl
theorem ty343 : tiOf Tryz.prog 343 = some ⟨.func, 1, [.nilFunc]⟩ := by kernel_rfl
theorem ty344 : tiOf Tryz.prog 344 = some ⟨.struct [(0, 1), (1, 1), (2, 1)], 3, [.int .i64 0, .int .i64 0, .int .i64 0]⟩ := by kernel_rfl
theorem ty345 : tiOf Tryz.prog 345 = some ⟨.struct [(0, 1), (1, 1), (2, 1)], 3, [.int .i64 0, .int .i64 0, .int .i64 0]⟩ := by kernel_rfl
theorem ty347 : tiOf Tryz.prog 347 = some ⟨.func, 1, [.nilFunc]⟩ := by kernel_rfl
theorem ty348 : tiOf Tryz.prog 348 = some ⟨.slice 349 5 40 [.int .i64 0, .int .i64 0, .int .i64 0, .int .i64 0, .int .i64 0], 1, [.slice none 0 0]⟩ := by kernel_rfl
theorem ty349 : tiOf Tryz.prog 349 = some ⟨.struct [(0, 1), (1, 1), (2, 1), (3, 1), (4, 1)], 5, [.int .i64 0, .int .i64 0, .int .i64 0, .int .i64 0, .int .i64 0]⟩ := by kernel_rfl
theorem ty351 : tiOf Tryz.prog 351 = some ⟨.func, 1, [.nilFunc]⟩ := by kernel_rfl
theorem ty352 : tiOf Tryz.prog 352 = some ⟨.func, 1, [.nilFunc]⟩ := by kernel_rfl
theorem ty353 : tiOf Tryz.prog 353 = some ⟨.func, 1, [.nilFunc]⟩ := by kernel_rfl
theorem ty354 : tiOf Tryz.prog 354 = some ⟨.ptr, 1, [.pointer none]⟩ := by kernel_rfl
theorem ty356 : tiOf Tryz.prog 356 = some ⟨.func, 1, [.nilFunc]⟩ := by kernel_rfl
theorem ty357 : tiOf Tryz.prog 357 = some ⟨.func, 1, [.nilFunc]⟩ := by kernel_rfl
theorem ty358 : tiOf Tryz.prog 358 = some ⟨.struct [(0, 8), (8, 1), (9, 1), (10, 1), (11, 1)], 12, [.slice none 0 0, .slice none 0 0, .slice none 0 0, .slice none 0 0, .slice none 0 0, .slice none 0 0, .slice none 0 0, .slice none 0 0, .slice none 0 0, .int .i64 0, .int .i64 0, .slice none 0 0]⟩ := by kernel_rfl
theorem ty359 : tiOf Tryz.prog 359 = some ⟨.struct [(0, 8), (8, 1), (9, 1), (10, 1), (11, 1)], 12, [.slice none 0 0, .slice none 0 0, .slice none 0 0, .slice none 0 0, .slice none 0 0, .slice none 0 0, .slice none 0 0, .slice none 0 0, .slice none 0 0, .int .i64 0, .int .i64 0, .slice none 0 0]⟩ := by kernel_rfl
theorem ty361 : tiOf Tryz.prog 361 = some ⟨.func, 1, [.nilFunc]⟩ := by kernel_rfl
theorem ty362 : tiOf Tryz.prog 362 = some ⟨.func, 1, [.nilFunc]⟩ := by kernel_rfl
theorem ty363 : tiOf Tryz.prog 363 = some ⟨.func, 1, [.nilFunc]⟩ := by kernel_rfl
theorem ty365 : tiOf Tryz.prog 365 = some ⟨.func, 1, [.nilFunc]⟩ := by kernel_rfl
theorem ty366 : tiOf Tryz.prog 366 = some ⟨.struct [(0, 8)], 8, [.slice none 0 0, .slice none 0 0, .slice none 0 0, .slice none 0 0, .slice none 0 0, .slice none 0 0, .slice none 0 0, .slice none 0 0]⟩ := by kernel_rfl
theorem ty367 : tiOf Tryz.prog 367 = some ⟨.struct [(0, 8)], 8, [.slice none 0 0, .slice none 0 0, .slice none 0 0, .slice none 0 0, .slice none 0 0, .slice none 0 0, .slice none 0 0, .slice none 0 0]⟩ := by kernel_rfl
theorem ty368 : tiOf Tryz.prog 368 = some ⟨.func, 1, [.nilFunc]⟩ := by kernel_rfl
theorem ty369 : tiOf Tryz.prog 369 = some ⟨.func, 1, [.nilFunc]⟩ := by kernel_rfl
theorem ty370 : tiOf Tryz.prog 370 = some ⟨.func, 1, [.nilFunc]⟩ := by kernel_rfl
theorem ty371 : tiOf Tryz.prog 371 = some ⟨.ptr, 1, [.pointer none]⟩ := by kernel_rfl
theorem ty372 : tiOf Tryz.prog 372 = some ⟨.func, 1, [.nilFunc]⟩ := by kernel_rfl
theorem ty374 : tiOf Tryz.prog 374 = some ⟨.func, 1, [.nilFunc]⟩ := by kernel_rfl
theorem ty375 : tiOf Tryz.prog 375 = some ⟨.func, 1, [.nilFunc]⟩ := by kernel_rfl
theorem ty376 : tiOf Tryz.prog 376 = some ⟨.func, 1, [.nilFunc]⟩ := by kernel_rfl
theorem ty377 : tiOf Tryz.prog 377 = some ⟨.func, 1, [.nilFunc]⟩ := by kernel_rfl
theorem ty378 : tiOf Tryz.prog 378 = some ⟨.func, 1, [.nilFunc]⟩ := by kernel_rfl
theorem ty379 : tiOf Tryz.prog 379 = some ⟨.func, 1, [.nilFunc]⟩ := by kernel_rfl
theorem ty380 : tiOf Tryz.prog 380 = some ⟨.func, 1, [.nilFunc]⟩ := by kernel_rfl
theorem ty381 : tiOf Tryz.prog 381 = some ⟨.func, 1, [.nilFunc]⟩ := by kernel_rfl
theorem ty382 : tiOf Tryz.prog 382 = some ⟨.func, 1, [.nilFunc]⟩ := by kernel_rfl
theorem ty383 : tiOf Tryz.prog 383 = some ⟨.func, 1, [.nilFunc]⟩ := by kernel_rfl
theorem ty384 : tiOf Tryz.prog 384 = some ⟨.func, 1, [.nilFunc]⟩ := by kernel_rfl
theorem ty386 : tiOf Tryz.prog 386 = some ⟨.func, 1, [.nilFunc]⟩ := by kernel_rfl
theorem ty388 : tiOf Tryz.prog 388 = some ⟨.func, 1, [.nilFunc]⟩ := by kernel_rfl
theorem ty389 : tiOf Tryz.prog 389 = some ⟨.func, 1, [.nilFunc]⟩ := by kernel_rfl
theorem ty390 : tiOf Tryz.prog 390 = some ⟨.func, 1, [.nilFunc]⟩ := by kernel_rfl
theorem ty391 : tiOf Tryz.prog 391 = some ⟨.iface, 1, [.nilIface]⟩ := by kernel_rfl
theorem ty392 : tiOf Tryz.prog 392 = some ⟨.iface, 1, [.nilIface]⟩ := by kernel_rfl
theorem ty393 : tiOf Tryz.prog 393 = some ⟨.func, 1, [.nilFunc]⟩ := by kernel_rfl
theorem ty394 : tiOf Tryz.prog 394 = some ⟨.func, 1, [.nilFunc]⟩ := by kernel_rfl
theorem ty395 : tiOf Tryz.prog 395 = some ⟨.func, 1, [.nilFunc]⟩ := by kernel_rfl
theorem ty396 : tiOf Tryz.prog 396 = some ⟨.func, 1, [.nilFunc]⟩ := by kernel_rfl
theorem ty397 : tiOf Tryz.prog 397 = some ⟨.func, 1, [.nilFunc]⟩ := by kernel_rfl
theorem ty398 : tiOf Tryz.prog 398 = some ⟨.func, 1, [.nilFunc]⟩ := by kernel_rfl
theorem ty399 : tiOf Tryz.prog 399 = some ⟨.func, 1, [.nilFunc]⟩ := by kernel_rfl
theorem ty400 : tiOf Tryz.prog 400 = some ⟨.func, 1, [.nilFunc]⟩ := by kernel_rfl
theorem ty401 : tiOf Tryz.prog 401 = some ⟨.func, 1, [.nilFunc]⟩ := by kernel_rfl
theorem ty402 : tiOf Tryz.prog 402 = some ⟨.func, 1, [.nilFunc]⟩ := by kernel_rfl
theorem ty403 : tiOf Tryz.prog 403 = some ⟨.func, 1, [.nilFunc]⟩ := by kernel_rfl
theorem ty404 : tiOf Tryz.prog 404 = some ⟨.func, 1, [.nilFunc]⟩ := by kernel_rfl
theorem ty405 : tiOf Tryz.prog 405 = some ⟨.func, 1, [.nilFunc]⟩ := by kernel_rfl
theorem ty406 : tiOf Tryz.prog 406 = some ⟨.func, 1, [.nilFunc]⟩ := by kernel_rfl
theorem ty407 : tiOf Tryz.prog 407 = some ⟨.func, 1, [.nilFunc]⟩ := by kernel_rfl
theorem ty408 : tiOf Tryz.prog 408 = some ⟨.func, 1, [.nilFunc]⟩ := by kernel_rfl
theorem ty409 : tiOf Tryz.prog 409 = some ⟨.ptr, 1, [.pointer none]⟩ := by kernel_rfl
theorem ty410 : tiOf Tryz.prog 410 = some ⟨.func, 1, [.nilFunc]⟩ := by kernel_rfl
theorem ty411 : tiOf Tryz.prog 411 = some ⟨.ptr, 1, [.pointer none]⟩ := by kernel_rfl
theorem ty412 : tiOf Tryz.prog 412 = some ⟨.func, 1, [.nilFunc]⟩ := by kernel_rfl
theorem ty413 : tiOf Tryz.prog 413 = some ⟨.ptr, 1, [.pointer none]⟩ := by kernel_rfl
theorem ty414 : tiOf Tryz.prog 414 = some ⟨.struct [(0, 7), (7, 1)], 8, [.int .i64 0, .int .i64 0, .int .i64 0, .int .i64 0, .int .u32 0, .int .u32 0, .slice none 0 0, .int .i64 0]⟩ := by kernel_rfl
theorem ty415 : tiOf Tryz.prog 415 = some ⟨.struct [(0, 7), (7, 1)], 8, [.int .i64 0, .int .i64 0, .int .i64 0, .int .i64 0, .int .u32 0, .int .u32 0, .slice none 0 0, .int .i64 0]⟩ := by kernel_rfl
theorem ty416 : tiOf Tryz.prog 416 = some ⟨.struct [(0, 8), (8, 1)], 9, [.int .i64 0, .int .i64 0, .int .i64 0, .int .i64 0, .int .u32 0, .int .u32 0, .slice none 0 0, .int .i64 0, .int .i64 0]⟩ := by kernel_rfl
theorem ty417 : tiOf Tryz.prog 417 = some ⟨.struct [(0, 8), (8, 1)], 9, [.int .i64 0, .int .i64 0, .int .i64 0, .int .i64 0, .int .u32 0, .int .u32 0, .slice none 0 0, .int .i64 0, .int .i64 0]⟩ := by kernel_rfl
theorem ty418 : tiOf Tryz.prog 418 = some ⟨.func, 1, [.nilFunc]⟩ := by kernel_rfl
theorem ty419 : tiOf Tryz.prog 419 = some ⟨.func, 1, [.nilFunc]⟩ := by kernel_rfl
theorem ty420 : tiOf Tryz.prog 420 = some ⟨.func, 1, [.nilFunc]⟩ := by kernel_rfl
theorem ty421 : tiOf Tryz.prog 421 = some ⟨.func, 1, [.nilFunc]⟩ := by kernel_rfl
theorem ty422 : tiOf Tryz.prog 422 = some ⟨.func, 1, [.nilFunc]⟩ := by kernel_rfl
theorem ty423 : tiOf Tryz.prog 423 = some ⟨.func, 1, [.nilFunc]⟩ := by kernel_rfl
theorem ty424 : tiOf Tryz.prog 424 = some ⟨.func, 1, [.nilFunc]⟩ := by kernel_rfl
theorem ty425 : tiOf Tryz.prog 425 = some ⟨.func, 1, [.nilFunc]⟩ := by kernel_rfl
theorem ty426 : tiOf Tryz.prog 426 = some ⟨.func, 1, [.nilFunc]⟩ := by kernel_rfl
theorem ty427 : tiOf Tryz.prog 427 = some ⟨.array 3 4 1, 4, [.int .i64 0, .int .i64 0, .int .i64 0, .int .i64 0]⟩ := by kernel_rfl
theorem ty428 : tiOf Tryz.prog 428 = some ⟨.ptr, 1, [.pointer none]⟩ := by kernel_rfl
theorem ty429 : tiOf Tryz.prog 429 = some ⟨.func, 1, [.nilFunc]⟩ := by kernel_rfl
theorem ty430 : tiOf Tryz.prog 430 = some ⟨.func, 1, [.nilFunc]⟩ := by kernel_rfl
theorem ty431 : tiOf Tryz.prog 431 = some ⟨.func, 1, [.nilFunc]⟩ := by kernel_rfl
theorem ty433 : tiOf Tryz.prog 433 = some ⟨.func, 1, [.nilFunc]⟩ := by kernel_rfl
theorem ty435 : tiOf Tryz.prog 435 = some ⟨.func, 1, [.nilFunc]⟩ := by kernel_rfl
theorem ty436 : tiOf Tryz.prog 436 = some ⟨.func, 1, [.nilFunc]⟩ := by kernel_rfl
theorem ty437 : tiOf Tryz.prog 437 = some ⟨.func, 1, [.nilFunc]⟩ := by kernel_rfl
theorem ty438 : tiOf Tryz.prog 438 = some ⟨.func, 1, [.nilFunc]⟩ := by kernel_rfl
theorem ty439 : tiOf Tryz.prog 439 = some ⟨.func, 1, [.nilFunc]⟩ := by kernel_rfl
theorem ty440 : tiOf Tryz.prog 440 = some ⟨.ptr, 1, [.pointer none]⟩ := by kernel_rfl
theorem ty441 : tiOf Tryz.prog 441 = some ⟨.func, 1, [.nilFunc]⟩ := by kernel_rfl
theorem ty442 : tiOf Tryz.prog 442 = some ⟨.ptr, 1, [.pointer none]⟩ := by kernel_rfl
theorem ty443 : tiOf Tryz.prog 443 = some ⟨.func, 1, [.nilFunc]⟩ := by kernel_rfl
theorem ty445 : tiOf Tryz.prog 445 = some ⟨.func, 1, [.nilFunc]⟩ := by kernel_rfl
theorem ty446 : tiOf Tryz.prog 446 = some ⟨.func, 1, [.nilFunc]⟩ := by kernel_rfl
theorem ty447 : tiOf Tryz.prog 447 = some ⟨.func, 1, [.nilFunc]⟩ := by kernel_rfl
theorem ty448 : tiOf Tryz.prog 448 = some ⟨.func, 1, [.nilFunc]⟩ := by kernel_rfl
theorem ty449 : tiOf Tryz.prog 449 = some ⟨.func, 1, [.nilFunc]⟩ := by kernel_rfl
theorem ty450 : tiOf Tryz.prog 450 = some ⟨.struct [(0, 1), (1, 1), (2, 1), (3, 1)], 4, [.pointer none, .pointer none, .pointer none, .string .empty]⟩ := by kernel_rfl
theorem ty452 : tiOf Tryz.prog 452 = some ⟨.array 16 0 1, 0, []⟩ := by kernel_rfl
theorem ty453 : tiOf Tryz.prog 453 = some ⟨.struct [(0, 0)], 0, []⟩ := by kernel_rfl
theorem ty457 : tiOf Tryz.prog 457 = some ⟨.func, 1, [.nilFunc]⟩ := by kernel_rfl
theorem ty458 : tiOf Tryz.prog 458 = some ⟨.ptr, 1, [.pointer none]⟩ := by kernel_rfl
theorem ty461 : tiOf Tryz.prog 461 = some ⟨.struct [(0, 1), (1, 1), (2, 1), (3, 1), (4, 1), (5, 1), (6, 1), (7, 1), (8, 1), (9, 1), (10, 1)], 11, [.int .u64 0, .int .u64 0, .int .u32 0, .int .u8 0, .int .u8 0, .int .u8 0, .int .u8 0, .nilFunc, .pointer none, .int .i32 0, .int .i32 0]⟩ := by kernel_rfl
theorem ty463 : tiOf Tryz.prog 463 = some ⟨.func, 1, [.nilFunc]⟩ := by kernel_rfl
theorem ty464 : tiOf Tryz.prog 464 = some ⟨.func, 1, [.nilFunc]⟩ := by kernel_rfl
theorem tq92 : eqsOf Tryz.prog 92 = some [.int .i64, .int .i64, .string, .int .u64, .int .u32] := by kernel_rfl
theorem tq137 : eqsOf Tryz.prog 137 = some [.int .u64, .int .i64, .int .i64] := by kernel_rfl
theorem tq167 : eqsOf Tryz.prog 167 = some [.int .i64, .int .i64, .int .i64] := by kernel_rfl
theorem tq196 : eqsOf Tryz.prog 196 = some [.int .i64, .int .i64, .int .i64, .int .u64] := by kernel_rfl
theorem tq201 : eqsOf Tryz.prog 201 = some [.int .u32, .int .i64] := by kernel_rfl
theorem tq247 : eqsOf Tryz.prog 247 = some [.int .i64, .int .i64, .int .i64, .int .i64, .int .i64] := by kernel_rfl
theorem tq345 : eqsOf Tryz.prog 345 = some [.int .i64, .int .i64, .int .i64] := by kernel_rfl
theorem tq349 : eqsOf Tryz.prog 349 = some [.int .i64, .int .i64, .int .i64, .int .i64, .int .i64] := by kernel_rfl
def tab : Tr TI := (.nd 232 (⟨.func, 1, [.nilFunc]⟩) (.nd 118 (⟨.struct [(0, 0), (0, 1)], 1, [.int .u32 0]⟩) (.nd 60 (⟨.struct [(0, 8), (8, 1), (9, 1), (10, 1), (11, 1), (12, 1), (13, 64)], 77, [.slice none 0 0, .slice none 0 0, .slice none 0 0, .slice none 0 0, .slice none 0 0, .slice none 0 0, .slice none 0 0, .slice none 0 0, .slice none 0 0, .slice none 0 0, .slice none 0 0, .int .i64 0, .int .i64 0, .int .i64 0, .int .i64 0, .int .i64 0, .int .i64 0, .int .i64 0, .int .i64 0, .int .i64 0, .int .i64 0, .int .i64 0, .int .i64 0, .int .i64 0, .int .i64 0, .int .i64 0, .int .i64 0, .int .i64 0, .int .i64 0, .int .i64 0, .int .i64 0, .int .i64 0, .int .i64 0, .int .i64 0, .int .i64 0, .int .i64 0, .int .i64 0, .int .i64 0, .int .i64 0, .int .i64 0, .int .i64 0, .int .i64 0, .int .i64 0, .int .i64 0, .int .i64 0, .int .i64 0, .int .i64 0, .int .i64 0, .int .i64 0, .int .i64 0, .int .i64 0, .int .i64 0, .int .i64 0, .int .i64 0, .int .i64 0, .int .i64 0, .int .i64 0, .int .i64 0, .int .i64 0, .int .i64 0, .int .i64 0, .int .i64 0, .int .i64 0, .int .i64 0, .int .i64 0, .int .i64 0, .int .i64 0, .int .i64 0, .int .i64 0, .int .i64 0, .int .i64 0, .int .i64 0, .int .i64 0, .int .i64 0, .int .i64 0, .int .i64 0, .int .i64 0]⟩) (.nd 32 (⟨.slice 47 6 80 [.int .i64 0, .int .i64 0, .int .i64 0, .int .i64 0, .slice none 0 0, .slice none 0 0], 1, [.slice none 0 0]⟩) (.nd 18 (⟨.struct [(0, 1)], 1, [.pointer none]⟩) (.nd 9 (⟨.string, 1, [.string .empty]⟩) (.nd 4 (⟨.bool, 1, [.bool false]⟩) (.nd 2 (⟨.int .i64, 1, [.int .i64 0]⟩) (.nd 1 (⟨.func, 1, [.nilFunc]⟩) .lf .lf) (.nd 3 (⟨.int .i64, 1, [.int .i64 0]⟩) .lf .lf)) (.nd 7 (⟨.struct [(0, 1), (1, 1), (2, 1), (3, 1)], 4, [.int .i64 0, .int .i64 0, .bool false, .int .u8 0]⟩) (.nd 5 (⟨.int .u8, 1, [.int .u8 0]⟩) .lf .lf) .lf)) (.nd 15 (⟨.ptr, 1, [.pointer none]⟩) (.nd 13 (⟨.struct [(0, 1), (1, 1)], 2, [.string .empty, .int .u64 0]⟩) (.nd 12 (⟨.int .u64, 1, [.int .u64 0]⟩) .lf .lf) .lf) (.nd 17 (⟨.ptr, 1, [.pointer none]⟩) (.nd 16 (⟨.ptr, 1, [.pointer none]⟩) .lf .lf) .lf))) (.nd 26 (⟨.slice 196 4 32 [.int .i64 0, .int .i64 0, .int .i64 0, .int .u64 0], 1, [.slice none 0 0]⟩) (.nd 23 (⟨.slice 81 7 80 [.int .i64 0, .int .i64 0, .int .i64 0, .int .i64 0, .int .i64 0, .string .empty, .slice none 0 0], 1, [.slice none 0 0]⟩) (.nd 21 (⟨.int .i32, 1, [.int .i32 0]⟩) (.nd 20 (⟨.iface, 1, [.nilIface]⟩) .lf .lf) (.nd 22 (⟨.slice 92 5 48 [.int .i64 0, .int .i64 0, .string .empty, .int .u64 0, .int .u32 0], 1, [.slice none 0 0]⟩) .lf .lf)) (.nd 25 (⟨.slice 83 6 64 [.int .i64 0, .int .i64 0, .int .i64 0, .int .i64 0, .int .i64 0, .slice none 0 0], 1, [.slice none 0 0]⟩) (.nd 24 (⟨.slice 167 3 24 [.int .i64 0, .int .i64 0, .int .i64 0], 1, [.slice none 0 0]⟩) .lf .lf) .lf)) (.nd 29 (⟨.slice 203 5 40 [.int .i64 0, .int .i64 0, .int .i64 0, .int .u32 0, .int .i64 0], 1, [.slice none 0 0]⟩) (.nd 28 (⟨.slice 88 5 80 [.int .i64 0, .int .i64 0, .string .empty, .slice none 0 0, .slice none 0 0], 1, [.slice none 0 0]⟩) (.nd 27 (⟨.slice 86 4 48 [.int .i64 0, .int .i64 0, .int .i64 0, .slice none 0 0], 1, [.slice none 0 0]⟩) .lf .lf) .lf) (.nd 31 (⟨.struct [(0, 1), (1, 1), (2, 1), (3, 1), (4, 1), (5, 1), (6, 1), (7, 1)], 8, [.slice none 0 0, .slice none 0 0, .slice none 0 0, .slice none 0 0, .slice none 0 0, .slice none 0 0, .slice none 0 0, .slice none 0 0]⟩) (.nd 30 (⟨.struct [(0, 1), (1, 1), (2, 1), (3, 1), (4, 1), (5, 1), (6, 1), (7, 1)], 8, [.slice none 0 0, .slice none 0 0, .slice none 0 0, .slice none 0 0, .slice none 0 0, .slice none 0 0, .slice none 0 0, .slice none 0 0]⟩) .lf .lf) .lf)))) (.nd 47 (⟨.struct [(0, 1), (1, 1), (2, 1), (3, 1), (4, 1), (5, 1)], 6, [.int .i64 0, .int .i64 0, .int .i64 0, .int .i64 0, .slice none 0 0, .slice none 0 0]⟩) (.nd 40 (⟨.ptr, 1, [.pointer none]⟩) (.nd 36 (⟨.slice 67 3 40 [.int .i64 0, .int .i64 0, .slice none 0 0], 1, [.slice none 0 0]⟩) (.nd 34 (⟨.func, 1, [.nilFunc]⟩) (.nd 33 (⟨.func, 1, [.nilFunc]⟩) .lf .lf) (.nd 35 (⟨.func, 1, [.nilFunc]⟩) .lf .lf)) (.nd 39 (⟨.func, 1, [.nilFunc]⟩) (.nd 37 (⟨.int .i64, 1, [.int .i64 0]⟩) .lf .lf) .lf)) (.nd 44 (⟨.slice 5 1 1 [.int .u8 0], 1, [.slice none 0 0]⟩) (.nd 43 (⟨.func, 1, [.nilFunc]⟩) (.nd 42 (⟨.func, 1, [.nilFunc]⟩) .lf .lf) .lf) (.nd 46 (⟨.struct [(0, 1), (1, 1), (2, 1), (3, 1), (4, 1), (5, 1)], 6, [.int .i64 0, .int .i64 0, .int .i64 0, .int .i64 0, .slice none 0 0, .slice none 0 0]⟩) (.nd 45 (⟨.slice 4 1 1 [.bool false], 1, [.slice none 0 0]⟩) .lf .lf) .lf))) (.nd 54 (⟨.func, 1, [.nilFunc]⟩) (.nd 50 (⟨.func, 1, [.nilFunc]⟩) (.nd 49 (⟨.func, 1, [.nilFunc]⟩) (.nd 48 (⟨.func, 1, [.nilFunc]⟩) .lf .lf) .lf) (.nd 52 (⟨.ptr, 1, [.pointer none]⟩) (.nd 51 (⟨.slice 55 1 24 [.slice none 0 0], 1, [.slice none 0 0]⟩) .lf .lf) .lf)) (.nd 57 (⟨.slice 143 1 24 [.slice none 0 0], 1, [.slice none 0 0]⟩) (.nd 56 (⟨.func, 1, [.nilFunc]⟩) (.nd 55 (⟨.slice 137 3 24 [.int .u64 0, .int .i64 0, .int .i64 0], 1, [.slice none 0 0]⟩) .lf .lf) .lf) (.nd 59 (⟨.struct [(0, 8), (8, 1), (9, 1), (10, 1), (11, 1), (12, 1), (13, 64)], 77, [.slice none 0 0, .slice none 0 0, .slice none 0 0, .slice none 0 0, .slice none 0 0, .slice none 0 0, .slice none 0 0, .slice none 0 0, .slice none 0 0, .slice none 0 0, .slice none 0 0, .int .i64 0, .int .i64 0, .int .i64 0, .int .i64 0, .int .i64 0, .int .i64 0, .int .i64 0, .int .i64 0, .int .i64 0, .int .i64 0, .int .i64 0, .int .i64 0, .int .i64 0, .int .i64 0, .int .i64 0, .int .i64 0, .int .i64 0, .int .i64 0, .int .i64 0, .int .i64 0, .int .i64 0, .int .i64 0, .int .i64 0, .int .i64 0, .int .i64 0, .int .i64 0, .int .i64 0, .int .i64 0, .int .i64 0, .int .i64 0, .int .i64 0, .int .i64 0, .int .i64 0, .int .i64 0, .int .i64 0, .int .i64 0, .int .i64 0, .int .i64 0, .int .i64 0, .int .i64 0, .int .i64 0, .int .i64 0, .int .i64 0, .int .i64 0, .int .i64 0, .int .i64 0, .int .i64 0, .int .i64 0, .int .i64 0, .int .i64 0, .int .i64 0, .int .i64 0, .int .i64 0, .int .i64 0, .int .i64 0, .int .i64 0, .int .i64 0, .int .i64 0, .int .i64 0, .int .i64 0, .int .i64 0, .int .i64 0, .int .i64 0, .int .i64 0, .int .i64 0, .int .i64 0]⟩) (.nd 58 (⟨.array 3 64 1, 64, [.int .i64 0, .int .i64 0, .int .i64 0, .int .i64 0, .int .i64 0, .int .i64 0, .int .i64 0, .int .i64 0, .int .i64 0, .int .i64 0, .int .i64 0, .int .i64 0, .int .i64 0, .int .i64 0, .int .i64 0, .int .i64 0, .int .i64 0, .int .i64 0, .int .i64 0, .int .i64 0, .int .i64 0, .int .i64 0, .int .i64 0, .int .i64 0, .int .i64 0, .int .i64 0, .int .i64 0, .int .i64 0, .int .i64 0, .int .i64 0, .int .i64 0, .int .i64 0, .int .i64 0, .int .i64 0, .int .i64 0, .int .i64 0, .int .i64 0, .int .i64 0, .int .i64 0, .int .i64 0, .int .i64 0, .int .i64 0, .int .i64 0, .int .i64 0, .int .i64 0, .int .i64 0, .int .i64 0, .int .i64 0, .int .i64 0, .int .i64 0, .int .i64 0, .int .i64 0, .int .i64 0, .int .i64 0, .int .i64 0, .int .i64 0, .int .i64 0, .int .i64 0, .int .i64 0, .int .i64 0, .int .i64 0, .int .i64 0, .int .i64 0, .int .i64 0]⟩) .lf .lf) .lf))))) (.nd 88 (⟨.struct [(0, 1), (1, 1), (2, 1), (3, 1), (4, 1)], 5, [.int .i64 0, .int .i64 0, .string .empty, .slice none 0 0, .slice none 0 0]⟩) (.nd 75 (⟨.func, 1, [.nilFunc]⟩) (.nd 67 (⟨.struct [(0, 1), (1, 1), (2, 1)], 3, [.int .i64 0, .int .i64 0, .slice none 0 0]⟩) (.nd 64 (⟨.func, 1, [.nilFunc]⟩) (.nd 62 (⟨.func, 1, [.nilFunc]⟩) (.nd 61 (⟨.func, 1, [.nilFunc]⟩) .lf .lf) (.nd 63 (⟨.func, 1, [.nilFunc]⟩) .lf .lf)) (.nd 66 (⟨.struct [(0, 1), (1, 1), (2, 1)], 3, [.int .i64 0, .int .i64 0, .slice none 0 0]⟩) (.nd 65 (⟨.slice 3 1 8 [.int .i64 0], 1, [.slice none 0 0]⟩) .lf .lf) .lf)) (.nd 71 (⟨.func, 1, [.nilFunc]⟩) (.nd 69 (⟨.func, 1, [.nilFunc]⟩) (.nd 68 (⟨.func, 1, [.nilFunc]⟩) .lf .lf) .lf) (.nd 73 (⟨.func, 1, [.nilFunc]⟩) (.nd 72 (⟨.func, 1, [.nilFunc]⟩) .lf .lf) .lf))) (.nd 82 (⟨.struct [(0, 1), (1, 1), (2, 1), (3, 1), (4, 1), (5, 1)], 6, [.int .i64 0, .int .i64 0, .int .i64 0, .int .i64 0, .int .i64 0, .slice none 0 0]⟩) (.nd 79 (⟨.func, 1, [.nilFunc]⟩) (.nd 78 (⟨.func, 1, [.nilFunc]⟩) (.nd 76 (⟨.func, 1, [.nilFunc]⟩) .lf .lf) .lf) (.nd 81 (⟨.struct [(0, 1), (1, 1), (2, 1), (3, 1), (4, 1), (5, 1), (6, 1)], 7, [.int .i64 0, .int .i64 0, .int .i64 0, .int .i64 0, .int .i64 0, .string .empty, .slice none 0 0]⟩) (.nd 80 (⟨.struct [(0, 1), (1, 1), (2, 1), (3, 1), (4, 1), (5, 1), (6, 1)], 7, [.int .i64 0, .int .i64 0, .int .i64 0, .int .i64 0, .int .i64 0, .string .empty, .slice none 0 0]⟩) .lf .lf) .lf)) (.nd 85 (⟨.struct [(0, 1), (1, 1), (2, 1), (3, 1)], 4, [.int .i64 0, .int .i64 0, .int .i64 0, .slice none 0 0]⟩) (.nd 84 (⟨.slice 90 1 4 [.int .u32 0], 1, [.slice none 0 0]⟩) (.nd 83 (⟨.struct [(0, 1), (1, 1), (2, 1), (3, 1), (4, 1), (5, 1)], 6, [.int .i64 0, .int .i64 0, .int .i64 0, .int .i64 0, .int .i64 0, .slice none 0 0]⟩) .lf .lf) .lf) (.nd 87 (⟨.struct [(0, 1), (1, 1), (2, 1), (3, 1), (4, 1)], 5, [.int .i64 0, .int .i64 0, .string .empty, .slice none 0 0, .slice none 0 0]⟩) (.nd 86 (⟨.struct [(0, 1), (1, 1), (2, 1), (3, 1)], 4, [.int .i64 0, .int .i64 0, .int .i64 0, .slice none 0 0]⟩) .lf .lf) .lf)))) (.nd 104 (⟨.struct [(0, 1), (1, 1), (2, 1), (3, 4)], 7, [.int .i64 0, .int .i64 0, .int .i64 0, .int .u64 0, .int .u64 0, .int .i64 0, .slice none 0 0]⟩) (.nd 96 (⟨.struct [(0, 1), (1, 1), (2, 1), (3, 1)], 4, [.int .u64 0, .int .u64 0, .int .i64 0, .slice none 0 0]⟩) (.nd 92 (⟨.struct [(0, 1), (1, 1), (2, 1), (3, 1), (4, 1)], 5, [.int .i64 0, .int .i64 0, .string .empty, .int .u64 0, .int .u32 0]⟩) (.nd 90 (⟨.int .u32, 1, [.int .u32 0]⟩) (.nd 89 (⟨.int .u64, 1, [.int .u64 0]⟩) .lf .lf) (.nd 91 (⟨.struct [(0, 1), (1, 1), (2, 1), (3, 1), (4, 1)], 5, [.int .i64 0, .int .i64 0, .string .empty, .int .u64 0, .int .u32 0]⟩) .lf .lf)) (.nd 95 (⟨.struct [(0, 1), (1, 1), (2, 1), (3, 1)], 4, [.int .u64 0, .int .u64 0, .int .i64 0, .slice none 0 0]⟩) (.nd 94 (⟨.func, 1, [.nilFunc]⟩) .lf .lf) .lf)) (.nd 101 (⟨.func, 1, [.nilFunc]⟩) (.nd 99 (⟨.func, 1, [.nilFunc]⟩) (.nd 98 (⟨.func, 1, [.nilFunc]⟩) .lf .lf) .lf) (.nd 103 (⟨.struct [(0, 1), (1, 1), (2, 1), (3, 4)], 7, [.int .i64 0, .int .i64 0, .int .i64 0, .int .u64 0, .int .u64 0, .int .i64 0, .slice none 0 0]⟩) (.nd 102 (⟨.func, 1, [.nilFunc]⟩) .lf .lf) .lf))) (.nd 112 (⟨.func, 1, [.nilFunc]⟩) (.nd 108 (⟨.func, 1, [.nilFunc]⟩) (.nd 107 (⟨.func, 1, [.nilFunc]⟩) (.nd 106 (⟨.func, 1, [.nilFunc]⟩) .lf .lf) .lf) (.nd 110 (⟨.func, 1, [.nilFunc]⟩) (.nd 109 (⟨.func, 1, [.nilFunc]⟩) .lf .lf) .lf)) (.nd 115 (⟨.struct [], 0, []⟩) (.nd 114 (⟨.ptr, 1, [.pointer none]⟩) (.nd 113 (⟨.func, 1, [.nilFunc]⟩) .lf .lf) .lf) (.nd 117 (⟨.struct [], 0, []⟩) (.nd 116 (⟨.struct [], 0, []⟩) .lf .lf) .lf)))))) (.nd 177 (⟨.slice 182 9 104 [.int .i64 0, .int .i64 0, .int .i64 0, .slice none 0 0, .int .u64 0, .int .u64 0, .int .i64 0, .slice none 0 0, .int .i64 0], 1, [.slice none 0 0]⟩) (.nd 145 (⟨.func, 1, [.nilFunc]⟩) (.nd 132 (⟨.struct [(0, 8), (8, 1), (9, 1), (10, 1), (11, 1), (12, 1), (13, 64)], 77, [.slice none 0 0, .slice none 0 0, .slice none 0 0, .slice none 0 0, .slice none 0 0, .slice none 0 0, .slice none 0 0, .slice none 0 0, .pointer none, .slice none 0 0, .slice none 0 0, .int .i64 0, .int .i64 0, .int .i64 0, .int .i64 0, .int .i64 0, .int .i64 0, .int .i64 0, .int .i64 0, .int .i64 0, .int .i64 0, .int .i64 0, .int .i64 0, .int .i64 0, .int .i64 0, .int .i64 0, .int .i64 0, .int .i64 0, .int .i64 0, .int .i64 0, .int .i64 0, .int .i64 0, .int .i64 0, .int .i64 0, .int .i64 0, .int .i64 0, .int .i64 0, .int .i64 0, .int .i64 0, .int .i64 0, .int .i64 0, .int .i64 0, .int .i64 0, .int .i64 0, .int .i64 0, .int .i64 0, .int .i64 0, .int .i64 0, .int .i64 0, .int .i64 0, .int .i64 0, .int .i64 0, .int .i64 0, .int .i64 0, .int .i64 0, .int .i64 0, .int .i64 0, .int .i64 0, .int .i64 0, .int .i64 0, .int .i64 0, .int .i64 0, .int .i64 0, .int .i64 0, .int .i64 0, .int .i64 0, .int .i64 0, .int .i64 0, .int .i64 0, .int .i64 0, .int .i64 0, .int .i64 0, .int .i64 0, .int .i64 0, .int .i64 0, .int .i64 0, .int .i64 0]⟩) (.nd 126 (⟨.struct [(0, 1), (1, 3), (4, 1)], 5, [.slice none 0 0, .int .u32 0, .int .i32 0, .int .u32 0, .slice none 0 0]⟩) (.nd 123 (⟨.struct [(0, 0), (0, 2)], 2, [.int .i32 0, .int .u32 0]⟩) (.nd 120 (⟨.struct [(0, 1), (1, 1)], 2, [.int .i32 0, .int .u32 0]⟩) (.nd 119 (⟨.struct [(0, 0), (0, 1)], 1, [.int .u32 0]⟩) .lf .lf) (.nd 122 (⟨.struct [(0, 0), (0, 2)], 2, [.int .i32 0, .int .u32 0]⟩) .lf .lf)) (.nd 125 (⟨.struct [(0, 0), (0, 1), (1, 2)], 3, [.int .u32 0, .int .i32 0, .int .u32 0]⟩) (.nd 124 (⟨.struct [(0, 0), (0, 1), (1, 2)], 3, [.int .u32 0, .int .i32 0, .int .u32 0]⟩) .lf .lf) .lf)) (.nd 129 (⟨.struct [(0, 0), (0, 0), (0, 1)], 1, [.int .i64 0]⟩) (.nd 128 (⟨.struct [], 0, []⟩) (.nd 127 (⟨.struct [(0, 1), (1, 3), (4, 1)], 5, [.slice none 0 0, .int .u32 0, .int .i32 0, .int .u32 0, .slice none 0 0]⟩) .lf .lf) .lf) (.nd 131 (⟨.array 130 64 1, 64, [.int .i64 0, .int .i64 0, .int .i64 0, .int .i64 0, .int .i64 0, .int .i64 0, .int .i64 0, .int .i64 0, .int .i64 0, .int .i64 0, .int .i64 0, .int .i64 0, .int .i64 0, .int .i64 0, .int .i64 0, .int .i64 0, .int .i64 0, .int .i64 0, .int .i64 0, .int .i64 0, .int .i64 0, .int .i64 0, .int .i64 0, .int .i64 0, .int .i64 0, .int .i64 0, .int .i64 0, .int .i64 0, .int .i64 0, .int .i64 0, .int .i64 0, .int .i64 0, .int .i64 0, .int .i64 0, .int .i64 0, .int .i64 0, .int .i64 0, .int .i64 0, .int .i64 0, .int .i64 0, .int .i64 0, .int .i64 0, .int .i64 0, .int .i64 0, .int .i64 0, .int .i64 0, .int .i64 0, .int .i64 0, .int .i64 0, .int .i64 0, .int .i64 0, .int .i64 0, .int .i64 0, .int .i64 0, .int .i64 0, .int .i64 0, .int .i64 0, .int .i64 0, .int .i64 0, .int .i64 0, .int .i64 0, .int .i64 0, .int .i64 0, .int .i64 0]⟩) (.nd 130 (⟨.struct [(0, 0), (0, 0), (0, 1)], 1, [.int .i64 0]⟩) .lf .lf) .lf))) (.nd 139 (⟨.func, 1, [.nilFunc]⟩) (.nd 136 (⟨.struct [(0, 1), (1, 1), (2, 1)], 3, [.int .u64 0, .int .i64 0, .int .i64 0]⟩) (.nd 134 (⟨.func, 1, [.nilFunc]⟩) (.nd 133 (⟨.struct [(0, 8), (8, 1), (9, 1), (10, 1), (11, 1), (12, 1), (13, 64)], 77, [.slice none 0 0, .slice none 0 0, .slice none 0 0, .slice none 0 0, .slice none 0 0, .slice none 0 0, .slice none 0 0, .slice none 0 0, .pointer none, .slice none 0 0, .slice none 0 0, .int .i64 0, .int .i64 0, .int .i64 0, .int .i64 0, .int .i64 0, .int .i64 0, .int .i64 0, .int .i64 0, .int .i64 0, .int .i64 0, .int .i64 0, .int .i64 0, .int .i64 0, .int .i64 0, .int .i64 0, .int .i64 0, .int .i64 0, .int .i64 0, .int .i64 0, .int .i64 0, .int .i64 0, .int .i64 0, .int .i64 0, .int .i64 0, .int .i64 0, .int .i64 0, .int .i64 0, .int .i64 0, .int .i64 0, .int .i64 0, .int .i64 0, .int .i64 0, .int .i64 0, .int .i64 0, .int .i64 0, .int .i64 0, .int .i64 0, .int .i64 0, .int .i64 0, .int .i64 0, .int .i64 0, .int .i64 0, .int .i64 0, .int .i64 0, .int .i64 0, .int .i64 0, .int .i64 0, .int .i64 0, .int .i64 0, .int .i64 0, .int .i64 0, .int .i64 0, .int .i64 0, .int .i64 0, .int .i64 0, .int .i64 0, .int .i64 0, .int .i64 0, .int .i64 0, .int .i64 0, .int .i64 0, .int .i64 0, .int .i64 0, .int .i64 0, .int .i64 0, .int .i64 0]⟩) .lf .lf) (.nd 135 (⟨.func, 1, [.nilFunc]⟩) .lf .lf)) (.nd 138 (⟨.func, 1, [.nilFunc]⟩) (.nd 137 (⟨.struct [(0, 1), (1, 1), (2, 1)], 3, [.int .u64 0, .int .i64 0, .int .i64 0]⟩) .lf .lf) .lf)) (.nd 142 (⟨.func, 1, [.nilFunc]⟩) (.nd 141 (⟨.func, 1, [.nilFunc]⟩) (.nd 140 (⟨.func, 1, [.nilFunc]⟩) .lf .lf) .lf) (.nd 144 (⟨.func, 1, [.nilFunc]⟩) (.nd 143 (⟨.slice 104 7 72 [.int .i64 0, .int .i64 0, .int .i64 0, .int .u64 0, .int .u64 0, .int .i64 0, .slice none 0 0], 1, [.slice none 0 0]⟩) .lf .lf) .lf)))) (.nd 160 (⟨.func, 1, [.nilFunc]⟩) (.nd 152 (⟨.ptr, 1, [.pointer none]⟩) (.nd 149 (⟨.func, 1, [.nilFunc]⟩) (.nd 147 (⟨.func, 1, [.nilFunc]⟩) (.nd 146 (⟨.func, 1, [.nilFunc]⟩) .lf .lf) (.nd 148 (⟨.func, 1, [.nilFunc]⟩) .lf .lf)) (.nd 151 (⟨.func, 1, [.nilFunc]⟩) (.nd 150 (⟨.func, 1, [.nilFunc]⟩) .lf .lf) .lf)) (.nd 156 (⟨.func, 1, [.nilFunc]⟩) (.nd 154 (⟨.struct [(0, 1), (1, 1), (2, 1)], 3, [.slice none 0 0, .int .i64 0, .slice none 0 0]⟩) (.nd 153 (⟨.struct [(0, 1), (1, 1), (2, 1)], 3, [.slice none 0 0, .int .i64 0, .slice none 0 0]⟩) .lf .lf) .lf) (.nd 158 (⟨.func, 1, [.nilFunc]⟩) (.nd 157 (⟨.func, 1, [.nilFunc]⟩) .lf .lf) .lf))) (.nd 167 (⟨.struct [(0, 1), (1, 1), (2, 1)], 3, [.int .i64 0, .int .i64 0, .int .i64 0]⟩) (.nd 163 (⟨.int .u64, 1, [.int .u64 0]⟩) (.nd 162 (⟨.func, 1, [.nilFunc]⟩) (.nd 161 (⟨.func, 1, [.nilFunc]⟩) .lf .lf) .lf) (.nd 166 (⟨.struct [(0, 1), (1, 1), (2, 1)], 3, [.int .i64 0, .int .i64 0, .int .i64 0]⟩) (.nd 165 (⟨.func, 1, [.nilFunc]⟩) .lf .lf) .lf)) (.nd 173 (⟨.func, 1, [.nilFunc]⟩) (.nd 171 (⟨.func, 1, [.nilFunc]⟩) (.nd 169 (⟨.func, 1, [.nilFunc]⟩) .lf .lf) .lf) (.nd 176 (⟨.func, 1, [.nilFunc]⟩) (.nd 174 (⟨.func, 1, [.nilFunc]⟩) .lf .lf) .lf))))) (.nd 205 (⟨.func, 1, [.nilFunc]⟩) (.nd 193 (⟨.func, 1, [.nilFunc]⟩) (.nd 187 (⟨.func, 1, [.nilFunc]⟩) (.nd 182 (⟨.struct [(0, 1), (1, 1), (2, 1), (3, 1), (4, 4), (8, 1)], 9, [.int .i64 0, .int .i64 0, .int .i64 0, .slice none 0 0, .int .u64 0, .int .u64 0, .int .i64 0, .slice none 0 0, .int .i64 0]⟩) (.nd 180 (⟨.func, 1, [.nilFunc]⟩) (.nd 179 (⟨.func, 1, [.nilFunc]⟩) .lf .lf) (.nd 181 (⟨.struct [(0, 1), (1, 1), (2, 1), (3, 1), (4, 4), (8, 1)], 9, [.int .i64 0, .int .i64 0, .int .i64 0, .slice none 0 0, .int .u64 0, .int .u64 0, .int .i64 0, .slice none 0 0, .int .i64 0]⟩) .lf .lf)) (.nd 185 (⟨.ptr, 1, [.pointer none]⟩) (.nd 184 (⟨.func, 1, [.nilFunc]⟩) .lf .lf) .lf)) (.nd 190 (⟨.func, 1, [.nilFunc]⟩) (.nd 189 (⟨.func, 1, [.nilFunc]⟩) (.nd 188 (⟨.func, 1, [.nilFunc]⟩) .lf .lf) .lf) (.nd 192 (⟨.func, 1, [.nilFunc]⟩) (.nd 191 (⟨.func, 1, [.nilFunc]⟩) .lf .lf) .lf))) (.nd 199 (⟨.func, 1, [.nilFunc]⟩) (.nd 196 (⟨.struct [(0, 1), (1, 1), (2, 1), (3, 1)], 4, [.int .i64 0, .int .i64 0, .int .i64 0, .int .u64 0]⟩) (.nd 195 (⟨.struct [(0, 1), (1, 1), (2, 1), (3, 1)], 4, [.int .i64 0, .int .i64 0, .int .i64 0, .int .u64 0]⟩) (.nd 194 (⟨.func, 1, [.nilFunc]⟩) .lf .lf) .lf) (.nd 198 (⟨.func, 1, [.nilFunc]⟩) (.nd 197 (⟨.func, 1, [.nilFunc]⟩) .lf .lf) .lf)) (.nd 202 (⟨.struct [(0, 1), (1, 1), (2, 1), (3, 2)], 5, [.int .i64 0, .int .i64 0, .int .i64 0, .int .u32 0, .int .i64 0]⟩) (.nd 201 (⟨.struct [(0, 1), (1, 1)], 2, [.int .u32 0, .int .i64 0]⟩) (.nd 200 (⟨.struct [(0, 1), (1, 1)], 2, [.int .u32 0, .int .i64 0]⟩) .lf .lf) .lf) (.nd 204 (⟨.func, 1, [.nilFunc]⟩) (.nd 203 (⟨.struct [(0, 1), (1, 1), (2, 1), (3, 2)], 5, [.int .i64 0, .int .i64 0, .int .i64 0, .int .u32 0, .int .i64 0]⟩) .lf .lf) .lf)))) (.nd 220 (⟨.func, 1, [.nilFunc]⟩) (.nd 214 (⟨.func, 1, [.nilFunc]⟩) (.nd 210 (⟨.func, 1, [.nilFunc]⟩) (.nd 207 (⟨.func, 1, [.nilFunc]⟩) (.nd 206 (⟨.ptr, 1, [.pointer none]⟩) .lf .lf) (.nd 209 (⟨.func, 1, [.nilFunc]⟩) .lf .lf)) (.nd 213 (⟨.func, 1, [.nilFunc]⟩) (.nd 211 (⟨.slice 217 9 104 [.int .i64 0, .int .i64 0, .int .i64 0, .slice none 0 0, .int .u64 0, .int .u64 0, .int .i64 0, .slice none 0 0, .int .i64 0], 1, [.slice none 0 0]⟩) .lf .lf) .lf)) (.nd 217 (⟨.struct [(0, 1), (1, 1), (2, 1), (3, 1), (4, 4), (8, 1)], 9, [.int .i64 0, .int .i64 0, .int .i64 0, .slice none 0 0, .int .u64 0, .int .u64 0, .int .i64 0, .slice none 0 0, .int .i64 0]⟩) (.nd 216 (⟨.struct [(0, 1), (1, 1), (2, 1), (3, 1), (4, 4), (8, 1)], 9, [.int .i64 0, .int .i64 0, .int .i64 0, .slice none 0 0, .int .u64 0, .int .u64 0, .int .i64 0, .slice none 0 0, .int .i64 0]⟩) (.nd 215 (⟨.func, 1, [.nilFunc]⟩) .lf .lf) .lf) (.nd 219 (⟨.func, 1, [.nilFunc]⟩) (.nd 218 (⟨.func, 1, [.nilFunc]⟩) .lf .lf) .lf))) (.nd 226 (⟨.func, 1, [.nilFunc]⟩) (.nd 223 (⟨.func, 1, [.nilFunc]⟩) (.nd 222 (⟨.func, 1, [.nilFunc]⟩) (.nd 221 (⟨.func, 1, [.nilFunc]⟩) .lf .lf) .lf) (.nd 225 (⟨.struct [(0, 8)], 8, [.slice none 0 0, .slice none 0 0, .slice none 0 0, .slice none 0 0, .slice none 0 0, .slice none 0 0, .slice none 0 0, .slice none 0 0]⟩) (.nd 224 (⟨.struct [(0, 8)], 8, [.slice none 0 0, .slice none 0 0, .slice none 0 0, .slice none 0 0, .slice none 0 0, .slice none 0 0, .slice none 0 0, .slice none 0 0]⟩) .lf .lf) .lf)) (.nd 229 (⟨.func, 1, [.nilFunc]⟩) (.nd 228 (⟨.func, 1, [.nilFunc]⟩) (.nd 227 (⟨.func, 1, [.nilFunc]⟩) .lf .lf) .lf) (.nd 231 (⟨.func, 1, [.nilFunc]⟩) (.nd 230 (⟨.func, 1, [.nilFunc]⟩) .lf .lf) .lf))))))) (.nd 347 (⟨.func, 1, [.nilFunc]⟩) (.nd 293 (⟨.func, 1, [.nilFunc]⟩) (.nd 261 (⟨.func, 1, [.nilFunc]⟩) (.nd 245 (⟨.func, 1, [.nilFunc]⟩) (.nd 239 (⟨.func, 1, [.nilFunc]⟩) (.nd 236 (⟨.func, 1, [.nilFunc]⟩) (.nd 234 (⟨.func, 1, [.nilFunc]⟩) (.nd 233 (⟨.func, 1, [.nilFunc]⟩) .lf .lf) (.nd 235 (⟨.func, 1, [.nilFunc]⟩) .lf .lf)) (.nd 238 (⟨.func, 1, [.nilFunc]⟩) (.nd 237 (⟨.func, 1, [.nilFunc]⟩) .lf .lf) .lf)) (.nd 242 (⟨.func, 1, [.nilFunc]⟩) (.nd 241 (⟨.func, 1, [.nilFunc]⟩) (.nd 240 (⟨.func, 1, [.nilFunc]⟩) .lf .lf) .lf) (.nd 244 (⟨.func, 1, [.nilFunc]⟩) (.nd 243 (⟨.ptr, 1, [.pointer none]⟩) .lf .lf) .lf))) (.nd 253 (⟨.func, 1, [.nilFunc]⟩) (.nd 249 (⟨.struct [(0, 8), (8, 1), (9, 1), (10, 1)], 11, [.slice none 0 0, .slice none 0 0, .slice none 0 0, .slice none 0 0, .slice none 0 0, .slice none 0 0, .slice none 0 0, .slice none 0 0, .slice none 0 0, .slice none 0 0, .slice none 0 0]⟩) (.nd 247 (⟨.struct [(0, 1), (1, 1), (2, 1), (3, 1), (4, 1)], 5, [.int .i64 0, .int .i64 0, .int .i64 0, .int .i64 0, .int .i64 0]⟩) (.nd 246 (⟨.struct [(0, 1), (1, 1), (2, 1), (3, 1), (4, 1)], 5, [.int .i64 0, .int .i64 0, .int .i64 0, .int .i64 0, .int .i64 0]⟩) .lf .lf) (.nd 248 (⟨.slice 247 5 40 [.int .i64 0, .int .i64 0, .int .i64 0, .int .i64 0, .int .i64 0], 1, [.slice none 0 0]⟩) .lf .lf)) (.nd 252 (⟨.func, 1, [.nilFunc]⟩) (.nd 250 (⟨.struct [(0, 8), (8, 1), (9, 1), (10, 1)], 11, [.slice none 0 0, .slice none 0 0, .slice none 0 0, .slice none 0 0, .slice none 0 0, .slice none 0 0, .slice none 0 0, .slice none 0 0, .slice none 0 0, .slice none 0 0, .slice none 0 0]⟩) .lf .lf) .lf)) (.nd 257 (⟨.func, 1, [.nilFunc]⟩) (.nd 256 (⟨.func, 1, [.nilFunc]⟩) (.nd 255 (⟨.func, 1, [.nilFunc]⟩) .lf .lf) .lf) (.nd 259 (⟨.func, 1, [.nilFunc]⟩) (.nd 258 (⟨.func, 1, [.nilFunc]⟩) .lf .lf) .lf)))) (.nd 278 (⟨.func, 1, [.nilFunc]⟩) (.nd 271 (⟨.struct [(0, 8), (8, 1), (9, 1), (10, 1), (11, 1)], 12, [.slice none 0 0, .slice none 0 0, .slice none 0 0, .slice none 0 0, .slice none 0 0, .slice none 0 0, .slice none 0 0, .slice none 0 0, .slice none 0 0, .slice none 0 0, .slice none 0 0, .slice none 0 0]⟩) (.nd 267 (⟨.func, 1, [.nilFunc]⟩) (.nd 264 (⟨.func, 1, [.nilFunc]⟩) (.nd 262 (⟨.func, 1, [.nilFunc]⟩) .lf .lf) (.nd 265 (⟨.func, 1, [.nilFunc]⟩) .lf .lf)) (.nd 270 (⟨.func, 1, [.nilFunc]⟩) (.nd 269 (⟨.func, 1, [.nilFunc]⟩) .lf .lf) .lf)) (.nd 274 (⟨.func, 1, [.nilFunc]⟩) (.nd 273 (⟨.func, 1, [.nilFunc]⟩) (.nd 272 (⟨.struct [(0, 8), (8, 1), (9, 1), (10, 1), (11, 1)], 12, [.slice none 0 0, .slice none 0 0, .slice none 0 0, .slice none 0 0, .slice none 0 0, .slice none 0 0, .slice none 0 0, .slice none 0 0, .slice none 0 0, .slice none 0 0, .slice none 0 0, .slice none 0 0]⟩) .lf .lf) .lf) (.nd 277 (⟨.func, 1, [.nilFunc]⟩) (.nd 275 (⟨.func, 1, [.nilFunc]⟩) .lf .lf) .lf))) (.nd 286 (⟨.func, 1, [.nilFunc]⟩) (.nd 283 (⟨.func, 1, [.nilFunc]⟩) (.nd 282 (⟨.func, 1, [.nilFunc]⟩) (.nd 280 (⟨.func, 1, [.nilFunc]⟩) .lf .lf) .lf) (.nd 285 (⟨.func, 1, [.nilFunc]⟩) (.nd 284 (⟨.func, 1, [.nilFunc]⟩) .lf .lf) .lf)) (.nd 289 (⟨.func, 1, [.nilFunc]⟩) (.nd 288 (⟨.func, 1, [.nilFunc]⟩) (.nd 287 (⟨.func, 1, [.nilFunc]⟩) .lf .lf) .lf) (.nd 292 (⟨.func, 1, [.nilFunc]⟩) (.nd 291 (⟨.func, 1, [.nilFunc]⟩) .lf .lf) .lf))))) (.nd 318 (⟨.struct [(0, 1), (1, 1), (2, 1), (3, 1), (4, 1), (5, 1), (6, 1)], 7, [.int .i64 0, .int .i64 0, .int .i64 0, .int .i64 0, .int .u32 0, .int .u32 0, .slice none 0 0]⟩) (.nd 306 (⟨.func, 1, [.nilFunc]⟩) (.nd 300 (⟨.func, 1, [.nilFunc]⟩) (.nd 297 (⟨.ptr, 1, [.pointer none]⟩) (.nd 295 (⟨.func, 1, [.nilFunc]⟩) (.nd 294 (⟨.func, 1, [.nilFunc]⟩) .lf .lf) (.nd 296 (⟨.func, 1, [.nilFunc]⟩) .lf .lf)) (.nd 299 (⟨.ptr, 1, [.pointer none]⟩) (.nd 298 (⟨.func, 1, [.nilFunc]⟩) .lf .lf) .lf)) (.nd 303 (⟨.func, 1, [.nilFunc]⟩) (.nd 302 (⟨.func, 1, [.nilFunc]⟩) (.nd 301 (⟨.func, 1, [.nilFunc]⟩) .lf .lf) .lf) (.nd 305 (⟨.func, 1, [.nilFunc]⟩) (.nd 304 (⟨.func, 1, [.nilFunc]⟩) .lf .lf) .lf))) (.nd 312 (⟨.func, 1, [.nilFunc]⟩) (.nd 309 (⟨.func, 1, [.nilFunc]⟩) (.nd 308 (⟨.func, 1, [.nilFunc]⟩) (.nd 307 (⟨.func, 1, [.nilFunc]⟩) .lf .lf) .lf) (.nd 311 (⟨.func, 1, [.nilFunc]⟩) (.nd 310 (⟨.func, 1, [.nilFunc]⟩) .lf .lf) .lf)) (.nd 315 (⟨.func, 1, [.nilFunc]⟩) (.nd 314 (⟨.func, 1, [.nilFunc]⟩) (.nd 313 (⟨.func, 1, [.nilFunc]⟩) .lf .lf) .lf) (.nd 317 (⟨.func, 1, [.nilFunc]⟩) (.nd 316 (⟨.func, 1, [.nilFunc]⟩) .lf .lf) .lf)))) (.nd 334 (⟨.func, 1, [.nilFunc]⟩) (.nd 326 (⟨.func, 1, [.nilFunc]⟩) (.nd 323 (⟨.func, 1, [.nilFunc]⟩) (.nd 321 (⟨.func, 1, [.nilFunc]⟩) (.nd 319 (⟨.struct [(0, 1), (1, 1), (2, 1), (3, 1), (4, 1), (5, 1), (6, 1)], 7, [.int .i64 0, .int .i64 0, .int .i64 0, .int .i64 0, .int .u32 0, .int .u32 0, .slice none 0 0]⟩) .lf .lf) (.nd 322 (⟨.func, 1, [.nilFunc]⟩) .lf .lf)) (.nd 325 (⟨.func, 1, [.nilFunc]⟩) (.nd 324 (⟨.func, 1, [.nilFunc]⟩) .lf .lf) .lf)) (.nd 329 (⟨.func, 1, [.nilFunc]⟩) (.nd 328 (⟨.func, 1, [.nilFunc]⟩) (.nd 327 (⟨.func, 1, [.nilFunc]⟩) .lf .lf) .lf) (.nd 332 (⟨.func, 1, [.nilFunc]⟩) (.nd 330 (⟨.func, 1, [.nilFunc]⟩) .lf .lf) .lf))) (.nd 340 (⟨.ptr, 1, [.pointer none]⟩) (.nd 337 (⟨.func, 1, [.nilFunc]⟩) (.nd 336 (⟨.func, 1, [.nilFunc]⟩) (.nd 335 (⟨.func, 1, [.nilFunc]⟩) .lf .lf) .lf) (.nd 339 (⟨.func, 1, [.nilFunc]⟩) (.nd 338 (⟨.func, 1, [.nilFunc]⟩) .lf .lf) .lf)) (.nd 343 (⟨.func, 1, [.nilFunc]⟩) (.nd 342 (⟨.slice 345 3 24 [.int .i64 0, .int .i64 0, .int .i64 0], 1, [.slice none 0 0]⟩) (.nd 341 (⟨.slice 345 3 24 [.int .i64 0, .int .i64 0, .int .i64 0], 1, [.slice none 0 0]⟩) .lf .lf) .lf) (.nd 345 (⟨.struct [(0, 1), (1, 1), (2, 1)], 3, [.int .i64 0, .int .i64 0, .int .i64 0]⟩) (.nd 344 (⟨.struct [(0, 1), (1, 1), (2, 1)], 3, [.int .i64 0, .int .i64 0, .int .i64 0]⟩) .lf .lf) .lf)))))) (.nd 405 (⟨.func, 1, [.nilFunc]⟩) (.nd 378 (⟨.func, 1, [.nilFunc]⟩) (.nd 363 (⟨.func, 1, [.nilFunc]⟩) (.nd 356 (⟨.func, 1, [.nilFunc]⟩) (.nd 352 (⟨.func, 1, [.nilFunc]⟩) (.nd 349 (⟨.struct [(0, 1), (1, 1), (2, 1), (3, 1), (4, 1)], 5, [.int .i64 0, .int .i64 0, .int .i64 0, .int .i64 0, .int .i64 0]⟩) (.nd 348 (⟨.slice 349 5 40 [.int .i64 0, .int .i64 0, .int .i64 0, .int .i64 0, .int .i64 0], 1, [.slice none 0 0]⟩) .lf .lf) (.nd 351 (⟨.func, 1, [.nilFunc]⟩) .lf .lf)) (.nd 354 (⟨.ptr, 1, [.pointer none]⟩) (.nd 353 (⟨.func, 1, [.nilFunc]⟩) .lf .lf) .lf)) (.nd 359 (⟨.struct [(0, 8), (8, 1), (9, 1), (10, 1), (11, 1)], 12, [.slice none 0 0, .slice none 0 0, .slice none 0 0, .slice none 0 0, .slice none 0 0, .slice none 0 0, .slice none 0 0, .slice none 0 0, .slice none 0 0, .int .i64 0, .int .i64 0, .slice none 0 0]⟩) (.nd 358 (⟨.struct [(0, 8), (8, 1), (9, 1), (10, 1), (11, 1)], 12, [.slice none 0 0, .slice none 0 0, .slice none 0 0, .slice none 0 0, .slice none 0 0, .slice none 0 0, .slice none 0 0, .slice none 0 0, .slice none 0 0, .int .i64 0, .int .i64 0, .slice none 0 0]⟩) (.nd 357 (⟨.func, 1, [.nilFunc]⟩) .lf .lf) .lf) (.nd 362 (⟨.func, 1, [.nilFunc]⟩) (.nd 361 (⟨.func, 1, [.nilFunc]⟩) .lf .lf) .lf))) (.nd 371 (⟨.ptr, 1, [.pointer none]⟩) (.nd 368 (⟨.func, 1, [.nilFunc]⟩) (.nd 366 (⟨.struct [(0, 8)], 8, [.slice none 0 0, .slice none 0 0, .slice none 0 0, .slice none 0 0, .slice none 0 0, .slice none 0 0, .slice none 0 0, .slice none 0 0]⟩) (.nd 365 (⟨.func, 1, [.nilFunc]⟩) .lf .lf) (.nd 367 (⟨.struct [(0, 8)], 8, [.slice none 0 0, .slice none 0 0, .slice none 0 0, .slice none 0 0, .slice none 0 0, .slice none 0 0, .slice none 0 0, .slice none 0 0]⟩) .lf .lf)) (.nd 370 (⟨.func, 1, [.nilFunc]⟩) (.nd 369 (⟨.func, 1, [.nilFunc]⟩) .lf .lf) .lf)) (.nd 375 (⟨.func, 1, [.nilFunc]⟩) (.nd 374 (⟨.func, 1, [.nilFunc]⟩) (.nd 372 (⟨.func, 1, [.nilFunc]⟩) .lf .lf) .lf) (.nd 377 (⟨.func, 1, [.nilFunc]⟩) (.nd 376 (⟨.func, 1, [.nilFunc]⟩) .lf .lf) .lf)))) (.nd 393 (⟨.func, 1, [.nilFunc]⟩) (.nd 386 (⟨.func, 1, [.nilFunc]⟩) (.nd 382 (⟨.func, 1, [.nilFunc]⟩) (.nd 380 (⟨.func, 1, [.nilFunc]⟩) (.nd 379 (⟨.func, 1, [.nilFunc]⟩) .lf .lf) (.nd 381 (⟨.func, 1, [.nilFunc]⟩) .lf .lf)) (.nd 384 (⟨.func, 1, [.nilFunc]⟩) (.nd 383 (⟨.func, 1, [.nilFunc]⟩) .lf .lf) .lf)) (.nd 390 (⟨.func, 1, [.nilFunc]⟩) (.nd 389 (⟨.func, 1, [.nilFunc]⟩) (.nd 388 (⟨.func, 1, [.nilFunc]⟩) .lf .lf) .lf) (.nd 392 (⟨.iface, 1, [.nilIface]⟩) (.nd 391 (⟨.iface, 1, [.nilIface]⟩) .lf .lf) .lf))) (.nd 399 (⟨.func, 1, [.nilFunc]⟩) (.nd 396 (⟨.func, 1, [.nilFunc]⟩) (.nd 395 (⟨.func, 1, [.nilFunc]⟩) (.nd 394 (⟨.func, 1, [.nilFunc]⟩) .lf .lf) .lf) (.nd 398 (⟨.func, 1, [.nilFunc]⟩) (.nd 397 (⟨.func, 1, [.nilFunc]⟩) .lf .lf) .lf)) (.nd 402 (⟨.func, 1, [.nilFunc]⟩) (.nd 401 (⟨.func, 1, [.nilFunc]⟩) (.nd 400 (⟨.func, 1, [.nilFunc]⟩) .lf .lf) .lf) (.nd 404 (⟨.func, 1, [.nilFunc]⟩) (.nd 403 (⟨.func, 1, [.nilFunc]⟩) .lf .lf) .lf))))) (.nd 430 (⟨.func, 1, [.nilFunc]⟩) (.nd 418 (⟨.func, 1, [.nilFunc]⟩) (.nd 412 (⟨.func, 1, [.nilFunc]⟩) (.nd 409 (⟨.ptr, 1, [.pointer none]⟩) (.nd 407 (⟨.func, 1, [.nilFunc]⟩) (.nd 406 (⟨.func, 1, [.nilFunc]⟩) .lf .lf) (.nd 408 (⟨.func, 1, [.nilFunc]⟩) .lf .lf)) (.nd 411 (⟨.ptr, 1, [.pointer none]⟩) (.nd 410 (⟨.func, 1, [.nilFunc]⟩) .lf .lf) .lf)) (.nd 415 (⟨.struct [(0, 7), (7, 1)], 8, [.int .i64 0, .int .i64 0, .int .i64 0, .int .i64 0, .int .u32 0, .int .u32 0, .slice none 0 0, .int .i64 0]⟩) (.nd 414 (⟨.struct [(0, 7), (7, 1)], 8, [.int .i64 0, .int .i64 0, .int .i64 0, .int .i64 0, .int .u32 0, .int .u32 0, .slice none 0 0, .int .i64 0]⟩) (.nd 413 (⟨.ptr, 1, [.pointer none]⟩) .lf .lf) .lf) (.nd 417 (⟨.struct [(0, 8), (8, 1)], 9, [.int .i64 0, .int .i64 0, .int .i64 0, .int .i64 0, .int .u32 0, .int .u32 0, .slice none 0 0, .int .i64 0, .int .i64 0]⟩) (.nd 416 (⟨.struct [(0, 8), (8, 1)], 9, [.int .i64 0, .int .i64 0, .int .i64 0, .int .i64 0, .int .u32 0, .int .u32 0, .slice none 0 0, .int .i64 0, .int .i64 0]⟩) .lf .lf) .lf))) (.nd 424 (⟨.func, 1, [.nilFunc]⟩) (.nd 421 (⟨.func, 1, [.nilFunc]⟩) (.nd 420 (⟨.func, 1, [.nilFunc]⟩) (.nd 419 (⟨.func, 1, [.nilFunc]⟩) .lf .lf) .lf) (.nd 423 (⟨.func, 1, [.nilFunc]⟩) (.nd 422 (⟨.func, 1, [.nilFunc]⟩) .lf .lf) .lf)) (.nd 427 (⟨.array 3 4 1, 4, [.int .i64 0, .int .i64 0, .int .i64 0, .int .i64 0]⟩) (.nd 426 (⟨.func, 1, [.nilFunc]⟩) (.nd 425 (⟨.func, 1, [.nilFunc]⟩) .lf .lf) .lf) (.nd 429 (⟨.func, 1, [.nilFunc]⟩) (.nd 428 (⟨.ptr, 1, [.pointer none]⟩) .lf .lf) .lf)))) (.nd 446 (⟨.func, 1, [.nilFunc]⟩) (.nd 439 (⟨.func, 1, [.nilFunc]⟩) (.nd 436 (⟨.func, 1, [.nilFunc]⟩) (.nd 433 (⟨.func, 1, [.nilFunc]⟩) (.nd 431 (⟨.func, 1, [.nilFunc]⟩) .lf .lf) (.nd 435 (⟨.func, 1, [.nilFunc]⟩) .lf .lf)) (.nd 438 (⟨.func, 1, [.nilFunc]⟩) (.nd 437 (⟨.func, 1, [.nilFunc]⟩) .lf .lf) .lf)) (.nd 442 (⟨.ptr, 1, [.pointer none]⟩) (.nd 441 (⟨.func, 1, [.nilFunc]⟩) (.nd 440 (⟨.ptr, 1, [.pointer none]⟩) .lf .lf) .lf) (.nd 445 (⟨.func, 1, [.nilFunc]⟩) (.nd 443 (⟨.func, 1, [.nilFunc]⟩) .lf .lf) .lf))) (.nd 453 (⟨.struct [(0, 0)], 0, []⟩) (.nd 449 (⟨.func, 1, [.nilFunc]⟩) (.nd 448 (⟨.func, 1, [.nilFunc]⟩) (.nd 447 (⟨.func, 1, [.nilFunc]⟩) .lf .lf) .lf) (.nd 452 (⟨.array 16 0 1, 0, []⟩) (.nd 450 (⟨.struct [(0, 1), (1, 1), (2, 1), (3, 1)], 4, [.pointer none, .pointer none, .pointer none, .string .empty]⟩) .lf .lf) .lf)) (.nd 461 (⟨.struct [(0, 1), (1, 1), (2, 1), (3, 1), (4, 1), (5, 1), (6, 1), (7, 1), (8, 1), (9, 1), (10, 1)], 11, [.int .u64 0, .int .u64 0, .int .u32 0, .int .u8 0, .int .u8 0, .int .u8 0, .int .u8 0, .nilFunc, .pointer none, .int .i32 0, .int .i32 0]⟩) (.nd 458 (⟨.ptr, 1, [.pointer none]⟩) (.nd 457 (⟨.func, 1, [.nilFunc]⟩) .lf .lf) .lf) (.nd 464 (⟨.func, 1, [.nilFunc]⟩) (.nd 463 (⟨.func, 1, [.nilFunc]⟩) .lf .lf) .lf))))))))
def etab : Tr (List EK) := (.nd 201 ([.int .u32, .int .i64]) (.nd 167 ([.int .i64, .int .i64, .int .i64]) (.nd 137 ([.int .u64, .int .i64, .int .i64]) (.nd 92 ([.int .i64, .int .i64, .string, .int .u64, .int .u32]) .lf .lf) .lf) (.nd 196 ([.int .i64, .int .i64, .int .i64, .int .u64]) .lf .lf)) (.nd 345 ([.int .i64, .int .i64, .int .i64]) (.nd 247 ([.int .i64, .int .i64, .int .i64, .int .i64, .int .i64]) .lf .lf) (.nd 349 ([.int .i64, .int .i64, .int .i64, .int .i64, .int .i64]) .lf .lf)))
theorem tab_ok : tab.all (fun t i => tiOf Tryz.prog t = some i) := ⟨ty232, ⟨ty118, ⟨ty60, ⟨ty32, ⟨ty18, ⟨ty9, ⟨ty4, ⟨ty2, ⟨ty1, trivial, trivial⟩, ⟨ty3, trivial, trivial⟩⟩, ⟨ty7, ⟨ty5, trivial, trivial⟩, trivial⟩⟩, ⟨ty15, ⟨ty13, ⟨ty12, trivial, trivial⟩, trivial⟩, ⟨ty17, ⟨ty16, trivial, trivial⟩, trivial⟩⟩⟩, ⟨ty26, ⟨ty23, ⟨ty21, ⟨ty20, trivial, trivial⟩, ⟨ty22, trivial, trivial⟩⟩, ⟨ty25, ⟨ty24, trivial, trivial⟩, trivial⟩⟩, ⟨ty29, ⟨ty28, ⟨ty27, trivial, trivial⟩, trivial⟩, ⟨ty31, ⟨ty30, trivial, trivial⟩, trivial⟩⟩⟩⟩, ⟨ty47, ⟨ty40, ⟨ty36, ⟨ty34, ⟨ty33, trivial, trivial⟩, ⟨ty35, trivial, trivial⟩⟩, ⟨ty39, ⟨ty37, trivial, trivial⟩, trivial⟩⟩, ⟨ty44, ⟨ty43, ⟨ty42, trivial, trivial⟩, trivial⟩, ⟨ty46, ⟨ty45, trivial, trivial⟩, trivial⟩⟩⟩, ⟨ty54, ⟨ty50, ⟨ty49, ⟨ty48, trivial, trivial⟩, trivial⟩, ⟨ty52, ⟨ty51, trivial, trivial⟩, trivial⟩⟩, ⟨ty57, ⟨ty56, ⟨ty55, trivial, trivial⟩, trivial⟩, ⟨ty59, ⟨ty58, trivial, trivial⟩, trivial⟩⟩⟩⟩⟩, ⟨ty88, ⟨ty75, ⟨ty67, ⟨ty64, ⟨ty62, ⟨ty61, trivial, trivial⟩, ⟨ty63, trivial, trivial⟩⟩, ⟨ty66, ⟨ty65, trivial, trivial⟩, trivial⟩⟩, ⟨ty71, ⟨ty69, ⟨ty68, trivial, trivial⟩, trivial⟩, ⟨ty73, ⟨ty72, trivial, trivial⟩, trivial⟩⟩⟩, ⟨ty82, ⟨ty79, ⟨ty78, ⟨ty76, trivial, trivial⟩, trivial⟩, ⟨ty81, ⟨ty80, trivial, trivial⟩, trivial⟩⟩, ⟨ty85, ⟨ty84, ⟨ty83, trivial, trivial⟩, trivial⟩, ⟨ty87, ⟨ty86, trivial, trivial⟩, trivial⟩⟩⟩⟩, ⟨ty104, ⟨ty96, ⟨ty92, ⟨ty90, ⟨ty89, trivial, trivial⟩, ⟨ty91, trivial, trivial⟩⟩, ⟨ty95, ⟨ty94, trivial, trivial⟩, trivial⟩⟩, ⟨ty101, ⟨ty99, ⟨ty98, trivial, trivial⟩, trivial⟩, ⟨ty103, ⟨ty102, trivial, trivial⟩, trivial⟩⟩⟩, ⟨ty112, ⟨ty108, ⟨ty107, ⟨ty106, trivial, trivial⟩, trivial⟩, ⟨ty110, ⟨ty109, trivial, trivial⟩, trivial⟩⟩, ⟨ty115, ⟨ty114, ⟨ty113, trivial, trivial⟩, trivial⟩, ⟨ty117, ⟨ty116, trivial, trivial⟩, trivial⟩⟩⟩⟩⟩⟩, ⟨ty177, ⟨ty145, ⟨ty132, ⟨ty126, ⟨ty123, ⟨ty120, ⟨ty119, trivial, trivial⟩, ⟨ty122, trivial, trivial⟩⟩, ⟨ty125, ⟨ty124, trivial, trivial⟩, trivial⟩⟩, ⟨ty129, ⟨ty128, ⟨ty127, trivial, trivial⟩, trivial⟩, ⟨ty131, ⟨ty130, trivial, trivial⟩, trivial⟩⟩⟩, ⟨ty139, ⟨ty136, ⟨ty134, ⟨ty133, trivial, trivial⟩, ⟨ty135, trivial, trivial⟩⟩, ⟨ty138, ⟨ty137, trivial, trivial⟩, trivial⟩⟩, ⟨ty142, ⟨ty141, ⟨ty140, trivial, trivial⟩, trivial⟩, ⟨ty144, ⟨ty143, trivial, trivial⟩, trivial⟩⟩⟩⟩, ⟨ty160, ⟨ty152, ⟨ty149, ⟨ty147, ⟨ty146, trivial, trivial⟩, ⟨ty148, trivial, trivial⟩⟩, ⟨ty151, ⟨ty150, trivial, trivial⟩, trivial⟩⟩, ⟨ty156, ⟨ty154, ⟨ty153, trivial, trivial⟩, trivial⟩, ⟨ty158, ⟨ty157, trivial, trivial⟩, trivial⟩⟩⟩, ⟨ty167, ⟨ty163, ⟨ty162, ⟨ty161, trivial, trivial⟩, trivial⟩, ⟨ty166, ⟨ty165, trivial, trivial⟩, trivial⟩⟩, ⟨ty173, ⟨ty171, ⟨ty169, trivial, trivial⟩, trivial⟩, ⟨ty176, ⟨ty174, trivial, trivial⟩, trivial⟩⟩⟩⟩⟩, ⟨ty205, ⟨ty193, ⟨ty187, ⟨ty182, ⟨ty180, ⟨ty179, trivial, trivial⟩, ⟨ty181, trivial, trivial⟩⟩, ⟨ty185, ⟨ty184, trivial, trivial⟩, trivial⟩⟩, ⟨ty190, ⟨ty189, ⟨ty188, trivial, trivial⟩, trivial⟩, ⟨ty192, ⟨ty191, trivial, trivial⟩, trivial⟩⟩⟩, ⟨ty199, ⟨ty196, ⟨ty195, ⟨ty194, trivial, trivial⟩, trivial⟩, ⟨ty198, ⟨ty197, trivial, trivial⟩, trivial⟩⟩, ⟨ty202, ⟨ty201, ⟨ty200, trivial, trivial⟩, trivial⟩, ⟨ty204, ⟨ty203, trivial, trivial⟩, trivial⟩⟩⟩⟩, ⟨ty220, ⟨ty214, ⟨ty210, ⟨ty207, ⟨ty206, trivial, trivial⟩, ⟨ty209, trivial, trivial⟩⟩, ⟨ty213, ⟨ty211, trivial, trivial⟩, trivial⟩⟩, ⟨ty217, ⟨ty216, ⟨ty215, trivial, trivial⟩, trivial⟩, ⟨ty219, ⟨ty218, trivial, trivial⟩, trivial⟩⟩⟩, ⟨ty226, ⟨ty223, ⟨ty222, ⟨ty221, trivial, trivial⟩, trivial⟩, ⟨ty225, ⟨ty224, trivial, trivial⟩, trivial⟩⟩, ⟨ty229, ⟨ty228, ⟨ty227, trivial, trivial⟩, trivial⟩, ⟨ty231, ⟨ty230, trivial, trivial⟩, trivial⟩⟩⟩⟩⟩⟩⟩, ⟨ty347, ⟨ty293, ⟨ty261, ⟨ty245, ⟨ty239, ⟨ty236, ⟨ty234, ⟨ty233, trivial, trivial⟩, ⟨ty235, trivial, trivial⟩⟩, ⟨ty238, ⟨ty237, trivial, trivial⟩, trivial⟩⟩, ⟨ty242, ⟨ty241, ⟨ty240, trivial, trivial⟩, trivial⟩, ⟨ty244, ⟨ty243, trivial, trivial⟩, trivial⟩⟩⟩, ⟨ty253, ⟨ty249, ⟨ty247, ⟨ty246, trivial, trivial⟩, ⟨ty248, trivial, trivial⟩⟩, ⟨ty252, ⟨ty250, trivial, trivial⟩, trivial⟩⟩, ⟨ty257, ⟨ty256, ⟨ty255, trivial, trivial⟩, trivial⟩, ⟨ty259, ⟨ty258, trivial, trivial⟩, trivial⟩⟩⟩⟩, ⟨ty278, ⟨ty271, ⟨ty267, ⟨ty264, ⟨ty262, trivial, trivial⟩, ⟨ty265, trivial, trivial⟩⟩, ⟨ty270, ⟨ty269, trivial, trivial⟩, trivial⟩⟩, ⟨ty274, ⟨ty273, ⟨ty272, trivial, trivial⟩, trivial⟩, ⟨ty277, ⟨ty275, trivial, trivial⟩, trivial⟩⟩⟩, ⟨ty286, ⟨ty283, ⟨ty282, ⟨ty280, trivial, trivial⟩, trivial⟩, ⟨ty285, ⟨ty284, trivial, trivial⟩, trivial⟩⟩, ⟨ty289, ⟨ty288, ⟨ty287, trivial, trivial⟩, trivial⟩, ⟨ty292, ⟨ty291, trivial, trivial⟩, trivial⟩⟩⟩⟩⟩, ⟨ty318, ⟨ty306, ⟨ty300, ⟨ty297, ⟨ty295, ⟨ty294, trivial, trivial⟩, ⟨ty296, trivial, trivial⟩⟩, ⟨ty299, ⟨ty298, trivial, trivial⟩, trivial⟩⟩, ⟨ty303, ⟨ty302, ⟨ty301, trivial, trivial⟩, trivial⟩, ⟨ty305, ⟨ty304, trivial, trivial⟩, trivial⟩⟩⟩, ⟨ty312, ⟨ty309, ⟨ty308, ⟨ty307, trivial, trivial⟩, trivial⟩, ⟨ty311, ⟨ty310, trivial, trivial⟩, trivial⟩⟩, ⟨ty315, ⟨ty314, ⟨ty313, trivial, trivial⟩, trivial⟩, ⟨ty317, ⟨ty316, trivial, trivial⟩, trivial⟩⟩⟩⟩, ⟨ty334, ⟨ty326, ⟨ty323, ⟨ty321, ⟨ty319, trivial, trivial⟩, ⟨ty322, trivial, trivial⟩⟩, ⟨ty325, ⟨ty324, trivial, trivial⟩, trivial⟩⟩, ⟨ty329, ⟨ty328, ⟨ty327, trivial, trivial⟩, trivial⟩, ⟨ty332, ⟨ty330, trivial, trivial⟩, trivial⟩⟩⟩, ⟨ty340, ⟨ty337, ⟨ty336, ⟨ty335, trivial, trivial⟩, trivial⟩, ⟨ty339, ⟨ty338, trivial, trivial⟩, trivial⟩⟩, ⟨ty343, ⟨ty342, ⟨ty341, trivial, trivial⟩, trivial⟩, ⟨ty345, ⟨ty344, trivial, trivial⟩, trivial⟩⟩⟩⟩⟩⟩, ⟨ty405, ⟨ty378, ⟨ty363, ⟨ty356, ⟨ty352, ⟨ty349, ⟨ty348, trivial, trivial⟩, ⟨ty351, trivial, trivial⟩⟩, ⟨ty354, ⟨ty353, trivial, trivial⟩, trivial⟩⟩, ⟨ty359, ⟨ty358, ⟨ty357, trivial, trivial⟩, trivial⟩, ⟨ty362, ⟨ty361, trivial, trivial⟩, trivial⟩⟩⟩, ⟨ty371, ⟨ty368, ⟨ty366, ⟨ty365, trivial, trivial⟩, ⟨ty367, trivial, trivial⟩⟩, ⟨ty370, ⟨ty369, trivial, trivial⟩, trivial⟩⟩, ⟨ty375, ⟨ty374, ⟨ty372, trivial, trivial⟩, trivial⟩, ⟨ty377, ⟨ty376, trivial, trivial⟩, trivial⟩⟩⟩⟩, ⟨ty393, ⟨ty386, ⟨ty382, ⟨ty380, ⟨ty379, trivial, trivial⟩, ⟨ty381, trivial, trivial⟩⟩, ⟨ty384, ⟨ty383, trivial, trivial⟩, trivial⟩⟩, ⟨ty390, ⟨ty389, ⟨ty388, trivial, trivial⟩, trivial⟩, ⟨ty392, ⟨ty391, trivial, trivial⟩, trivial⟩⟩⟩, ⟨ty399, ⟨ty396, ⟨ty395, ⟨ty394, trivial, trivial⟩, trivial⟩, ⟨ty398, ⟨ty397, trivial, trivial⟩, trivial⟩⟩, ⟨ty402, ⟨ty401, ⟨ty400, trivial, trivial⟩, trivial⟩, ⟨ty404, ⟨ty403, trivial, trivial⟩, trivial⟩⟩⟩⟩⟩, ⟨ty430, ⟨ty418, ⟨ty412, ⟨ty409, ⟨ty407, ⟨ty406, trivial, trivial⟩, ⟨ty408, trivial, trivial⟩⟩, ⟨ty411, ⟨ty410, trivial, trivial⟩, trivial⟩⟩, ⟨ty415, ⟨ty414, ⟨ty413, trivial, trivial⟩, trivial⟩, ⟨ty417, ⟨ty416, trivial, trivial⟩, trivial⟩⟩⟩, ⟨ty424, ⟨ty421, ⟨ty420, ⟨ty419, trivial, trivial⟩, trivial⟩, ⟨ty423, ⟨ty422, trivial, trivial⟩, trivial⟩⟩, ⟨ty427, ⟨ty426, ⟨ty425, trivial, trivial⟩, trivial⟩, ⟨ty429, ⟨ty428, trivial, trivial⟩, trivial⟩⟩⟩⟩, ⟨ty446, ⟨ty439, ⟨ty436, ⟨ty433, ⟨ty431, trivial, trivial⟩, ⟨ty435, trivial, trivial⟩⟩, ⟨ty438, ⟨ty437, trivial, trivial⟩, trivial⟩⟩, ⟨ty442, ⟨ty441, ⟨ty440, trivial, trivial⟩, trivial⟩, ⟨ty445, ⟨ty443, trivial, trivial⟩, trivial⟩⟩⟩, ⟨ty453, ⟨ty449, ⟨ty448, ⟨ty447, trivial, trivial⟩, trivial⟩, ⟨ty452, ⟨ty450, trivial, trivial⟩, trivial⟩⟩, ⟨ty461, ⟨ty458, ⟨ty457, trivial, trivial⟩, trivial⟩, ⟨ty464, ⟨ty463, trivial, trivial⟩, trivial⟩⟩⟩⟩⟩⟩⟩⟩
theorem etab_ok : etab.all (fun t i => eqsOf Tryz.prog t = some i) := ⟨tq201, ⟨tq167, ⟨tq137, ⟨tq92, trivial, trivial⟩, trivial⟩, ⟨tq196, trivial, trivial⟩⟩, ⟨tq345, ⟨tq247, trivial, trivial⟩, ⟨tq349, trivial, trivial⟩⟩⟩
def Γ : TyE Tryz.prog := ⟨⟨fun t => tab.look t, fun _ _ h => tiOf_ok (Tr.look_ok tab_ok h)⟩, fun t => etab.look t, fun _ _ h => eqsOf_ok (Tr.look_ok etab_ok h)⟩
theorem hm : Tryz.prog.follows .mixedOrders = true := by kernel_rfl
theorem F4 : Fun Tryz.prog 4 Tryz.f4 (bodyOf Tryz.f4) := ⟨Tryz.func4, rfl, by kernel_rfl⟩
theorem F10 : Fun Tryz.prog 10 Tryz.f10 (bodyOf Tryz.f10) := ⟨Tryz.func10, rfl, by kernel_rfl⟩
theorem F11 : Fun Tryz.prog 11 Tryz.f11 (bodyOf Tryz.f11) := ⟨Tryz.func11, rfl, by kernel_rfl⟩
theorem F12 : Fun Tryz.prog 12 Tryz.f12 (bodyOf Tryz.f12) := ⟨Tryz.func12, rfl, by kernel_rfl⟩
theorem F13 : Fun Tryz.prog 13 Tryz.f13 (bodyOf Tryz.f13) := ⟨Tryz.func13, rfl, by kernel_rfl⟩
theorem F17 : Fun Tryz.prog 17 Tryz.f17 (bodyOf Tryz.f17) := ⟨Tryz.func17, rfl, by kernel_rfl⟩
theorem F18 : Fun Tryz.prog 18 Tryz.f18 (bodyOf Tryz.f18) := ⟨Tryz.func18, rfl, by kernel_rfl⟩
theorem F21 : Fun Tryz.prog 21 Tryz.f21 (bodyOf Tryz.f21) := ⟨Tryz.func21, rfl, by kernel_rfl⟩
theorem F33 : Fun Tryz.prog 33 Tryz.f33 (bodyOf Tryz.f33) := ⟨Tryz.func33, rfl, by kernel_rfl⟩
theorem F41 : Fun Tryz.prog 41 Tryz.f41 (bodyOf Tryz.f41) := ⟨Tryz.func41, rfl, by kernel_rfl⟩
theorem F42 : Fun Tryz.prog 42 Tryz.f42 (bodyOf Tryz.f42) := ⟨Tryz.func42, rfl, by kernel_rfl⟩
theorem F43 : Fun Tryz.prog 43 Tryz.f43 (bodyOf Tryz.f43) := ⟨Tryz.func43, rfl, by kernel_rfl⟩
theorem F44 : Fun Tryz.prog 44 Tryz.f44 (bodyOf Tryz.f44) := ⟨Tryz.func44, rfl, by kernel_rfl⟩
theorem F45 : Fun Tryz.prog 45 Tryz.f45 (bodyOf Tryz.f45) := ⟨Tryz.func45, rfl, by kernel_rfl⟩
theorem F46 : Fun Tryz.prog 46 Tryz.f46 (bodyOf Tryz.f46) := ⟨Tryz.func46, rfl, by kernel_rfl⟩
theorem F47 : Fun Tryz.prog 47 Tryz.f47 (bodyOf Tryz.f47) := ⟨Tryz.func47, rfl, by kernel_rfl⟩
theorem F48 : Fun Tryz.prog 48 Tryz.f48 (bodyOf Tryz.f48) := ⟨Tryz.func48, rfl, by kernel_rfl⟩
theorem F51 : Fun Tryz.prog 51 Tryz.f51 (bodyOf Tryz.f51) := ⟨Tryz.func51, rfl, by kernel_rfl⟩
theorem F52 : Fun Tryz.prog 52 Tryz.f52 (bodyOf Tryz.f52) := ⟨Tryz.func52, rfl, by kernel_rfl⟩
theorem F53 : Fun Tryz.prog 53 Tryz.f53 (bodyOf Tryz.f53) := ⟨Tryz.func53, rfl, by kernel_rfl⟩
theorem F54 : Fun Tryz.prog 54 Tryz.f54 (bodyOf Tryz.f54) := ⟨Tryz.func54, rfl, by kernel_rfl⟩
theorem F55 : Fun Tryz.prog 55 Tryz.f55 (bodyOf Tryz.f55) := ⟨Tryz.func55, rfl, by kernel_rfl⟩
theorem F63 : Fun Tryz.prog 63 Tryz.f63 (bodyOf Tryz.f63) := ⟨Tryz.func63, rfl, by kernel_rfl⟩
theorem F67 : Fun Tryz.prog 67 Tryz.f67 (bodyOf Tryz.f67) := ⟨Tryz.func67, rfl, by kernel_rfl⟩
theorem F72 : Fun Tryz.prog 72 Tryz.f72 (bodyOf Tryz.f72) := ⟨Tryz.func72, rfl, by kernel_rfl⟩
theorem F83 : Fun Tryz.prog 83 Tryz.f83 (bodyOf Tryz.f83) := ⟨Tryz.func83, rfl, by kernel_rfl⟩
theorem F84 : Fun Tryz.prog 84 Tryz.f84 (bodyOf Tryz.f84) := ⟨Tryz.func84, rfl, by kernel_rfl⟩
theorem F85 : Fun Tryz.prog 85 Tryz.f85 (bodyOf Tryz.f85) := ⟨Tryz.func85, rfl, by kernel_rfl⟩
theorem F86 : Fun Tryz.prog 86 Tryz.f86 (bodyOf Tryz.f86) := ⟨Tryz.func86, rfl, by kernel_rfl⟩
theorem F87 : Fun Tryz.prog 87 Tryz.f87 (bodyOf Tryz.f87) := ⟨Tryz.func87, rfl, by kernel_rfl⟩
theorem F88 : Fun Tryz.prog 88 Tryz.f88 (bodyOf Tryz.f88) := ⟨Tryz.func88, rfl, by kernel_rfl⟩
theorem F89 : Fun Tryz.prog 89 Tryz.f89 (bodyOf Tryz.f89) := ⟨Tryz.func89, rfl, by kernel_rfl⟩
theorem F90 : Fun Tryz.prog 90 Tryz.f90 (bodyOf Tryz.f90) := ⟨Tryz.func90, rfl, by kernel_rfl⟩
theorem F91 : Fun Tryz.prog 91 Tryz.f91 (bodyOf Tryz.f91) := ⟨Tryz.func91, rfl, by kernel_rfl⟩
theorem F92 : Fun Tryz.prog 92 Tryz.f92 (bodyOf Tryz.f92) := ⟨Tryz.func92, rfl, by kernel_rfl⟩
theorem F93 : Fun Tryz.prog 93 Tryz.f93 (bodyOf Tryz.f93) := ⟨Tryz.func93, rfl, by kernel_rfl⟩
theorem F94 : Fun Tryz.prog 94 Tryz.f94 (bodyOf Tryz.f94) := ⟨Tryz.func94, rfl, by kernel_rfl⟩
theorem F95 : Fun Tryz.prog 95 Tryz.f95 (bodyOf Tryz.f95) := ⟨Tryz.func95, rfl, by kernel_rfl⟩
theorem F96 : Fun Tryz.prog 96 Tryz.f96 (bodyOf Tryz.f96) := ⟨Tryz.func96, rfl, by kernel_rfl⟩
theorem F97 : Fun Tryz.prog 97 Tryz.f97 (bodyOf Tryz.f97) := ⟨Tryz.func97, rfl, by kernel_rfl⟩
theorem F98 : Fun Tryz.prog 98 Tryz.f98 (bodyOf Tryz.f98) := ⟨Tryz.func98, rfl, by kernel_rfl⟩
theorem F99 : Fun Tryz.prog 99 Tryz.f99 (bodyOf Tryz.f99) := ⟨Tryz.func99, rfl, by kernel_rfl⟩
theorem F100 : Fun Tryz.prog 100 Tryz.f100 (bodyOf Tryz.f100) := ⟨Tryz.func100, rfl, by kernel_rfl⟩
theorem F101 : Fun Tryz.prog 101 Tryz.f101 (bodyOf Tryz.f101) := ⟨Tryz.func101, rfl, by kernel_rfl⟩
theorem F102 : Fun Tryz.prog 102 Tryz.f102 (bodyOf Tryz.f102) := ⟨Tryz.func102, rfl, by kernel_rfl⟩
theorem F103 : Fun Tryz.prog 103 Tryz.f103 (bodyOf Tryz.f103) := ⟨Tryz.func103, rfl, by kernel_rfl⟩
theorem F104 : Fun Tryz.prog 104 Tryz.f104 (bodyOf Tryz.f104) := ⟨Tryz.func104, rfl, by kernel_rfl⟩
theorem F105 : Fun Tryz.prog 105 Tryz.f105 (bodyOf Tryz.f105) := ⟨Tryz.func105, rfl, by kernel_rfl⟩
theorem F106 : Fun Tryz.prog 106 Tryz.f106 (bodyOf Tryz.f106) := ⟨Tryz.func106, rfl, by kernel_rfl⟩
theorem F107 : Fun Tryz.prog 107 Tryz.f107 (bodyOf Tryz.f107) := ⟨Tryz.func107, rfl, by kernel_rfl⟩
theorem F114 : Fun Tryz.prog 114 Tryz.f114 (bodyOf Tryz.f114) := ⟨Tryz.func114, rfl, by kernel_rfl⟩
theorem F115 : Fun Tryz.prog 115 Tryz.f115 (bodyOf Tryz.f115) := ⟨Tryz.func115, rfl, by kernel_rfl⟩
theorem F116 : Fun Tryz.prog 116 Tryz.f116 (bodyOf Tryz.f116) := ⟨Tryz.func116, rfl, by kernel_rfl⟩
theorem F117 : Fun Tryz.prog 117 Tryz.f117 (bodyOf Tryz.f117) := ⟨Tryz.func117, rfl, by kernel_rfl⟩
theorem F118 : Fun Tryz.prog 118 Tryz.f118 (bodyOf Tryz.f118) := ⟨Tryz.func118, rfl, by kernel_rfl⟩
theorem F119 : Fun Tryz.prog 119 Tryz.f119 (bodyOf Tryz.f119) := ⟨Tryz.func119, rfl, by kernel_rfl⟩
theorem F120 : Fun Tryz.prog 120 Tryz.f120 (bodyOf Tryz.f120) := ⟨Tryz.func120, rfl, by kernel_rfl⟩
theorem F121 : Fun Tryz.prog 121 Tryz.f121 (bodyOf Tryz.f121) := ⟨Tryz.func121, rfl, by kernel_rfl⟩
theorem F122 : Fun Tryz.prog 122 Tryz.f122 (bodyOf Tryz.f122) := ⟨Tryz.func122, rfl, by kernel_rfl⟩
theorem F123 : Fun Tryz.prog 123 Tryz.f123 (bodyOf Tryz.f123) := ⟨Tryz.func123, rfl, by kernel_rfl⟩
theorem F124 : Fun Tryz.prog 124 Tryz.f124 (bodyOf Tryz.f124) := ⟨Tryz.func124, rfl, by kernel_rfl⟩
theorem F125 : Fun Tryz.prog 125 Tryz.f125 (bodyOf Tryz.f125) := ⟨Tryz.func125, rfl, by kernel_rfl⟩
theorem F126 : Fun Tryz.prog 126 Tryz.f126 (bodyOf Tryz.f126) := ⟨Tryz.func126, rfl, by kernel_rfl⟩
theorem F127 : Fun Tryz.prog 127 Tryz.f127 (bodyOf Tryz.f127) := ⟨Tryz.func127, rfl, by kernel_rfl⟩
theorem F128 : Fun Tryz.prog 128 Tryz.f128 (bodyOf Tryz.f128) := ⟨Tryz.func128, rfl, by kernel_rfl⟩
theorem F129 : Fun Tryz.prog 129 Tryz.f129 (bodyOf Tryz.f129) := ⟨Tryz.func129, rfl, by kernel_rfl⟩
theorem F130 : Fun Tryz.prog 130 Tryz.f130 (bodyOf Tryz.f130) := ⟨Tryz.func130, rfl, by kernel_rfl⟩
theorem F131 : Fun Tryz.prog 131 Tryz.f131 (bodyOf Tryz.f131) := ⟨Tryz.func131, rfl, by kernel_rfl⟩
theorem F132 : Fun Tryz.prog 132 Tryz.f132 (bodyOf Tryz.f132) := ⟨Tryz.func132, rfl, by kernel_rfl⟩
theorem F154 : Fun Tryz.prog 154 Tryz.f154 (bodyOf Tryz.f154) := ⟨Tryz.func154, rfl, by kernel_rfl⟩
theorem F155 : Fun Tryz.prog 155 Tryz.f155 (bodyOf Tryz.f155) := ⟨Tryz.func155, rfl, by kernel_rfl⟩
theorem F156 : Fun Tryz.prog 156 Tryz.f156 (bodyOf Tryz.f156) := ⟨Tryz.func156, rfl, by kernel_rfl⟩
theorem F157 : Fun Tryz.prog 157 Tryz.f157 (bodyOf Tryz.f157) := ⟨Tryz.func157, rfl, by kernel_rfl⟩
theorem F158 : Fun Tryz.prog 158 Tryz.f158 (bodyOf Tryz.f158) := ⟨Tryz.func158, rfl, by kernel_rfl⟩
theorem F159 : Fun Tryz.prog 159 Tryz.f159 (bodyOf Tryz.f159) := ⟨Tryz.func159, rfl, by kernel_rfl⟩
theorem F160 : Fun Tryz.prog 160 Tryz.f160 (bodyOf Tryz.f160) := ⟨Tryz.func160, rfl, by kernel_rfl⟩
theorem F161 : Fun Tryz.prog 161 Tryz.f161 (bodyOf Tryz.f161) := ⟨Tryz.func161, rfl, by kernel_rfl⟩
theorem F162 : Fun Tryz.prog 162 Tryz.f162 (bodyOf Tryz.f162) := ⟨Tryz.func162, rfl, by kernel_rfl⟩
theorem F163 : Fun Tryz.prog 163 Tryz.f163 (bodyOf Tryz.f163) := ⟨Tryz.func163, rfl, by kernel_rfl⟩
theorem F164 : Fun Tryz.prog 164 Tryz.f164 (bodyOf Tryz.f164) := ⟨Tryz.func164, rfl, by kernel_rfl⟩
theorem F165 : Fun Tryz.prog 165 Tryz.f165 (bodyOf Tryz.f165) := ⟨Tryz.func165, rfl, by kernel_rfl⟩
theorem F166 : Fun Tryz.prog 166 Tryz.f166 (bodyOf Tryz.f166) := ⟨Tryz.func166, rfl, by kernel_rfl⟩
theorem F167 : Fun Tryz.prog 167 Tryz.f167 (bodyOf Tryz.f167) := ⟨Tryz.func167, rfl, by kernel_rfl⟩
theorem F168 : Fun Tryz.prog 168 Tryz.f168 (bodyOf Tryz.f168) := ⟨Tryz.func168, rfl, by kernel_rfl⟩
theorem F169 : Fun Tryz.prog 169 Tryz.f169 (bodyOf Tryz.f169) := ⟨Tryz.func169, rfl, by kernel_rfl⟩
theorem F170 : Fun Tryz.prog 170 Tryz.f170 (bodyOf Tryz.f170) := ⟨Tryz.func170, rfl, by kernel_rfl⟩
theorem F171 : Fun Tryz.prog 171 Tryz.f171 (bodyOf Tryz.f171) := ⟨Tryz.func171, rfl, by kernel_rfl⟩
theorem F172 : Fun Tryz.prog 172 Tryz.f172 (bodyOf Tryz.f172) := ⟨Tryz.func172, rfl, by kernel_rfl⟩
theorem F173 : Fun Tryz.prog 173 Tryz.f173 (bodyOf Tryz.f173) := ⟨Tryz.func173, rfl, by kernel_rfl⟩
theorem F174 : Fun Tryz.prog 174 Tryz.f174 (bodyOf Tryz.f174) := ⟨Tryz.func174, rfl, by kernel_rfl⟩
theorem F175 : Fun Tryz.prog 175 Tryz.f175 (bodyOf Tryz.f175) := ⟨Tryz.func175, rfl, by kernel_rfl⟩
theorem F176 : Fun Tryz.prog 176 Tryz.f176 (bodyOf Tryz.f176) := ⟨Tryz.func176, rfl, by kernel_rfl⟩
theorem F177 : Fun Tryz.prog 177 Tryz.f177 (bodyOf Tryz.f177) := ⟨Tryz.func177, rfl, by kernel_rfl⟩
theorem F178 : Fun Tryz.prog 178 Tryz.f178 (bodyOf Tryz.f178) := ⟨Tryz.func178, rfl, by kernel_rfl⟩
theorem F179 : Fun Tryz.prog 179 Tryz.f179 (bodyOf Tryz.f179) := ⟨Tryz.func179, rfl, by kernel_rfl⟩
theorem F180 : Fun Tryz.prog 180 Tryz.f180 (bodyOf Tryz.f180) := ⟨Tryz.func180, rfl, by kernel_rfl⟩
theorem F181 : Fun Tryz.prog 181 Tryz.f181 (bodyOf Tryz.f181) := ⟨Tryz.func181, rfl, by kernel_rfl⟩
theorem F182 : Fun Tryz.prog 182 Tryz.f182 (bodyOf Tryz.f182) := ⟨Tryz.func182, rfl, by kernel_rfl⟩
theorem F183 : Fun Tryz.prog 183 Tryz.f183 (bodyOf Tryz.f183) := ⟨Tryz.func183, rfl, by kernel_rfl⟩
theorem F184 : Fun Tryz.prog 184 Tryz.f184 (bodyOf Tryz.f184) := ⟨Tryz.func184, rfl, by kernel_rfl⟩
theorem F185 : Fun Tryz.prog 185 Tryz.f185 (bodyOf Tryz.f185) := ⟨Tryz.func185, rfl, by kernel_rfl⟩
theorem F186 : Fun Tryz.prog 186 Tryz.f186 (bodyOf Tryz.f186) := ⟨Tryz.func186, rfl, by kernel_rfl⟩
theorem F187 : Fun Tryz.prog 187 Tryz.f187 (bodyOf Tryz.f187) := ⟨Tryz.func187, rfl, by kernel_rfl⟩
theorem F190 : Fun Tryz.prog 190 Tryz.f190 (bodyOf Tryz.f190) := ⟨Tryz.func190, rfl, by kernel_rfl⟩
theorem F191 : Fun Tryz.prog 191 Tryz.f191 (bodyOf Tryz.f191) := ⟨Tryz.func191, rfl, by kernel_rfl⟩
theorem F192 : Fun Tryz.prog 192 Tryz.f192 (bodyOf Tryz.f192) := ⟨Tryz.func192, rfl, by kernel_rfl⟩
theorem F193 : Fun Tryz.prog 193 Tryz.f193 (bodyOf Tryz.f193) := ⟨Tryz.func193, rfl, by kernel_rfl⟩
theorem F194 : Fun Tryz.prog 194 Tryz.f194 (bodyOf Tryz.f194) := ⟨Tryz.func194, rfl, by kernel_rfl⟩
theorem F195 : Fun Tryz.prog 195 Tryz.f195 (bodyOf Tryz.f195) := ⟨Tryz.func195, rfl, by kernel_rfl⟩
theorem F196 : Fun Tryz.prog 196 Tryz.f196 (bodyOf Tryz.f196) := ⟨Tryz.func196, rfl, by kernel_rfl⟩
theorem F197 : Fun Tryz.prog 197 Tryz.f197 (bodyOf Tryz.f197) := ⟨Tryz.func197, rfl, by kernel_rfl⟩
theorem F198 : Fun Tryz.prog 198 Tryz.f198 (bodyOf Tryz.f198) := ⟨Tryz.func198, rfl, by kernel_rfl⟩
theorem F199 : Fun Tryz.prog 199 Tryz.f199 (bodyOf Tryz.f199) := ⟨Tryz.func199, rfl, by kernel_rfl⟩
theorem F200 : Fun Tryz.prog 200 Tryz.f200 (bodyOf Tryz.f200) := ⟨Tryz.func200, rfl, by kernel_rfl⟩
theorem F226 : Fun Tryz.prog 226 Tryz.f226 (bodyOf Tryz.f226) := ⟨Tryz.func226, rfl, by kernel_rfl⟩
theorem F227 : Fun Tryz.prog 227 Tryz.f227 (bodyOf Tryz.f227) := ⟨Tryz.func227, rfl, by kernel_rfl⟩
theorem F228 : Fun Tryz.prog 228 Tryz.f228 (bodyOf Tryz.f228) := ⟨Tryz.func228, rfl, by kernel_rfl⟩
theorem F229 : Fun Tryz.prog 229 Tryz.f229 (bodyOf Tryz.f229) := ⟨Tryz.func229, rfl, by kernel_rfl⟩
theorem F230 : Fun Tryz.prog 230 Tryz.f230 (bodyOf Tryz.f230) := ⟨Tryz.func230, rfl, by kernel_rfl⟩
theorem F231 : Fun Tryz.prog 231 Tryz.f231 (bodyOf Tryz.f231) := ⟨Tryz.func231, rfl, by kernel_rfl⟩
theorem F232 : Fun Tryz.prog 232 Tryz.f232 (bodyOf Tryz.f232) := ⟨Tryz.func232, rfl, by kernel_rfl⟩
theorem F233 : Fun Tryz.prog 233 Tryz.f233 (bodyOf Tryz.f233) := ⟨Tryz.func233, rfl, by kernel_rfl⟩
theorem F234 : Fun Tryz.prog 234 Tryz.f234 (bodyOf Tryz.f234) := ⟨Tryz.func234, rfl, by kernel_rfl⟩
theorem F235 : Fun Tryz.prog 235 Tryz.f235 (bodyOf Tryz.f235) := ⟨Tryz.func235, rfl, by kernel_rfl⟩
theorem F236 : Fun Tryz.prog 236 Tryz.f236 (bodyOf Tryz.f236) := ⟨Tryz.func236, rfl, by kernel_rfl⟩
theorem F237 : Fun Tryz.prog 237 Tryz.f237 (bodyOf Tryz.f237) := ⟨Tryz.func237, rfl, by kernel_rfl⟩
theorem F238 : Fun Tryz.prog 238 Tryz.f238 (bodyOf Tryz.f238) := ⟨Tryz.func238, rfl, by kernel_rfl⟩
theorem F239 : Fun Tryz.prog 239 Tryz.f239 (bodyOf Tryz.f239) := ⟨Tryz.func239, rfl, by kernel_rfl⟩
theorem F240 : Fun Tryz.prog 240 Tryz.f240 (bodyOf Tryz.f240) := ⟨Tryz.func240, rfl, by kernel_rfl⟩
theorem F241 : Fun Tryz.prog 241 Tryz.f241 (bodyOf Tryz.f241) := ⟨Tryz.func241, rfl, by kernel_rfl⟩
theorem F242 : Fun Tryz.prog 242 Tryz.f242 (bodyOf Tryz.f242) := ⟨Tryz.func242, rfl, by kernel_rfl⟩
theorem F243 : Fun Tryz.prog 243 Tryz.f243 (bodyOf Tryz.f243) := ⟨Tryz.func243, rfl, by kernel_rfl⟩
theorem F244 : Fun Tryz.prog 244 Tryz.f244 (bodyOf Tryz.f244) := ⟨Tryz.func244, rfl, by kernel_rfl⟩
theorem F245 : Fun Tryz.prog 245 Tryz.f245 (bodyOf Tryz.f245) := ⟨Tryz.func245, rfl, by kernel_rfl⟩
theorem F246 : Fun Tryz.prog 246 Tryz.f246 (bodyOf Tryz.f246) := ⟨Tryz.func246, rfl, by kernel_rfl⟩
theorem F247 : Fun Tryz.prog 247 Tryz.f247 (bodyOf Tryz.f247) := ⟨Tryz.func247, rfl, by kernel_rfl⟩
theorem F248 : Fun Tryz.prog 248 Tryz.f248 (bodyOf Tryz.f248) := ⟨Tryz.func248, rfl, by kernel_rfl⟩
theorem F249 : Fun Tryz.prog 249 Tryz.f249 (bodyOf Tryz.f249) := ⟨Tryz.func249, rfl, by kernel_rfl⟩
theorem F250 : Fun Tryz.prog 250 Tryz.f250 (bodyOf Tryz.f250) := ⟨Tryz.func250, rfl, by kernel_rfl⟩
theorem F251 : Fun Tryz.prog 251 Tryz.f251 (bodyOf Tryz.f251) := ⟨Tryz.func251, rfl, by kernel_rfl⟩
theorem F252 : Fun Tryz.prog 252 Tryz.f252 (bodyOf Tryz.f252) := ⟨Tryz.func252, rfl, by kernel_rfl⟩
theorem F253 : Fun Tryz.prog 253 Tryz.f253 (bodyOf Tryz.f253) := ⟨Tryz.func253, rfl, by kernel_rfl⟩
theorem F254 : Fun Tryz.prog 254 Tryz.f254 (bodyOf Tryz.f254) := ⟨Tryz.func254, rfl, by kernel_rfl⟩
theorem F255 : Fun Tryz.prog 255 Tryz.f255 (bodyOf Tryz.f255) := ⟨Tryz.func255, rfl, by kernel_rfl⟩
theorem F256 : Fun Tryz.prog 256 Tryz.f256 (bodyOf Tryz.f256) := ⟨Tryz.func256, rfl, by kernel_rfl⟩
theorem F258 : Fun Tryz.prog 258 Tryz.f258 (bodyOf Tryz.f258) := ⟨Tryz.func258, rfl, by kernel_rfl⟩
theorem F259 : Fun Tryz.prog 259 Tryz.f259 (bodyOf Tryz.f259) := ⟨Tryz.func259, rfl, by kernel_rfl⟩
theorem F260 : Fun Tryz.prog 260 Tryz.f260 (bodyOf Tryz.f260) := ⟨Tryz.func260, rfl, by kernel_rfl⟩
theorem F261 : Fun Tryz.prog 261 Tryz.f261 (bodyOf Tryz.f261) := ⟨Tryz.func261, rfl, by kernel_rfl⟩
theorem F262 : Fun Tryz.prog 262 Tryz.f262 (bodyOf Tryz.f262) := ⟨Tryz.func262, rfl, by kernel_rfl⟩
theorem F263 : Fun Tryz.prog 263 Tryz.f263 (bodyOf Tryz.f263) := ⟨Tryz.func263, rfl, by kernel_rfl⟩
theorem F264 : Fun Tryz.prog 264 Tryz.f264 (bodyOf Tryz.f264) := ⟨Tryz.func264, rfl, by kernel_rfl⟩
theorem F281 : Fun Tryz.prog 281 Tryz.f281 (bodyOf Tryz.f281) := ⟨Tryz.func281, rfl, by kernel_rfl⟩
theorem F282 : Fun Tryz.prog 282 Tryz.f282 (bodyOf Tryz.f282) := ⟨Tryz.func282, rfl, by kernel_rfl⟩
theorem F283 : Fun Tryz.prog 283 Tryz.f283 (bodyOf Tryz.f283) := ⟨Tryz.func283, rfl, by kernel_rfl⟩
theorem F284 : Fun Tryz.prog 284 Tryz.f284 (bodyOf Tryz.f284) := ⟨Tryz.func284, rfl, by kernel_rfl⟩
theorem F285 : Fun Tryz.prog 285 Tryz.f285 (bodyOf Tryz.f285) := ⟨Tryz.func285, rfl, by kernel_rfl⟩
theorem F286 : Fun Tryz.prog 286 Tryz.f286 (bodyOf Tryz.f286) := ⟨Tryz.func286, rfl, by kernel_rfl⟩
theorem F287 : Fun Tryz.prog 287 Tryz.f287 (bodyOf Tryz.f287) := ⟨Tryz.func287, rfl, by kernel_rfl⟩
theorem F288 : Fun Tryz.prog 288 Tryz.f288 (bodyOf Tryz.f288) := ⟨Tryz.func288, rfl, by kernel_rfl⟩
theorem F289 : Fun Tryz.prog 289 Tryz.f289 (bodyOf Tryz.f289) := ⟨Tryz.func289, rfl, by kernel_rfl⟩
theorem F290 : Fun Tryz.prog 290 Tryz.f290 (bodyOf Tryz.f290) := ⟨Tryz.func290, rfl, by kernel_rfl⟩
theorem F291 : Fun Tryz.prog 291 Tryz.f291 (bodyOf Tryz.f291) := ⟨Tryz.func291, rfl, by kernel_rfl⟩
theorem F292 : Fun Tryz.prog 292 Tryz.f292 (bodyOf Tryz.f292) := ⟨Tryz.func292, rfl, by kernel_rfl⟩
theorem F293 : Fun Tryz.prog 293 Tryz.f293 (bodyOf Tryz.f293) := ⟨Tryz.func293, rfl, by kernel_rfl⟩
theorem F294 : Fun Tryz.prog 294 Tryz.f294 (bodyOf Tryz.f294) := ⟨Tryz.func294, rfl, by kernel_rfl⟩
theorem F295 : Fun Tryz.prog 295 Tryz.f295 (bodyOf Tryz.f295) := ⟨Tryz.func295, rfl, by kernel_rfl⟩
theorem F296 : Fun Tryz.prog 296 Tryz.f296 (bodyOf Tryz.f296) := ⟨Tryz.func296, rfl, by kernel_rfl⟩
theorem F297 : Fun Tryz.prog 297 Tryz.f297 (bodyOf Tryz.f297) := ⟨Tryz.func297, rfl, by kernel_rfl⟩
theorem F298 : Fun Tryz.prog 298 Tryz.f298 (bodyOf Tryz.f298) := ⟨Tryz.func298, rfl, by kernel_rfl⟩
theorem F299 : Fun Tryz.prog 299 Tryz.f299 (bodyOf Tryz.f299) := ⟨Tryz.func299, rfl, by kernel_rfl⟩
theorem F300 : Fun Tryz.prog 300 Tryz.f300 (bodyOf Tryz.f300) := ⟨Tryz.func300, rfl, by kernel_rfl⟩
theorem F301 : Fun Tryz.prog 301 Tryz.f301 (bodyOf Tryz.f301) := ⟨Tryz.func301, rfl, by kernel_rfl⟩
theorem F302 : Fun Tryz.prog 302 Tryz.f302 (bodyOf Tryz.f302) := ⟨Tryz.func302, rfl, by kernel_rfl⟩
theorem F303 : Fun Tryz.prog 303 Tryz.f303 (bodyOf Tryz.f303) := ⟨Tryz.func303, rfl, by kernel_rfl⟩
theorem F304 : Fun Tryz.prog 304 Tryz.f304 (bodyOf Tryz.f304) := ⟨Tryz.func304, rfl, by kernel_rfl⟩
theorem F305 : Fun Tryz.prog 305 Tryz.f305 (bodyOf Tryz.f305) := ⟨Tryz.func305, rfl, by kernel_rfl⟩
theorem F306 : Fun Tryz.prog 306 Tryz.f306 (bodyOf Tryz.f306) := ⟨Tryz.func306, rfl, by kernel_rfl⟩
theorem F307 : Fun Tryz.prog 307 Tryz.f307 (bodyOf Tryz.f307) := ⟨Tryz.func307, rfl, by kernel_rfl⟩
theorem F308 : Fun Tryz.prog 308 Tryz.f308 (bodyOf Tryz.f308) := ⟨Tryz.func308, rfl, by kernel_rfl⟩
theorem F309 : Fun Tryz.prog 309 Tryz.f309 (bodyOf Tryz.f309) := ⟨Tryz.func309, rfl, by kernel_rfl⟩
theorem F310 : Fun Tryz.prog 310 Tryz.f310 (bodyOf Tryz.f310) := ⟨Tryz.func310, rfl, by kernel_rfl⟩
theorem F311 : Fun Tryz.prog 311 Tryz.f311 (bodyOf Tryz.f311) := ⟨Tryz.func311, rfl, by kernel_rfl⟩
theorem F316 : Fun Tryz.prog 316 Tryz.f316 (bodyOf Tryz.f316) := ⟨Tryz.func316, rfl, by kernel_rfl⟩
theorem F317 : Fun Tryz.prog 317 Tryz.f317 (bodyOf Tryz.f317) := ⟨Tryz.func317, rfl, by kernel_rfl⟩
theorem F318 : Fun Tryz.prog 318 Tryz.f318 (bodyOf Tryz.f318) := ⟨Tryz.func318, rfl, by kernel_rfl⟩
theorem F319 : Fun Tryz.prog 319 Tryz.f319 (bodyOf Tryz.f319) := ⟨Tryz.func319, rfl, by kernel_rfl⟩
theorem F320 : Fun Tryz.prog 320 Tryz.f320 (bodyOf Tryz.f320) := ⟨Tryz.func320, rfl, by kernel_rfl⟩
theorem F321 : Fun Tryz.prog 321 Tryz.f321 (bodyOf Tryz.f321) := ⟨Tryz.func321, rfl, by kernel_rfl⟩
theorem F322 : Fun Tryz.prog 322 Tryz.f322 (bodyOf Tryz.f322) := ⟨Tryz.func322, rfl, by kernel_rfl⟩
theorem F327 : Fun Tryz.prog 327 Tryz.f327 (bodyOf Tryz.f327) := ⟨Tryz.func327, rfl, by kernel_rfl⟩
theorem F329 : Fun Tryz.prog 329 Tryz.f329 (bodyOf Tryz.f329) := ⟨Tryz.func329, rfl, by kernel_rfl⟩
theorem F330 : Fun Tryz.prog 330 Tryz.f330 (bodyOf Tryz.f330) := ⟨Tryz.func330, rfl, by kernel_rfl⟩
theorem F331 : Fun Tryz.prog 331 Tryz.f331 (bodyOf Tryz.f331) := ⟨Tryz.func331, rfl, by kernel_rfl⟩
theorem F332 : Fun Tryz.prog 332 Tryz.f332 (bodyOf Tryz.f332) := ⟨Tryz.func332, rfl, by kernel_rfl⟩
theorem F333 : Fun Tryz.prog 333 Tryz.f333 (bodyOf Tryz.f333) := ⟨Tryz.func333, rfl, by kernel_rfl⟩
theorem F338 : Fun Tryz.prog 338 Tryz.f338 (bodyOf Tryz.f338) := ⟨Tryz.func338, rfl, by kernel_rfl⟩
theorem F339 : Fun Tryz.prog 339 Tryz.f339 (bodyOf Tryz.f339) := ⟨Tryz.func339, rfl, by kernel_rfl⟩
theorem F340 : Fun Tryz.prog 340 Tryz.f340 (bodyOf Tryz.f340) := ⟨Tryz.func340, rfl, by kernel_rfl⟩
theorem F343 : Fun Tryz.prog 343 Tryz.f343 (bodyOf Tryz.f343) := ⟨Tryz.func343, rfl, by kernel_rfl⟩
theorem F344 : Fun Tryz.prog 344 Tryz.f344 (bodyOf Tryz.f344) := ⟨Tryz.func344, rfl, by kernel_rfl⟩
theorem F345 : Fun Tryz.prog 345 Tryz.f345 (bodyOf Tryz.f345) := ⟨Tryz.func345, rfl, by kernel_rfl⟩
theorem F346 : Fun Tryz.prog 346 Tryz.f346 (bodyOf Tryz.f346) := ⟨Tryz.func346, rfl, by kernel_rfl⟩
theorem F347 : Fun Tryz.prog 347 Tryz.f347 (bodyOf Tryz.f347) := ⟨Tryz.func347, rfl, by kernel_rfl⟩
theorem F357 : Fun Tryz.prog 357 Tryz.f357 (bodyOf Tryz.f357) := ⟨Tryz.func357, rfl, by kernel_rfl⟩
theorem F384 : Fun Tryz.prog 384 Tryz.f384 (bodyOf Tryz.f384) := ⟨Tryz.func384, rfl, by kernel_rfl⟩
theorem F385 : Fun Tryz.prog 385 Tryz.f385 (bodyOf Tryz.f385) := ⟨Tryz.func385, rfl, by kernel_rfl⟩
theorem F386 : Fun Tryz.prog 386 Tryz.f386 (bodyOf Tryz.f386) := ⟨Tryz.func386, rfl, by kernel_rfl⟩
theorem F387 : Fun Tryz.prog 387 Tryz.f387 (bodyOf Tryz.f387) := ⟨Tryz.func387, rfl, by kernel_rfl⟩
theorem rg {F : Fr} {n : Nat} {B : Exit → Act → World → Prop} {bn : List Nat} {hbn : ∀ k, F.k0 k ≠ .new → k ∈ bn} {k : List KI} {s : SS} (h : exec ⟨Tryz.prog, Γ.toTy, F, n, B, bn, hbn⟩ Γ 400 k s) : G ⟨Tryz.prog, Γ.toTy, F, n, B, bn, hbn⟩ k s := rG Γ hm h
theorem rd {F : Fr} {n : Nat} {B : Exit → Act → World → Prop} {bn : List Nat} {hbn : ∀ k, F.k0 k ≠ .new → k ∈ bn} {k : List KI} {s : SS} {all : Array Oper} {done : List Stp} {rest : List Oper} (hs : all.toList = done.map (·.o) ++ rest) (h : execD ⟨Tryz.prog, Γ.toTy, F, n, B, bn, hbn⟩ Γ 400 k all done rest s) : DR ⟨Tryz.prog, Γ.toTy, F, n, B, bn, hbn⟩ k all done rest s := rD Γ hm hs h
end Go.Sy.YtmelpejjondedaaGreat

namespace Go.Sy.YtmelpejjondedaaGreat
open Go.Proofs
structure Device where
  (row prio : Int) (name : ByteArray) (mac vtep : Int)
structure Port where
  (row dev native cost link : Int) (name : ByteArray) (tagged : List Int)
structure Link where
  (row a b : Int)
structure Domain where
  (dev vlan vni irb row : Int) (peers : List Int)
structure Static where
  (row domain port mac : Int)
structure Flood where
  (row dev vni : Int) (addrs : List Int)
structure Vrf where
  (row dev : Int) (name : ByteArray) (imports exports : List Int)
structure Irb where
  (row domain vrf addr bits : Int)
structure Net where
  (devices : List Device) (ports : List Port) (links : List Link) (domains : List Domain) (statics : List Static) (floods : List Flood) (vrfs : List Vrf) (irbs : List Irb)
def deviceSV (d : Device) : SV := .agg [intSV d.row, intSV d.prio, strSV d.name, u64SV d.mac, u32SV d.vtep]
def portSV (p : Port) : SV := .agg [intSV p.row, intSV p.dev, intSV p.native, intSV p.cost, intSV p.link, strSV p.name, .sl 1 intSV p.tagged]
def linkSV (l : Link) : SV := .agg [intSV l.row, intSV l.a, intSV l.b]
def domainSV (d : Domain) : SV := .agg [intSV d.dev, intSV d.vlan, intSV d.vni, intSV d.irb, intSV d.row, .sl 1 intSV d.peers]
def staticSV (s : Static) : SV := .agg [intSV s.row, intSV s.domain, intSV s.port, u64SV s.mac]
def floodSV (f : Flood) : SV := .agg [intSV f.row, intSV f.dev, intSV f.vni, .sl 1 u32SV f.addrs]
def vrfSV (v : Vrf) : SV := .agg [intSV v.row, intSV v.dev, strSV v.name, .sl 1 intSV v.imports, .sl 1 intSV v.exports]
def irbSV (i : Irb) : SV := .agg [intSV i.row, intSV i.domain, intSV i.vrf, u32SV i.addr, intSV i.bits]
def netL (n : Net) : List SV := [.sl 5 deviceSV n.devices, .sl 7 portSV n.ports, .sl 3 linkSV n.links, .sl 6 domainSV n.domains, .sl 4 staticSV n.statics, .sl 4 floodSV n.floods, .sl 5 vrfSV n.vrfs, .sl 5 irbSV n.irbs]
def netSV (n : Net) : SV := .agg [.sl 5 deviceSV n.devices, .sl 7 portSV n.ports, .sl 3 linkSV n.links, .sl 6 domainSV n.domains, .sl 4 staticSV n.statics, .sl 4 floodSV n.floods, .sl 5 vrfSV n.vrfs, .sl 5 irbSV n.irbs]
instance : Inhabited Device := ⟨⟨0, 0, .empty, 0, 0⟩⟩
instance : Inhabited Port := ⟨⟨0, 0, 0, 0, 0, .empty, []⟩⟩
instance : Inhabited Link := ⟨⟨0, 0, 0⟩⟩
instance : Inhabited Domain := ⟨⟨0, 0, 0, 0, 0, []⟩⟩
instance : Inhabited Static := ⟨⟨0, 0, 0, 0⟩⟩
instance : Inhabited Flood := ⟨⟨0, 0, 0, []⟩⟩
instance : Inhabited Vrf := ⟨⟨0, 0, .empty, [], []⟩⟩
instance : Inhabited Irb := ⟨⟨0, 0, 0, 0, 0⟩⟩
def placeB (i : Int) (n : Nat) : Bool := decide (0 ≤ i) && decide (i < n)
def inB (l : List Int) (x : Int) : Bool := l.any (· == x)
def nth {α : Type} [Inhabited α] (l : List α) (i : Int) : α := (l[i.toNat]?).getD default
theorem nth_eq {α : Type} [Inhabited α] {l : List α} {i : Int} (h : i.toNat < l.length) : nth l i = l[i.toNat] := by
  simp [nth, h]
def idxI {α : Type} (p : α → Bool) (l : List α) : Int := match l.findIdx? p with | some i => (i : Int) | none => -1
theorem idxI_found {α : Type} {p : α → Bool} {l : List α} {j : Nat} (h : j < l.length) (h1 : ∀ i (hi : i < l.length), i < j → p l[i] = false) (h2 : p l[j] = true) : idxI p l = j := by
  have : l.findIdx? p = some j := by
    rw [List.findIdx?_eq_some_iff_getElem]
    exact ⟨h, h2, fun i hi => by simp [h1 i (by omega) hi]⟩
  simp [idxI, this]
theorem idxI_none {α : Type} {p : α → Bool} {l : List α} (h1 : ∀ i (hi : i < l.length), p l[i] = false) : idxI p l = -1 := by
  have : l.findIdx? p = none := by
    rw [List.findIdx?_eq_none_iff]
    intro x hx
    obtain ⟨i, hi, rfl⟩ := List.mem_iff_getElem.1 hx
    exact h1 i hi
  simp [idxI, this]
theorem idxI_lt {α : Type} (p : α → Bool) (l : List α) : idxI p l < l.length := by
  unfold idxI
  split
  · rename_i i h
    rw [List.findIdx?_eq_some_iff_getElem] at h
    obtain ⟨h, _⟩ := h
    omega
  · omega
theorem idxI_any {α : Type} (p : α → Bool) (l : List α) : decide (0 ≤ idxI p l) = l.any p := by
  unfold idxI
  split
  · rename_i i h
    rw [List.findIdx?_eq_some_iff_getElem] at h
    obtain ⟨h, h2, _⟩ := h
    have : l.any p = true := List.any_eq_true.2 ⟨_, List.getElem_mem h, h2⟩
    rw [this]
    simp
  · rename_i h
    rw [List.findIdx?_eq_none_iff] at h
    have : l.any p = false := by
      rw [List.any_eq_false]
      intro x hx
      simp [h x hx]
    rw [this]
    simp
def allB {α : Type} (p : Nat → α → Bool) (l : List α) : Bool := l.zipIdx.all fun q => p q.2 q.1
theorem allB_iff {α : Type} {p : Nat → α → Bool} {l : List α} : allB p l = true ↔ ∀ i (h : i < l.length), p i l[i] = true := by
  simp only [allB, List.all_eq_true]
  constructor
  · intro h i hi
    exact h (l[i], i) (by rw [List.mk_mem_zipIdx_iff_getElem?]; simp [hi])
  · rintro h ⟨x, i⟩ hx
    rw [List.mk_mem_zipIdx_iff_getElem?] at hx
    obtain ⟨hi, rfl⟩ := List.getElem?_eq_some_iff.1 hx
    exact h i hi
theorem allB_true {α : Type} {p : Nat → α → Bool} {l : List α} (h : ∀ i (h : i < l.length), p i l[i] = true) : allB p l = true := allB_iff.2 h
theorem allB_false {α : Type} {p : Nat → α → Bool} {l : List α} {i : Nat} (h : i < l.length) (h1 : p i l[i] = false) : allB p l = false := by
  cases hh : allB p l with
  | false => rfl
  | true => have := allB_iff.1 hh i h; rw [h1] at this; cases this
def Upto {α : Type} (p : Nat → α → Bool) (l : List α) (j : Nat) : Prop := ∀ i (h : i < l.length), i < j → p i l[i] = true
theorem upto_zero {α : Type} (p : Nat → α → Bool) (l : List α) : Upto p l 0 := fun i h hj => absurd hj (by omega)
theorem upto_next {α : Type} {p : Nat → α → Bool} {l : List α} {j : Nat} (hI : Upto p l j) (hj : j < l.length) (h : p j l[j] = true) : Upto p l (j + 1) := by
  intro i hi hij
  rcases Nat.lt_or_ge i j with h1 | h1
  · exact hI i hi h1
  · have : i = j := by omega
    subst this
    exact h
theorem upto_all {α : Type} {p : Nat → α → Bool} {l : List α} {j : Nat} (hI : Upto p l j) (hj : l.length ≤ j) : allB p l = true := allB_true fun i hi => hI i hi (by omega)
def Short {α : Type} (l : List α) : Prop := l.length < 2147483648
end Go.Sy.YtmelpejjondedaaGreat

namespace Go.Sy.YtmelpejjondedaaGreat
open Go.Proofs
attribute [local irreducible] Go.Sy.G Go.Sy.DR
set_option maxRecDepth 100000
set_option maxHeartbeats 4000000
theorem shiftS (i : Int) (h0 : 0 ≤ i) (h5 : i ≤ 5) : Sy.Spec Tryz.prog 132 [intSV i] [] (u64SV (8 * (5 - i))) [] := contract Γ hm 100 F132 Tryz.ntmps132 rfl fun F hF => by
  (conv=>whnf)
  refine ⟨by unfold I64; omega, ?_⟩
  (conv=>whnf)
  refine ⟨by unfold I64; omega, ?_⟩
  (conv=>whnf)
  refine done0 rfl (.cons .tmp .nil) (congrArg (fun z => SV.val (.int .u64 z)) ?_) rfl
  rw [IntKind.wrap_u64]
  omega
def be : Nat → Nat → List UInt8
  | 0, _ => []
  | k + 1, m => UInt8.ofNat (m / 256 ^ k) :: be k m
theorem be_length (m : Nat) : ∀ k, (be k m).length = k
  | 0 => rfl
  | k + 1 => by simp [be, be_length m k]
theorem be_take (m : Nat) : ∀ (k j : Nat) (h : j < k), (be k m).take (j + 1) = (be k m).take j ++ [UInt8.ofNat (m / 256 ^ (k - 1 - j))]
  | 0, j, h => by omega
  | k + 1, 0, h => by simp [be]
  | k + 1, j + 1, h => by
    have := be_take m k j (by omega)
    simp only [be, List.take_succ_cons, List.cons_append, this]
    rw [show k + 1 - 1 - (j + 1) = k - 1 - j by omega]
theorem shr_byte (m k : Nat) (hk : k ≤ 7) : IntKind.u8.wrap ((m : Int).fdiv (2 ^ (min (8 * (k : Int)).toNat IntKind.u64.bits))) = ((UInt8.ofNat (m / 256 ^ k)).toNat : Int) := by
  have h1 : min (8 * (k : Int)).toNat IntKind.u64.bits = 8 * k := by simp [IntKind.bits]; omega
  rw [h1, Int.fdiv_eq_ediv_of_nonneg _ (by exact Int.pow_nonneg (by decide)), IntKind.wrap_u8]
  have h2 : (2 : Int) ^ (8 * k) = ((256 ^ k : Nat) : Int) := by rw [Int.pow_mul]; simp
  rw [h2]
  simp
theorem put2 (l : List UInt8) (hl : l.length < 1000000) (m : Nat) : Sy.Spec Tryz.prog 72 [.osl 0, u64SV m] [(0, .row 1 byteSV l)] (.osl 1) [(0, .non), (1, .row 1 byteSV (l ++ be 6 m))] := contract Γ hm 100 F72 Tryz.ntmps72 rfl fun F hF => by
  (conv=>whnf)
  refine G_move 0 1 [0] rfl rfl (by decide) (by simp; rfl) ?_
  refine G_count 6 (fun j => [(0, .osl 1), (1, u64SV m), (6, intSV j)]) (fun j => [(0, .non), (1, .row 1 byteSV (l ++ (be 6 m).take j))]) [(0, 0), (1, 1)] ⟨⟨rfl, rfl, rfl, rfl, rfl, rfl, trivial⟩, ⟨.inl rfl, rfl, .inl (congrArg (Ob.row 1 byteSV) (List.append_nil l)), rfl, trivial⟩, rfl, rfl⟩ ?_
  intro j hj
  (refine rg ?_;(conv=>whnf))
  refine ⟨fun h => ?_, fun h => ?_⟩
  · have hlt : j < 6 := by have := of_decide_eq_true h; omega
    (refine rg ?_;(conv=>whnf))
    refine call0 (shiftS j (by omega) (by omega)) F132 rfl rfl rfl rfl rfl ?_
    (refine rg ?_;(conv=>whnf))
    refine ⟨by omega, ?_⟩
    (conv=>whnf)
    refine stepOp (good_appendT Γ.toTy 16 rfl rfl rfl rfl rfl (.row rfl) (.lit (l := [UInt8.ofNat (m / 256 ^ (5 - j))]) rfl ?_) (by simp) ?_ ?_) rfl rfl ?_
    · have := shr_byte m (5 - j) (by omega)
      rw [show ((5 - j : Nat) : Int) = 5 - (j : Int) by omega] at this
      simp only [List.map_cons, List.map_nil, byteSV, ← this]
    · simp [be_length]; omega
    · simp [be_length]; omega
    (refine rg ?_;(conv=>whnf))
    refine ⟨by unfold I64; omega, ?_⟩
    (conv=>whnf)
    exact G_next [(0, 0), (1, 16)] hlt ⟨⟨rfl, rfl, rfl, rfl, rfl, rfl, trivial⟩, ⟨.inl rfl, rfl, .inl (congrArg (Ob.row 1 byteSV) (by rw [be_take _ _ _ hlt, List.append_assoc])), rfl, trivial⟩, rfl, rfl⟩
  · have : j = 6 := by have := of_decide_eq_false h; omega
    subst this
    (refine rg ?_;(conv=>whnf))
    exact done rfl (.cons .tmp .nil) [(0, 0), (1, 1)] _ (fun _ h => h) rfl rfl ⟨trivial, ⟨.inl rfl, rfl, .inl rfl, rfl, trivial⟩, rfl, rfl⟩
theorem put2n (m : Nat) : Sy.Spec Tryz.prog 72 [.val (.slice none 0 0), u64SV m] [] (.osl 0) [(0, .row 1 byteSV (be 6 m))] := contract Γ hm 100 F72 Tryz.ntmps72 rfl fun F hF => by
  (conv=>whnf)
  refine G_adopt 0 1000 1 byteSV rfl rfl ?_
  refine G_count 6 (fun j => [(0, .osl 1000), (1, u64SV m), (6, intSV j)]) (fun j => [(1000, .row 1 byteSV ((be 6 m).take j))]) [] ⟨⟨rfl, rfl, rfl, rfl, rfl, rfl, trivial⟩, ⟨.inl rfl, rfl, trivial⟩, rfl, rfl⟩ ?_
  intro j hj
  (refine rg ?_;(conv=>whnf))
  refine ⟨fun h => ?_, fun h => ?_⟩
  · have hlt : j < 6 := by have := of_decide_eq_true h; omega
    (refine rg ?_;(conv=>whnf))
    refine call0 (shiftS j (by omega) (by omega)) F132 rfl rfl rfl rfl rfl ?_
    (refine rg ?_;(conv=>whnf))
    refine ⟨by omega, ?_⟩
    (conv=>whnf)
    refine stepOp (good_appendT Γ.toTy 16 rfl rfl rfl rfl rfl (.row rfl) (.lit (l := [UInt8.ofNat (m / 256 ^ (5 - j))]) rfl ?_) (by simp) ?_ ?_) rfl rfl ?_
    · have := shr_byte m (5 - j) (by omega)
      rw [show ((5 - j : Nat) : Int) = 5 - (j : Int) by omega] at this
      simp only [List.map_cons, List.map_nil, byteSV, ← this]
    · simp [be_length]; omega
    · simp [be_length]; omega
    (refine rg ?_;(conv=>whnf))
    refine ⟨by unfold I64; omega, ?_⟩
    (conv=>whnf)
    exact G_next [(1000, 16)] hlt ⟨⟨rfl, rfl, rfl, rfl, rfl, rfl, trivial⟩, ⟨.inl (congrArg (Ob.row 1 byteSV) (be_take _ _ _ hlt)), rfl, trivial⟩, rfl, rfl⟩
  · have : j = 6 := by have := of_decide_eq_false h; omega
    subst this
    (refine rg ?_;(conv=>whnf))
    exact done rfl (.cons .tmp .nil) [(0, 1000)] _ (fun _ h => h) rfl rfl ⟨trivial, ⟨.inl rfl, rfl, trivial⟩, rfl, rfl⟩
def frSV (d s : Nat) (t : Int) (body : List UInt8) : SV := .agg [u64SV d, u64SV s, intSV t, .sl 1 byteSV body]
def frame (d s t : Nat) (body : List UInt8) : List UInt8 := be 6 d ++ be 6 s ++ [UInt8.ofNat (t / 256), UInt8.ofNat t] ++ body
theorem two_bytes (t : Nat) : [UInt8.ofNat (t / 256), UInt8.ofNat t].map byteSV = [SV.val (.int .u8 (IntKind.u8.wrap ((t : Int).fdiv (2 ^ (min (Int.toNat 8) IntKind.i64.bits))))), SV.val (.int .u8 (IntKind.u8.wrap (t : Int)))] := by
  have h1 : IntKind.u8.wrap ((t : Int).fdiv (2 ^ (min (Int.toNat 8) IntKind.i64.bits))) = ((UInt8.ofNat (t / 256)).toNat : Int) := by
    show IntKind.u8.wrap ((t : Int).fdiv 256) = _
    rw [Int.fdiv_eq_ediv_of_nonneg _ (by decide), IntKind.wrap_u8]
    simp
  have h2 : IntKind.u8.wrap (t : Int) = ((UInt8.ofNat t).toNat : Int) := by
    rw [IntKind.wrap_u8]
    simp
  rw [h1, h2]
  rfl
theorem etherPut_ok (d s t : Nat) (body : List UInt8) (hd : d < 281474976710656) (hs : s < 281474976710656) (ht : t ≤ 65535) (hb : body.length ≤ 1504) : Sy.Spec Tryz.prog 33 [frSV d s t body] [] (.tup [.osl 0, intSV 0]) [(0, .row 1 byteSV (frame d s t body))] := contract Γ hm 100 F33 Tryz.ntmps33 rfl fun F hF => by
  (conv=>whnf)
  refine ⟨fun h => absurd (of_decide_eq_true h) (by omega), fun _ => ?_⟩
  (refine rg ?_;(conv=>whnf))
  refine ⟨fun h => absurd (of_decide_eq_true h) (by omega), fun _ => ?_⟩
  (refine rg ?_;(conv=>whnf);refine aF ?_;refine rg ?_;(conv=>whnf))
  refine ⟨fun h => absurd (of_decide_eq_true h) (by omega), fun _ => ?_⟩
  (refine rg ?_;(conv=>whnf))
  refine ⟨fun h => absurd (of_decide_eq_true h) (by omega), fun _ => ?_⟩
  (refine rg ?_;(conv=>whnf))
  refine stepD (good_call [(0, 31)] rfl F72 (put2n d) rfl trivial rfl ⟨.inr rfl, trivial⟩) (by kernel_rfl) rfl ?_
  (refine rd (by kernel_rfl) ?_;(conv=>whnf))
  refine stepD (good_call [(0, 31), (1, 34)] rfl F72 (put2 (be 6 d) (by simp [be_length]) s) rfl ⟨rfl, trivial⟩ rfl ⟨.inl rfl, .inr rfl, trivial⟩) (by kernel_rfl) rfl ?_
  (refine rd (by kernel_rfl) ?_;(conv=>whnf))
  refine ⟨by kernel_rfl, ?_⟩
  (conv=>whnf)
  refine ⟨by decide, ?_⟩
  (conv=>whnf)
  refine stepD (good_appendT Γ.toTy 44 rfl rfl rfl rfl rfl (.row rfl) (.lit (l := [UInt8.ofNat (t / 256), UInt8.ofNat t]) rfl (two_bytes t)) (by decide) ?_ ?_) (by kernel_rfl) rfl ?_
  · simp [be_length]
  · simp [be_length]
  (refine rd (by kernel_rfl) ?_;(conv=>whnf))
  refine stepD (good_appendT Γ.toTy 47 rfl rfl rfl rfl rfl (.row rfl) .sl (by decide) ?_ ?_) (by kernel_rfl) rfl ?_
  · simp [be_length]; omega
  · simp [be_length]; omega
  (refine rd (by kernel_rfl) ?_;(conv=>whnf))
  refine ⟨by kernel_rfl, ?_⟩
  (conv=>whnf)
  exact done rfl (.cons .tmp (.cons .tmp .nil)) [(0, 47)] _ (fun _ h => h) rfl rfl ⟨trivial, ⟨.inl rfl, rfl, trivial⟩, rfl, rfl⟩
end Go.Sy.YtmelpejjondedaaGreat

namespace Go.Sy.YtmelpejjondedaaGreat
structure FrameM where
  dst : Nat
  src : Nat
  typ : Nat
  body : List UInt8
def frameSV (f : FrameM) : SV := frSV f.dst f.src f.typ f.body
structure StepM where
  kind : Int
  port : Int
  domain : Int
  at_ : Int
  bytes : List UInt8
  up : List Bool
def stepSV (x : StepM) : SV := .agg [intSV x.kind, intSV x.port, intSV x.domain, intSV x.at_, .sl 1 byteSV x.bytes, .sl 1 boolSV x.up]
structure SeenM where
  port : Int
  origin : Int
  bytes : List UInt8
def seenSV (x : SeenM) : SV := .agg [intSV x.port, intSV x.origin, .sl 1 byteSV x.bytes]
def hostN (ip : Int) : Nat := 2199023255552 + ip.toNat
def foldN (n : Nat) : Nat := if n = 0 then 0 else (n - 1) % 65535 + 1
end Go.Sy.YtmelpejjondedaaGreat

namespace Go.Sy.YtmelpejjondedaaGreat
theorem getD_r {α : Type} {l : List α} {i : Nat} {d : α} (h : i < l.length) : l.getD i d = l[i] := by simp [List.getD, h]
theorem foldN_small {n : Nat} (h : n ≤ 65535) : foldN n = n := by
  unfold foldN
  split <;> omega
theorem foldN_step {n : Nat} (h : 65535 < n) : foldN (n / 65536 + n % 65536) = foldN n ∧ n / 65536 + n % 65536 < n := by
  unfold foldN
  rw [if_neg (by omega), if_neg (by omega)]
  omega
theorem foldN_le (n : Nat) : foldN n ≤ 65535 := by
  unfold foldN
  split <;> omega
def wsum (l : List UInt8) : Nat → Nat
  | 0 => 0
  | j + 1 => wsum l j + ((l.getD (2 * j) 0).toNat * 256 + (l.getD (2 * j + 1) 0).toNat)
theorem wsum_le (l : List UInt8) : ∀ j, wsum l j ≤ 65535 * j
  | 0 => Nat.le_refl _
  | j + 1 => by
    have ih := wsum_le l j
    have h1 := (l.getD (2 * j) 0).toNat_lt
    have h2 := (l.getD (2 * j + 1) 0).toNat_lt
    rw [wsum]
    omega
def sumOf (l : List UInt8) : Nat := 65535 - foldN (wsum l (l.length / 2))
end Go.Sy.YtmelpejjondedaaGreat
