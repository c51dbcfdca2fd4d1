/-
  The types' table of this seat's program, and its functions' own facts. Written by program (gentypes.py). Nets: what a net's value reads as. Contracts: places, lists. Contracts: lists asked by a function.
-/
import Derived.Test.YtlfopmhekhifoaaGreatDoorC4
import Derived.Test.YtlfopmhekhifoaaGreatDoorProg

namespace Go.Sy.YtlfopmhekhifoaaGreatDoor
open Go.Proofs

set_option maxRecDepth 100000

theorem ty1 : tiOf Tryz.prog 1 = some ⟨.func, 1, [.nilFunc]⟩ := by kernel_rfl
theorem ty2 : tiOf Tryz.prog 2 = some ⟨.int .i64, 1, [.int .i64 0]⟩ := by kernel_rfl
theorem ty3 : tiOf Tryz.prog 3 = some ⟨.int .i64, 1, [.int .i64 0]⟩ := by kernel_rfl
theorem ty4 : tiOf Tryz.prog 4 = some ⟨.bool, 1, [.bool false]⟩ := by kernel_rfl
theorem ty5 : tiOf Tryz.prog 5 = some ⟨.int .u8, 1, [.int .u8 0]⟩ := by kernel_rfl
theorem ty7 : tiOf Tryz.prog 7 = some ⟨.struct [(0, 1), (1, 1), (2, 1), (3, 1)], 4, [.int .i64 0, .int .i64 0, .bool false, .int .u8 0]⟩ := by kernel_rfl
theorem ty9 : tiOf Tryz.prog 9 = some ⟨.string, 1, [.string .empty]⟩ := by kernel_rfl
theorem ty12 : tiOf Tryz.prog 12 = some ⟨.int .u64, 1, [.int .u64 0]⟩ := by kernel_rfl
theorem ty13 : tiOf Tryz.prog 13 = some ⟨.struct [(0, 1), (1, 1)], 2, [.string .empty, .int .u64 0]⟩ := by kernel_rfl
theorem ty15 : tiOf Tryz.prog 15 = some ⟨.ptr, 1, [.pointer none]⟩ := by kernel_rfl
theorem ty16 : tiOf Tryz.prog 16 = some ⟨.ptr, 1, [.pointer none]⟩ := by kernel_rfl
theorem ty17 : tiOf Tryz.prog 17 = some ⟨.ptr, 1, [.pointer none]⟩ := by kernel_rfl
theorem ty18 : tiOf Tryz.prog 18 = some ⟨.struct [(0, 1)], 1, [.pointer none]⟩ := by kernel_rfl
theorem ty20 : tiOf Tryz.prog 20 = some ⟨.iface, 1, [.nilIface]⟩ := by kernel_rfl
theorem ty21 : tiOf Tryz.prog 21 = some ⟨.int .i32, 1, [.int .i32 0]⟩ := by kernel_rfl
theorem ty22 : tiOf Tryz.prog 22 = some ⟨.slice 49 5 48 [.int .i64 0, .int .i64 0, .string .empty, .int .u64 0, .int .u32 0], 1, [.slice none 0 0]⟩ := by kernel_rfl
theorem ty23 : tiOf Tryz.prog 23 = some ⟨.slice 52 7 80 [.int .i64 0, .int .i64 0, .int .i64 0, .int .i64 0, .int .i64 0, .string .empty, .slice none 0 0], 1, [.slice none 0 0]⟩ := by kernel_rfl
theorem ty24 : tiOf Tryz.prog 24 = some ⟨.slice 88 3 24 [.int .i64 0, .int .i64 0, .int .i64 0], 1, [.slice none 0 0]⟩ := by kernel_rfl
theorem ty25 : tiOf Tryz.prog 25 = some ⟨.slice 54 6 64 [.int .i64 0, .int .i64 0, .int .i64 0, .int .i64 0, .int .i64 0, .slice none 0 0], 1, [.slice none 0 0]⟩ := by kernel_rfl
theorem ty26 : tiOf Tryz.prog 26 = some ⟨.slice 92 4 32 [.int .i64 0, .int .i64 0, .int .i64 0, .int .u64 0], 1, [.slice none 0 0]⟩ := by kernel_rfl
theorem ty27 : tiOf Tryz.prog 27 = some ⟨.slice 77 4 48 [.int .i64 0, .int .i64 0, .int .i64 0, .slice none 0 0], 1, [.slice none 0 0]⟩ := by kernel_rfl
theorem ty28 : tiOf Tryz.prog 28 = some ⟨.slice 79 5 80 [.int .i64 0, .int .i64 0, .string .empty, .slice none 0 0, .slice none 0 0], 1, [.slice none 0 0]⟩ := by kernel_rfl
theorem ty29 : tiOf Tryz.prog 29 = some ⟨.slice 104 5 40 [.int .i64 0, .int .i64 0, .int .i64 0, .int .u32 0, .int .i64 0], 1, [.slice none 0 0]⟩ := by kernel_rfl
theorem ty30 : tiOf Tryz.prog 30 = some ⟨.struct [(0, 1), (1, 1), (2, 1), (3, 1), (4, 1), (5, 1), (6, 1), (7, 1)], 8, [.slice none 0 0, .slice none 0 0, .slice none 0 0, .slice none 0 0, .slice none 0 0, .slice none 0 0, .slice none 0 0, .slice none 0 0]⟩ := by kernel_rfl
theorem ty31 : tiOf Tryz.prog 31 = some ⟨.struct [(0, 1), (1, 1), (2, 1), (3, 1), (4, 1), (5, 1), (6, 1), (7, 1)], 8, [.slice none 0 0, .slice none 0 0, .slice none 0 0, .slice none 0 0, .slice none 0 0, .slice none 0 0, .slice none 0 0, .slice none 0 0]⟩ := by kernel_rfl
theorem ty32 : tiOf Tryz.prog 32 = some ⟨.func, 1, [.nilFunc]⟩ := by kernel_rfl
theorem ty33 : tiOf Tryz.prog 33 = some ⟨.func, 1, [.nilFunc]⟩ := by kernel_rfl
theorem ty34 : tiOf Tryz.prog 34 = some ⟨.slice 9 1 16 [.string .empty], 1, [.slice none 0 0]⟩ := by kernel_rfl
theorem ty35 : tiOf Tryz.prog 35 = some ⟨.int .i64, 1, [.int .i64 0]⟩ := by kernel_rfl
theorem ty37 : tiOf Tryz.prog 37 = some ⟨.func, 1, [.nilFunc]⟩ := by kernel_rfl
theorem ty39 : tiOf Tryz.prog 39 = some ⟨.func, 1, [.nilFunc]⟩ := by kernel_rfl
theorem ty40 : tiOf Tryz.prog 40 = some ⟨.func, 1, [.nilFunc]⟩ := by kernel_rfl
theorem ty41 : tiOf Tryz.prog 41 = some ⟨.func, 1, [.nilFunc]⟩ := by kernel_rfl
theorem ty42 : tiOf Tryz.prog 42 = some ⟨.func, 1, [.nilFunc]⟩ := by kernel_rfl
theorem ty43 : tiOf Tryz.prog 43 = some ⟨.func, 1, [.nilFunc]⟩ := by kernel_rfl
theorem ty45 : tiOf Tryz.prog 45 = some ⟨.func, 1, [.nilFunc]⟩ := by kernel_rfl
theorem ty46 : tiOf Tryz.prog 46 = some ⟨.int .u64, 1, [.int .u64 0]⟩ := by kernel_rfl
theorem ty47 : tiOf Tryz.prog 47 = some ⟨.int .u32, 1, [.int .u32 0]⟩ := by kernel_rfl
theorem ty48 : tiOf Tryz.prog 48 = some ⟨.struct [(0, 1), (1, 1), (2, 1), (3, 1), (4, 1)], 5, [.int .i64 0, .int .i64 0, .string .empty, .int .u64 0, .int .u32 0]⟩ := by kernel_rfl
theorem ty49 : tiOf Tryz.prog 49 = some ⟨.struct [(0, 1), (1, 1), (2, 1), (3, 1), (4, 1)], 5, [.int .i64 0, .int .i64 0, .string .empty, .int .u64 0, .int .u32 0]⟩ := by kernel_rfl
theorem ty50 : tiOf Tryz.prog 50 = some ⟨.slice 3 1 8 [.int .i64 0], 1, [.slice none 0 0]⟩ := by kernel_rfl
theorem ty51 : tiOf Tryz.prog 51 = some ⟨.struct [(0, 1), (1, 1), (2, 1), (3, 1), (4, 1), (5, 1), (6, 1)], 7, [.int .i64 0, .int .i64 0, .int .i64 0, .int .i64 0, .int .i64 0, .string .empty, .slice none 0 0]⟩ := by kernel_rfl
theorem ty52 : tiOf Tryz.prog 52 = some ⟨.struct [(0, 1), (1, 1), (2, 1), (3, 1), (4, 1), (5, 1), (6, 1)], 7, [.int .i64 0, .int .i64 0, .int .i64 0, .int .i64 0, .int .i64 0, .string .empty, .slice none 0 0]⟩ := by kernel_rfl
theorem ty53 : tiOf Tryz.prog 53 = some ⟨.struct [(0, 1), (1, 1), (2, 1), (3, 1), (4, 1), (5, 1)], 6, [.int .i64 0, .int .i64 0, .int .i64 0, .int .i64 0, .int .i64 0, .slice none 0 0]⟩ := by kernel_rfl
theorem ty54 : tiOf Tryz.prog 54 = some ⟨.struct [(0, 1), (1, 1), (2, 1), (3, 1), (4, 1), (5, 1)], 6, [.int .i64 0, .int .i64 0, .int .i64 0, .int .i64 0, .int .i64 0, .slice none 0 0]⟩ := by kernel_rfl
theorem ty55 : tiOf Tryz.prog 55 = some ⟨.slice 60 4 32 [.int .i64 0, .int .i64 0, .int .i64 0, .int .u32 0], 1, [.slice none 0 0]⟩ := by kernel_rfl
theorem ty57 : tiOf Tryz.prog 57 = some ⟨.func, 1, [.nilFunc]⟩ := by kernel_rfl
theorem ty58 : tiOf Tryz.prog 58 = some ⟨.func, 1, [.nilFunc]⟩ := by kernel_rfl
theorem ty59 : tiOf Tryz.prog 59 = some ⟨.struct [(0, 1), (1, 1), (2, 1), (3, 1)], 4, [.int .i64 0, .int .i64 0, .int .i64 0, .int .u32 0]⟩ := by kernel_rfl
theorem ty60 : tiOf Tryz.prog 60 = some ⟨.struct [(0, 1), (1, 1), (2, 1), (3, 1)], 4, [.int .i64 0, .int .i64 0, .int .i64 0, .int .u32 0]⟩ := by kernel_rfl
theorem ty61 : tiOf Tryz.prog 61 = some ⟨.func, 1, [.nilFunc]⟩ := by kernel_rfl
theorem ty62 : tiOf Tryz.prog 62 = some ⟨.slice 65 4 32 [.int .i64 0, .int .i64 0, .int .i64 0, .int .u32 0], 1, [.slice none 0 0]⟩ := by kernel_rfl
theorem ty64 : tiOf Tryz.prog 64 = some ⟨.func, 1, [.nilFunc]⟩ := by kernel_rfl
theorem ty65 : tiOf Tryz.prog 65 = some ⟨.struct [(0, 1), (1, 1), (2, 1), (3, 1)], 4, [.int .i64 0, .int .i64 0, .int .i64 0, .int .u32 0]⟩ := by kernel_rfl
theorem ty66 : tiOf Tryz.prog 66 = some ⟨.func, 1, [.nilFunc]⟩ := by kernel_rfl
theorem ty67 : tiOf Tryz.prog 67 = some ⟨.func, 1, [.nilFunc]⟩ := by kernel_rfl
theorem ty68 : tiOf Tryz.prog 68 = some ⟨.ptr, 1, [.pointer none]⟩ := by kernel_rfl
theorem ty69 : tiOf Tryz.prog 69 = some ⟨.struct [(0, 8), (8, 1), (9, 1)], 10, [.slice none 0 0, .slice none 0 0, .slice none 0 0, .slice none 0 0, .slice none 0 0, .slice none 0 0, .slice none 0 0, .slice none 0 0, .int .i64 0, .bool false]⟩ := by kernel_rfl
theorem ty70 : tiOf Tryz.prog 70 = some ⟨.struct [(0, 8), (8, 1), (9, 1)], 10, [.slice none 0 0, .slice none 0 0, .slice none 0 0, .slice none 0 0, .slice none 0 0, .slice none 0 0, .slice none 0 0, .slice none 0 0, .int .i64 0, .bool false]⟩ := by kernel_rfl
theorem ty71 : tiOf Tryz.prog 71 = some ⟨.func, 1, [.nilFunc]⟩ := by kernel_rfl
theorem ty72 : tiOf Tryz.prog 72 = some ⟨.func, 1, [.nilFunc]⟩ := by kernel_rfl
theorem ty73 : tiOf Tryz.prog 73 = some ⟨.func, 1, [.nilFunc]⟩ := by kernel_rfl
theorem ty74 : tiOf Tryz.prog 74 = some ⟨.func, 1, [.nilFunc]⟩ := by kernel_rfl
theorem ty75 : tiOf Tryz.prog 75 = some ⟨.slice 47 1 4 [.int .u32 0], 1, [.slice none 0 0]⟩ := by kernel_rfl
theorem ty76 : tiOf Tryz.prog 76 = some ⟨.struct [(0, 1), (1, 1), (2, 1), (3, 1)], 4, [.int .i64 0, .int .i64 0, .int .i64 0, .slice none 0 0]⟩ := by kernel_rfl
theorem ty77 : tiOf Tryz.prog 77 = some ⟨.struct [(0, 1), (1, 1), (2, 1), (3, 1)], 4, [.int .i64 0, .int .i64 0, .int .i64 0, .slice none 0 0]⟩ := by kernel_rfl
theorem ty78 : tiOf Tryz.prog 78 = some ⟨.struct [(0, 1), (1, 1), (2, 1), (3, 1), (4, 1)], 5, [.int .i64 0, .int .i64 0, .string .empty, .slice none 0 0, .slice none 0 0]⟩ := by kernel_rfl
theorem ty79 : tiOf Tryz.prog 79 = some ⟨.struct [(0, 1), (1, 1), (2, 1), (3, 1), (4, 1)], 5, [.int .i64 0, .int .i64 0, .string .empty, .slice none 0 0, .slice none 0 0]⟩ := by kernel_rfl
theorem ty80 : tiOf Tryz.prog 80 = some ⟨.struct [(0, 8)], 8, [.slice none 0 0, .slice none 0 0, .slice none 0 0, .slice none 0 0, .slice none 0 0, .slice none 0 0, .slice none 0 0, .slice none 0 0]⟩ := by kernel_rfl
theorem ty81 : tiOf Tryz.prog 81 = some ⟨.struct [(0, 8)], 8, [.slice none 0 0, .slice none 0 0, .slice none 0 0, .slice none 0 0, .slice none 0 0, .slice none 0 0, .slice none 0 0, .slice none 0 0]⟩ := by kernel_rfl
theorem ty82 : tiOf Tryz.prog 82 = some ⟨.func, 1, [.nilFunc]⟩ := by kernel_rfl
theorem ty83 : tiOf Tryz.prog 83 = some ⟨.func, 1, [.nilFunc]⟩ := by kernel_rfl
theorem ty84 : tiOf Tryz.prog 84 = some ⟨.func, 1, [.nilFunc]⟩ := by kernel_rfl
theorem ty85 : tiOf Tryz.prog 85 = some ⟨.func, 1, [.nilFunc]⟩ := by kernel_rfl
theorem ty86 : tiOf Tryz.prog 86 = some ⟨.func, 1, [.nilFunc]⟩ := by kernel_rfl
theorem ty87 : tiOf Tryz.prog 87 = some ⟨.struct [(0, 1), (1, 1), (2, 1)], 3, [.int .i64 0, .int .i64 0, .int .i64 0]⟩ := by kernel_rfl
theorem ty88 : tiOf Tryz.prog 88 = some ⟨.struct [(0, 1), (1, 1), (2, 1)], 3, [.int .i64 0, .int .i64 0, .int .i64 0]⟩ := by kernel_rfl
theorem ty89 : tiOf Tryz.prog 89 = some ⟨.func, 1, [.nilFunc]⟩ := by kernel_rfl
theorem ty90 : tiOf Tryz.prog 90 = some ⟨.func, 1, [.nilFunc]⟩ := by kernel_rfl
theorem ty91 : tiOf Tryz.prog 91 = some ⟨.struct [(0, 1), (1, 1), (2, 1), (3, 1)], 4, [.int .i64 0, .int .i64 0, .int .i64 0, .int .u64 0]⟩ := by kernel_rfl
theorem ty92 : tiOf Tryz.prog 92 = some ⟨.struct [(0, 1), (1, 1), (2, 1), (3, 1)], 4, [.int .i64 0, .int .i64 0, .int .i64 0, .int .u64 0]⟩ := by kernel_rfl
theorem ty93 : tiOf Tryz.prog 93 = some ⟨.func, 1, [.nilFunc]⟩ := by kernel_rfl
theorem ty94 : tiOf Tryz.prog 94 = some ⟨.func, 1, [.nilFunc]⟩ := by kernel_rfl
theorem ty95 : tiOf Tryz.prog 95 = some ⟨.func, 1, [.nilFunc]⟩ := by kernel_rfl
theorem ty96 : tiOf Tryz.prog 96 = some ⟨.func, 1, [.nilFunc]⟩ := by kernel_rfl
theorem ty97 : tiOf Tryz.prog 97 = some ⟨.func, 1, [.nilFunc]⟩ := by kernel_rfl
theorem ty98 : tiOf Tryz.prog 98 = some ⟨.func, 1, [.nilFunc]⟩ := by kernel_rfl
theorem ty99 : tiOf Tryz.prog 99 = some ⟨.func, 1, [.nilFunc]⟩ := by kernel_rfl
theorem ty100 : tiOf Tryz.prog 100 = some ⟨.func, 1, [.nilFunc]⟩ := by kernel_rfl
theorem ty101 : tiOf Tryz.prog 101 = some ⟨.struct [(0, 1), (1, 1)], 2, [.int .u32 0, .int .i64 0]⟩ := by kernel_rfl
theorem ty102 : tiOf Tryz.prog 102 = some ⟨.struct [(0, 1), (1, 1)], 2, [.int .u32 0, .int .i64 0]⟩ := by kernel_rfl
theorem ty103 : tiOf Tryz.prog 103 = some ⟨.struct [(0, 1), (1, 1), (2, 1), (3, 2)], 5, [.int .i64 0, .int .i64 0, .int .i64 0, .int .u32 0, .int .i64 0]⟩ := by kernel_rfl
theorem ty104 : tiOf Tryz.prog 104 = some ⟨.struct [(0, 1), (1, 1), (2, 1), (3, 2)], 5, [.int .i64 0, .int .i64 0, .int .i64 0, .int .u32 0, .int .i64 0]⟩ := by kernel_rfl
theorem ty105 : tiOf Tryz.prog 105 = some ⟨.func, 1, [.nilFunc]⟩ := by kernel_rfl
theorem ty106 : tiOf Tryz.prog 106 = some ⟨.func, 1, [.nilFunc]⟩ := by kernel_rfl
theorem ty107 : tiOf Tryz.prog 107 = some ⟨.ptr, 1, [.pointer none]⟩ := by kernel_rfl
theorem ty108 : tiOf Tryz.prog 108 = some ⟨.slice 4 1 1 [.bool false], 1, [.slice none 0 0]⟩ := by kernel_rfl
theorem ty109 : tiOf Tryz.prog 109 = some ⟨.array 108 2 1, 2, [.slice none 0 0, .slice none 0 0]⟩ := by kernel_rfl
theorem ty110 : tiOf Tryz.prog 110 = some ⟨.slice 118 7 56 [.int .i64 0, .int .i64 0, .int .i64 0, .int .i64 0, .int .i64 0, .int .u32 0, .int .i64 0], 1, [.slice none 0 0]⟩ := by kernel_rfl
theorem ty111 : tiOf Tryz.prog 111 = some ⟨.struct [(0, 8), (8, 2), (10, 1)], 11, [.slice none 0 0, .slice none 0 0, .slice none 0 0, .slice none 0 0, .slice none 0 0, .slice none 0 0, .slice none 0 0, .slice none 0 0, .slice none 0 0, .slice none 0 0, .slice none 0 0]⟩ := by kernel_rfl
theorem ty112 : tiOf Tryz.prog 112 = some ⟨.struct [(0, 8), (8, 2), (10, 1)], 11, [.slice none 0 0, .slice none 0 0, .slice none 0 0, .slice none 0 0, .slice none 0 0, .slice none 0 0, .slice none 0 0, .slice none 0 0, .slice none 0 0, .slice none 0 0, .slice none 0 0]⟩ := by kernel_rfl
theorem ty113 : tiOf Tryz.prog 113 = some ⟨.func, 1, [.nilFunc]⟩ := by kernel_rfl
theorem ty114 : tiOf Tryz.prog 114 = some ⟨.func, 1, [.nilFunc]⟩ := by kernel_rfl
theorem ty115 : tiOf Tryz.prog 115 = some ⟨.struct [(0, 1), (1, 1)], 2, [.int .i64 0, .int .i64 0]⟩ := by kernel_rfl
theorem ty116 : tiOf Tryz.prog 116 = some ⟨.struct [(0, 1), (1, 1)], 2, [.int .i64 0, .int .i64 0]⟩ := by kernel_rfl
theorem ty117 : tiOf Tryz.prog 117 = some ⟨.struct [(0, 2), (2, 4), (6, 1)], 7, [.int .i64 0, .int .i64 0, .int .i64 0, .int .i64 0, .int .i64 0, .int .u32 0, .int .i64 0]⟩ := by kernel_rfl
theorem ty118 : tiOf Tryz.prog 118 = some ⟨.struct [(0, 2), (2, 4), (6, 1)], 7, [.int .i64 0, .int .i64 0, .int .i64 0, .int .i64 0, .int .i64 0, .int .u32 0, .int .i64 0]⟩ := by kernel_rfl
theorem ty119 : tiOf Tryz.prog 119 = some ⟨.func, 1, [.nilFunc]⟩ := by kernel_rfl
theorem ty120 : tiOf Tryz.prog 120 = some ⟨.func, 1, [.nilFunc]⟩ := by kernel_rfl
theorem ty121 : tiOf Tryz.prog 121 = some ⟨.func, 1, [.nilFunc]⟩ := by kernel_rfl
theorem ty122 : tiOf Tryz.prog 122 = some ⟨.func, 1, [.nilFunc]⟩ := by kernel_rfl
theorem ty123 : tiOf Tryz.prog 123 = some ⟨.func, 1, [.nilFunc]⟩ := by kernel_rfl
theorem ty124 : tiOf Tryz.prog 124 = some ⟨.slice 127 2 32 [.slice none 0 0, .bool false], 1, [.slice none 0 0]⟩ := by kernel_rfl
theorem ty125 : tiOf Tryz.prog 125 = some ⟨.func, 1, [.nilFunc]⟩ := by kernel_rfl
theorem ty126 : tiOf Tryz.prog 126 = some ⟨.struct [(0, 1), (1, 1)], 2, [.slice none 0 0, .bool false]⟩ := by kernel_rfl
theorem ty127 : tiOf Tryz.prog 127 = some ⟨.struct [(0, 1), (1, 1)], 2, [.slice none 0 0, .bool false]⟩ := by kernel_rfl
theorem ty128 : tiOf Tryz.prog 128 = some ⟨.func, 1, [.nilFunc]⟩ := by kernel_rfl
theorem ty129 : tiOf Tryz.prog 129 = some ⟨.func, 1, [.nilFunc]⟩ := by kernel_rfl
theorem ty130 : tiOf Tryz.prog 130 = some ⟨.func, 1, [.nilFunc]⟩ := by kernel_rfl
theorem ty131 : tiOf Tryz.prog 131 = some ⟨.slice 134 3 24 [.int .i64 0, .int .i64 0, .int .u32 0], 1, [.slice none 0 0]⟩ := by kernel_rfl
theorem ty132 : tiOf Tryz.prog 132 = some ⟨.func, 1, [.nilFunc]⟩ := by kernel_rfl
theorem ty133 : tiOf Tryz.prog 133 = some ⟨.struct [(0, 1), (1, 1), (2, 1)], 3, [.int .i64 0, .int .i64 0, .int .u32 0]⟩ := by kernel_rfl
theorem ty134 : tiOf Tryz.prog 134 = some ⟨.struct [(0, 1), (1, 1), (2, 1)], 3, [.int .i64 0, .int .i64 0, .int .u32 0]⟩ := by kernel_rfl
theorem ty135 : tiOf Tryz.prog 135 = some ⟨.func, 1, [.nilFunc]⟩ := by kernel_rfl
theorem ty136 : tiOf Tryz.prog 136 = some ⟨.func, 1, [.nilFunc]⟩ := by kernel_rfl
theorem ty137 : tiOf Tryz.prog 137 = some ⟨.func, 1, [.nilFunc]⟩ := by kernel_rfl
theorem ty138 : tiOf Tryz.prog 138 = some ⟨.func, 1, [.nilFunc]⟩ := by kernel_rfl
theorem ty139 : tiOf Tryz.prog 139 = some ⟨.func, 1, [.nilFunc]⟩ := by kernel_rfl
theorem ty140 : tiOf Tryz.prog 140 = some ⟨.func, 1, [.nilFunc]⟩ := by kernel_rfl
theorem ty141 : tiOf Tryz.prog 141 = some ⟨.func, 1, [.nilFunc]⟩ := by kernel_rfl
theorem ty142 : tiOf Tryz.prog 142 = some ⟨.func, 1, [.nilFunc]⟩ := by kernel_rfl
theorem ty143 : tiOf Tryz.prog 143 = some ⟨.func, 1, [.nilFunc]⟩ := by kernel_rfl
theorem ty144 : tiOf Tryz.prog 144 = some ⟨.func, 1, [.nilFunc]⟩ := by kernel_rfl
theorem ty145 : tiOf Tryz.prog 145 = some ⟨.func, 1, [.nilFunc]⟩ := by kernel_rfl
theorem ty146 : tiOf Tryz.prog 146 = some ⟨.func, 1, [.nilFunc]⟩ := by kernel_rfl
theorem ty147 : tiOf Tryz.prog 147 = some ⟨.func, 1, [.nilFunc]⟩ := by kernel_rfl
theorem ty148 : tiOf Tryz.prog 148 = some ⟨.func, 1, [.nilFunc]⟩ := by kernel_rfl
theorem ty149 : tiOf Tryz.prog 149 = some ⟨.func, 1, [.nilFunc]⟩ := by kernel_rfl
theorem ty150 : tiOf Tryz.prog 150 = some ⟨.func, 1, [.nilFunc]⟩ := by kernel_rfl
theorem ty151 : tiOf Tryz.prog 151 = some ⟨.func, 1, [.nilFunc]⟩ := by kernel_rfl
theorem ty152 : tiOf Tryz.prog 152 = some ⟨.func, 1, [.nilFunc]⟩ := by kernel_rfl
theorem ty153 : tiOf Tryz.prog 153 = some ⟨.slice 155 3 24 [.int .i64 0, .int .i64 0, .int .u32 0], 1, [.slice none 0 0]⟩ := by kernel_rfl
theorem ty154 : tiOf Tryz.prog 154 = some ⟨.func, 1, [.nilFunc]⟩ := by kernel_rfl
theorem ty155 : tiOf Tryz.prog 155 = some ⟨.struct [(0, 1), (1, 1), (2, 1)], 3, [.int .i64 0, .int .i64 0, .int .u32 0]⟩ := by kernel_rfl
theorem ty156 : tiOf Tryz.prog 156 = some ⟨.ptr, 1, [.pointer none]⟩ := by kernel_rfl
theorem ty157 : tiOf Tryz.prog 157 = some ⟨.slice 5 1 1 [.int .u8 0], 1, [.slice none 0 0]⟩ := by kernel_rfl
theorem ty158 : tiOf Tryz.prog 158 = some ⟨.struct [(0, 1), (1, 1)], 2, [.pointer none, .slice none 0 0]⟩ := by kernel_rfl
theorem ty159 : tiOf Tryz.prog 159 = some ⟨.struct [(0, 1), (1, 1)], 2, [.pointer none, .slice none 0 0]⟩ := by kernel_rfl
theorem ty160 : tiOf Tryz.prog 160 = some ⟨.iface, 1, [.nilIface]⟩ := by kernel_rfl
theorem ty161 : tiOf Tryz.prog 161 = some ⟨.iface, 1, [.nilIface]⟩ := by kernel_rfl
theorem ty163 : tiOf Tryz.prog 163 = some ⟨.func, 1, [.nilFunc]⟩ := by kernel_rfl
theorem ty164 : tiOf Tryz.prog 164 = some ⟨.func, 1, [.nilFunc]⟩ := by kernel_rfl
theorem ty165 : tiOf Tryz.prog 165 = some ⟨.func, 1, [.nilFunc]⟩ := by kernel_rfl
theorem ty166 : tiOf Tryz.prog 166 = some ⟨.func, 1, [.nilFunc]⟩ := by kernel_rfl
theorem ty168 : tiOf Tryz.prog 168 = some ⟨.func, 1, [.nilFunc]⟩ := by kernel_rfl
theorem ty170 : tiOf Tryz.prog 170 = some ⟨.func, 1, [.nilFunc]⟩ := by kernel_rfl
theorem ty171 : tiOf Tryz.prog 171 = some ⟨.func, 1, [.nilFunc]⟩ := by kernel_rfl
theorem ty172 : tiOf Tryz.prog 172 = some ⟨.func, 1, [.nilFunc]⟩ := by kernel_rfl
theorem ty173 : tiOf Tryz.prog 173 = some ⟨.func, 1, [.nilFunc]⟩ := by kernel_rfl
theorem ty174 : tiOf Tryz.prog 174 = some ⟨.func, 1, [.nilFunc]⟩ := by kernel_rfl
theorem ty175 : tiOf Tryz.prog 175 = some ⟨.func, 1, [.nilFunc]⟩ := by kernel_rfl
theorem ty176 : tiOf Tryz.prog 176 = some ⟨.func, 1, [.nilFunc]⟩ := by kernel_rfl
theorem ty177 : tiOf Tryz.prog 177 = some ⟨.func, 1, [.nilFunc]⟩ := by kernel_rfl
theorem ty178 : tiOf Tryz.prog 178 = some ⟨.func, 1, [.nilFunc]⟩ := by kernel_rfl
theorem ty179 : tiOf Tryz.prog 179 = some ⟨.func, 1, [.nilFunc]⟩ := by kernel_rfl
theorem ty180 : tiOf Tryz.prog 180 = some ⟨.func, 1, [.nilFunc]⟩ := by kernel_rfl
theorem ty181 : tiOf Tryz.prog 181 = some ⟨.ptr, 1, [.pointer none]⟩ := by kernel_rfl
theorem ty182 : tiOf Tryz.prog 182 = some ⟨.func, 1, [.nilFunc]⟩ := by kernel_rfl
theorem ty183 : tiOf Tryz.prog 183 = some ⟨.func, 1, [.nilFunc]⟩ := by kernel_rfl
theorem ty184 : tiOf Tryz.prog 184 = some ⟨.func, 1, [.nilFunc]⟩ := by kernel_rfl
theorem ty186 : tiOf Tryz.prog 186 = some ⟨.func, 1, [.nilFunc]⟩ := by kernel_rfl
theorem ty187 : tiOf Tryz.prog 187 = some ⟨.func, 1, [.nilFunc]⟩ := by kernel_rfl
theorem ty188 : tiOf Tryz.prog 188 = some ⟨.func, 1, [.nilFunc]⟩ := by kernel_rfl
theorem ty189 : tiOf Tryz.prog 189 = some ⟨.func, 1, [.nilFunc]⟩ := by kernel_rfl
theorem ty190 : tiOf Tryz.prog 190 = some ⟨.func, 1, [.nilFunc]⟩ := by kernel_rfl
theorem ty191 : tiOf Tryz.prog 191 = some ⟨.func, 1, [.nilFunc]⟩ := by kernel_rfl
theorem ty192 : tiOf Tryz.prog 192 = some ⟨.int .u64, 1, [.int .u64 0]⟩ := by kernel_rfl
theorem ty193 : tiOf Tryz.prog 193 = some ⟨.func, 1, [.nilFunc]⟩ := by kernel_rfl
theorem ty194 : tiOf Tryz.prog 194 = some ⟨.func, 1, [.nilFunc]⟩ := by kernel_rfl
theorem ty196 : tiOf Tryz.prog 196 = some ⟨.func, 1, [.nilFunc]⟩ := by kernel_rfl
theorem ty197 : tiOf Tryz.prog 197 = some ⟨.func, 1, [.nilFunc]⟩ := by kernel_rfl
theorem ty198 : tiOf Tryz.prog 198 = some ⟨.func, 1, [.nilFunc]⟩ := by kernel_rfl
theorem ty199 : tiOf Tryz.prog 199 = some ⟨.func, 1, [.nilFunc]⟩ := by kernel_rfl
theorem ty200 : tiOf Tryz.prog 200 = some ⟨.func, 1, [.nilFunc]⟩ := by kernel_rfl
theorem ty201 : tiOf Tryz.prog 201 = some ⟨.func, 1, [.nilFunc]⟩ := by kernel_rfl
theorem ty202 : tiOf Tryz.prog 202 = some ⟨.func, 1, [.nilFunc]⟩ := by kernel_rfl
theorem ty203 : tiOf Tryz.prog 203 = some ⟨.func, 1, [.nilFunc]⟩ := by kernel_rfl
theorem ty204 : tiOf Tryz.prog 204 = some ⟨.func, 1, [.nilFunc]⟩ := by kernel_rfl
theorem ty205 : tiOf Tryz.prog 205 = some ⟨.func, 1, [.nilFunc]⟩ := by kernel_rfl
theorem ty207 : tiOf Tryz.prog 207 = some ⟨.struct [(0, 1), (1, 1)], 2, [.int .u8 0, .int .u8 0]⟩ := by kernel_rfl
theorem ty208 : tiOf Tryz.prog 208 = some ⟨.struct [(0, 1), (1, 1)], 2, [.int .u8 0, .int .u8 0]⟩ := by kernel_rfl
theorem ty209 : tiOf Tryz.prog 209 = some ⟨.array 208 16 2, 32, [.int .u8 0, .int .u8 0, .int .u8 0, .int .u8 0, .int .u8 0, .int .u8 0, .int .u8 0, .int .u8 0, .int .u8 0, .int .u8 0, .int .u8 0, .int .u8 0, .int .u8 0, .int .u8 0, .int .u8 0, .int .u8 0, .int .u8 0, .int .u8 0, .int .u8 0, .int .u8 0, .int .u8 0, .int .u8 0, .int .u8 0, .int .u8 0, .int .u8 0, .int .u8 0, .int .u8 0, .int .u8 0, .int .u8 0, .int .u8 0, .int .u8 0, .int .u8 0]⟩ := by kernel_rfl
theorem ty211 : tiOf Tryz.prog 211 = some ⟨.func, 1, [.nilFunc]⟩ := by kernel_rfl
theorem ty212 : tiOf Tryz.prog 212 = some ⟨.func, 1, [.nilFunc]⟩ := by kernel_rfl
theorem ty213 : tiOf Tryz.prog 213 = some ⟨.func, 1, [.nilFunc]⟩ := by kernel_rfl
theorem ty214 : tiOf Tryz.prog 214 = some ⟨.struct [(0, 1), (1, 1), (2, 1), (3, 1)], 4, [.pointer none, .pointer none, .pointer none, .string .empty]⟩ := by kernel_rfl
theorem ty216 : tiOf Tryz.prog 216 = some ⟨.array 16 0 1, 0, []⟩ := by kernel_rfl
theorem ty217 : tiOf Tryz.prog 217 = some ⟨.struct [(0, 0)], 0, []⟩ := by kernel_rfl
theorem ty221 : tiOf Tryz.prog 221 = some ⟨.func, 1, [.nilFunc]⟩ := by kernel_rfl
theorem ty224 : tiOf Tryz.prog 224 = some ⟨.struct [(0, 1), (1, 1), (2, 1), (3, 1), (4, 1), (5, 1), (6, 1), (7, 1), (8, 1), (9, 1), (10, 1)], 11, [.int .u64 0, .int .u64 0, .int .u32 0, .int .u8 0, .int .u8 0, .int .u8 0, .int .u8 0, .nilFunc, .pointer none, .int .i32 0, .int .i32 0]⟩ := by kernel_rfl

theorem tq49 : eqsOf Tryz.prog 49 = some [.int .i64, .int .i64, .string, .int .u64, .int .u32] := by kernel_rfl
theorem tq60 : eqsOf Tryz.prog 60 = some [.int .i64, .int .i64, .int .i64, .int .u32] := by kernel_rfl
theorem tq65 : eqsOf Tryz.prog 65 = some [.int .i64, .int .i64, .int .i64, .int .u32] := by kernel_rfl
theorem tq88 : eqsOf Tryz.prog 88 = some [.int .i64, .int .i64, .int .i64] := by kernel_rfl
theorem tq92 : eqsOf Tryz.prog 92 = some [.int .i64, .int .i64, .int .i64, .int .u64] := by kernel_rfl
theorem tq102 : eqsOf Tryz.prog 102 = some [.int .u32, .int .i64] := by kernel_rfl
theorem tq116 : eqsOf Tryz.prog 116 = some [.int .i64, .int .i64] := by kernel_rfl
theorem tq134 : eqsOf Tryz.prog 134 = some [.int .i64, .int .i64, .int .u32] := by kernel_rfl
theorem tq155 : eqsOf Tryz.prog 155 = some [.int .i64, .int .i64, .int .u32] := by kernel_rfl

def tab : Tr TI := (.nd 112 (⟨.struct [(0, 8), (8, 2), (10, 1)], 11, [.slice none 0 0, .slice none 0 0, .slice none 0 0, .slice none 0 0, .slice none 0 0, .slice none 0 0, .slice none 0 0, .slice none 0 0, .slice none 0 0, .slice none 0 0, .slice none 0 0]⟩) (.nd 61 (⟨.func, 1, [.nilFunc]⟩) (.nd 32 (⟨.func, 1, [.nilFunc]⟩) (.nd 18 (⟨.struct [(0, 1)], 1, [.pointer none]⟩) (.nd 9 (⟨.string, 1, [.string .empty]⟩) (.nd 4 (⟨.bool, 1, [.bool false]⟩) (.nd 2 (⟨.int .i64, 1, [.int .i64 0]⟩) (.nd 1 (⟨.func, 1, [.nilFunc]⟩) .lf .lf) (.nd 3 (⟨.int .i64, 1, [.int .i64 0]⟩) .lf .lf)) (.nd 7 (⟨.struct [(0, 1), (1, 1), (2, 1), (3, 1)], 4, [.int .i64 0, .int .i64 0, .bool false, .int .u8 0]⟩) (.nd 5 (⟨.int .u8, 1, [.int .u8 0]⟩) .lf .lf) .lf)) (.nd 15 (⟨.ptr, 1, [.pointer none]⟩) (.nd 13 (⟨.struct [(0, 1), (1, 1)], 2, [.string .empty, .int .u64 0]⟩) (.nd 12 (⟨.int .u64, 1, [.int .u64 0]⟩) .lf .lf) .lf) (.nd 17 (⟨.ptr, 1, [.pointer none]⟩) (.nd 16 (⟨.ptr, 1, [.pointer none]⟩) .lf .lf) .lf))) (.nd 26 (⟨.slice 92 4 32 [.int .i64 0, .int .i64 0, .int .i64 0, .int .u64 0], 1, [.slice none 0 0]⟩) (.nd 23 (⟨.slice 52 7 80 [.int .i64 0, .int .i64 0, .int .i64 0, .int .i64 0, .int .i64 0, .string .empty, .slice none 0 0], 1, [.slice none 0 0]⟩) (.nd 21 (⟨.int .i32, 1, [.int .i32 0]⟩) (.nd 20 (⟨.iface, 1, [.nilIface]⟩) .lf .lf) (.nd 22 (⟨.slice 49 5 48 [.int .i64 0, .int .i64 0, .string .empty, .int .u64 0, .int .u32 0], 1, [.slice none 0 0]⟩) .lf .lf)) (.nd 25 (⟨.slice 54 6 64 [.int .i64 0, .int .i64 0, .int .i64 0, .int .i64 0, .int .i64 0, .slice none 0 0], 1, [.slice none 0 0]⟩) (.nd 24 (⟨.slice 88 3 24 [.int .i64 0, .int .i64 0, .int .i64 0], 1, [.slice none 0 0]⟩) .lf .lf) .lf)) (.nd 29 (⟨.slice 104 5 40 [.int .i64 0, .int .i64 0, .int .i64 0, .int .u32 0, .int .i64 0], 1, [.slice none 0 0]⟩) (.nd 28 (⟨.slice 79 5 80 [.int .i64 0, .int .i64 0, .string .empty, .slice none 0 0, .slice none 0 0], 1, [.slice none 0 0]⟩) (.nd 27 (⟨.slice 77 4 48 [.int .i64 0, .int .i64 0, .int .i64 0, .slice none 0 0], 1, [.slice none 0 0]⟩) .lf .lf) .lf) (.nd 31 (⟨.struct [(0, 1), (1, 1), (2, 1), (3, 1), (4, 1), (5, 1), (6, 1), (7, 1)], 8, [.slice none 0 0, .slice none 0 0, .slice none 0 0, .slice none 0 0, .slice none 0 0, .slice none 0 0, .slice none 0 0, .slice none 0 0]⟩) (.nd 30 (⟨.struct [(0, 1), (1, 1), (2, 1), (3, 1), (4, 1), (5, 1), (6, 1), (7, 1)], 8, [.slice none 0 0, .slice none 0 0, .slice none 0 0, .slice none 0 0, .slice none 0 0, .slice none 0 0, .slice none 0 0, .slice none 0 0]⟩) .lf .lf) .lf)))) (.nd 48 (⟨.struct [(0, 1), (1, 1), (2, 1), (3, 1), (4, 1)], 5, [.int .i64 0, .int .i64 0, .string .empty, .int .u64 0, .int .u32 0]⟩) (.nd 41 (⟨.func, 1, [.nilFunc]⟩) (.nd 37 (⟨.func, 1, [.nilFunc]⟩) (.nd 34 (⟨.slice 9 1 16 [.string .empty], 1, [.slice none 0 0]⟩) (.nd 33 (⟨.func, 1, [.nilFunc]⟩) .lf .lf) (.nd 35 (⟨.int .i64, 1, [.int .i64 0]⟩) .lf .lf)) (.nd 40 (⟨.func, 1, [.nilFunc]⟩) (.nd 39 (⟨.func, 1, [.nilFunc]⟩) .lf .lf) .lf)) (.nd 45 (⟨.func, 1, [.nilFunc]⟩) (.nd 43 (⟨.func, 1, [.nilFunc]⟩) (.nd 42 (⟨.func, 1, [.nilFunc]⟩) .lf .lf) .lf) (.nd 47 (⟨.int .u32, 1, [.int .u32 0]⟩) (.nd 46 (⟨.int .u64, 1, [.int .u64 0]⟩) .lf .lf) .lf))) (.nd 54 (⟨.struct [(0, 1), (1, 1), (2, 1), (3, 1), (4, 1), (5, 1)], 6, [.int .i64 0, .int .i64 0, .int .i64 0, .int .i64 0, .int .i64 0, .slice none 0 0]⟩) (.nd 51 (⟨.struct [(0, 1), (1, 1), (2, 1), (3, 1), (4, 1), (5, 1), (6, 1)], 7, [.int .i64 0, .int .i64 0, .int .i64 0, .int .i64 0, .int .i64 0, .string .empty, .slice none 0 0]⟩) (.nd 50 (⟨.slice 3 1 8 [.int .i64 0], 1, [.slice none 0 0]⟩) (.nd 49 (⟨.struct [(0, 1), (1, 1), (2, 1), (3, 1), (4, 1)], 5, [.int .i64 0, .int .i64 0, .string .empty, .int .u64 0, .int .u32 0]⟩) .lf .lf) .lf) (.nd 53 (⟨.struct [(0, 1), (1, 1), (2, 1), (3, 1), (4, 1), (5, 1)], 6, [.int .i64 0, .int .i64 0, .int .i64 0, .int .i64 0, .int .i64 0, .slice none 0 0]⟩) (.nd 52 (⟨.struct [(0, 1), (1, 1), (2, 1), (3, 1), (4, 1), (5, 1), (6, 1)], 7, [.int .i64 0, .int .i64 0, .int .i64 0, .int .i64 0, .int .i64 0, .string .empty, .slice none 0 0]⟩) .lf .lf) .lf)) (.nd 58 (⟨.func, 1, [.nilFunc]⟩) (.nd 57 (⟨.func, 1, [.nilFunc]⟩) (.nd 55 (⟨.slice 60 4 32 [.int .i64 0, .int .i64 0, .int .i64 0, .int .u32 0], 1, [.slice none 0 0]⟩) .lf .lf) .lf) (.nd 60 (⟨.struct [(0, 1), (1, 1), (2, 1), (3, 1)], 4, [.int .i64 0, .int .i64 0, .int .i64 0, .int .u32 0]⟩) (.nd 59 (⟨.struct [(0, 1), (1, 1), (2, 1), (3, 1)], 4, [.int .i64 0, .int .i64 0, .int .i64 0, .int .u32 0]⟩) .lf .lf) .lf))))) (.nd 87 (⟨.struct [(0, 1), (1, 1), (2, 1)], 3, [.int .i64 0, .int .i64 0, .int .i64 0]⟩) (.nd 75 (⟨.slice 47 1 4 [.int .u32 0], 1, [.slice none 0 0]⟩) (.nd 69 (⟨.struct [(0, 8), (8, 1), (9, 1)], 10, [.slice none 0 0, .slice none 0 0, .slice none 0 0, .slice none 0 0, .slice none 0 0, .slice none 0 0, .slice none 0 0, .slice none 0 0, .int .i64 0, .bool false]⟩) (.nd 66 (⟨.func, 1, [.nilFunc]⟩) (.nd 64 (⟨.func, 1, [.nilFunc]⟩) (.nd 62 (⟨.slice 65 4 32 [.int .i64 0, .int .i64 0, .int .i64 0, .int .u32 0], 1, [.slice none 0 0]⟩) .lf .lf) (.nd 65 (⟨.struct [(0, 1), (1, 1), (2, 1), (3, 1)], 4, [.int .i64 0, .int .i64 0, .int .i64 0, .int .u32 0]⟩) .lf .lf)) (.nd 68 (⟨.ptr, 1, [.pointer none]⟩) (.nd 67 (⟨.func, 1, [.nilFunc]⟩) .lf .lf) .lf)) (.nd 72 (⟨.func, 1, [.nilFunc]⟩) (.nd 71 (⟨.func, 1, [.nilFunc]⟩) (.nd 70 (⟨.struct [(0, 8), (8, 1), (9, 1)], 10, [.slice none 0 0, .slice none 0 0, .slice none 0 0, .slice none 0 0, .slice none 0 0, .slice none 0 0, .slice none 0 0, .slice none 0 0, .int .i64 0, .bool false]⟩) .lf .lf) .lf) (.nd 74 (⟨.func, 1, [.nilFunc]⟩) (.nd 73 (⟨.func, 1, [.nilFunc]⟩) .lf .lf) .lf))) (.nd 81 (⟨.struct [(0, 8)], 8, [.slice none 0 0, .slice none 0 0, .slice none 0 0, .slice none 0 0, .slice none 0 0, .slice none 0 0, .slice none 0 0, .slice none 0 0]⟩) (.nd 78 (⟨.struct [(0, 1), (1, 1), (2, 1), (3, 1), (4, 1)], 5, [.int .i64 0, .int .i64 0, .string .empty, .slice none 0 0, .slice none 0 0]⟩) (.nd 77 (⟨.struct [(0, 1), (1, 1), (2, 1), (3, 1)], 4, [.int .i64 0, .int .i64 0, .int .i64 0, .slice none 0 0]⟩) (.nd 76 (⟨.struct [(0, 1), (1, 1), (2, 1), (3, 1)], 4, [.int .i64 0, .int .i64 0, .int .i64 0, .slice none 0 0]⟩) .lf .lf) .lf) (.nd 80 (⟨.struct [(0, 8)], 8, [.slice none 0 0, .slice none 0 0, .slice none 0 0, .slice none 0 0, .slice none 0 0, .slice none 0 0, .slice none 0 0, .slice none 0 0]⟩) (.nd 79 (⟨.struct [(0, 1), (1, 1), (2, 1), (3, 1), (4, 1)], 5, [.int .i64 0, .int .i64 0, .string .empty, .slice none 0 0, .slice none 0 0]⟩) .lf .lf) .lf)) (.nd 84 (⟨.func, 1, [.nilFunc]⟩) (.nd 83 (⟨.func, 1, [.nilFunc]⟩) (.nd 82 (⟨.func, 1, [.nilFunc]⟩) .lf .lf) .lf) (.nd 86 (⟨.func, 1, [.nilFunc]⟩) (.nd 85 (⟨.func, 1, [.nilFunc]⟩) .lf .lf) .lf)))) (.nd 100 (⟨.func, 1, [.nilFunc]⟩) (.nd 94 (⟨.func, 1, [.nilFunc]⟩) (.nd 91 (⟨.struct [(0, 1), (1, 1), (2, 1), (3, 1)], 4, [.int .i64 0, .int .i64 0, .int .i64 0, .int .u64 0]⟩) (.nd 89 (⟨.func, 1, [.nilFunc]⟩) (.nd 88 (⟨.struct [(0, 1), (1, 1), (2, 1)], 3, [.int .i64 0, .int .i64 0, .int .i64 0]⟩) .lf .lf) (.nd 90 (⟨.func, 1, [.nilFunc]⟩) .lf .lf)) (.nd 93 (⟨.func, 1, [.nilFunc]⟩) (.nd 92 (⟨.struct [(0, 1), (1, 1), (2, 1), (3, 1)], 4, [.int .i64 0, .int .i64 0, .int .i64 0, .int .u64 0]⟩) .lf .lf) .lf)) (.nd 97 (⟨.func, 1, [.nilFunc]⟩) (.nd 96 (⟨.func, 1, [.nilFunc]⟩) (.nd 95 (⟨.func, 1, [.nilFunc]⟩) .lf .lf) .lf) (.nd 99 (⟨.func, 1, [.nilFunc]⟩) (.nd 98 (⟨.func, 1, [.nilFunc]⟩) .lf .lf) .lf))) (.nd 106 (⟨.func, 1, [.nilFunc]⟩) (.nd 103 (⟨.struct [(0, 1), (1, 1), (2, 1), (3, 2)], 5, [.int .i64 0, .int .i64 0, .int .i64 0, .int .u32 0, .int .i64 0]⟩) (.nd 102 (⟨.struct [(0, 1), (1, 1)], 2, [.int .u32 0, .int .i64 0]⟩) (.nd 101 (⟨.struct [(0, 1), (1, 1)], 2, [.int .u32 0, .int .i64 0]⟩) .lf .lf) .lf) (.nd 105 (⟨.func, 1, [.nilFunc]⟩) (.nd 104 (⟨.struct [(0, 1), (1, 1), (2, 1), (3, 2)], 5, [.int .i64 0, .int .i64 0, .int .i64 0, .int .u32 0, .int .i64 0]⟩) .lf .lf) .lf)) (.nd 109 (⟨.array 108 2 1, 2, [.slice none 0 0, .slice none 0 0]⟩) (.nd 108 (⟨.slice 4 1 1 [.bool false], 1, [.slice none 0 0]⟩) (.nd 107 (⟨.ptr, 1, [.pointer none]⟩) .lf .lf) .lf) (.nd 111 (⟨.struct [(0, 8), (8, 2), (10, 1)], 11, [.slice none 0 0, .slice none 0 0, .slice none 0 0, .slice none 0 0, .slice none 0 0, .slice none 0 0, .slice none 0 0, .slice none 0 0, .slice none 0 0, .slice none 0 0, .slice none 0 0]⟩) (.nd 110 (⟨.slice 118 7 56 [.int .i64 0, .int .i64 0, .int .i64 0, .int .i64 0, .int .i64 0, .int .u32 0, .int .i64 0], 1, [.slice none 0 0]⟩) .lf .lf) .lf)))))) (.nd 163 (⟨.func, 1, [.nilFunc]⟩) (.nd 137 (⟨.func, 1, [.nilFunc]⟩) (.nd 125 (⟨.func, 1, [.nilFunc]⟩) (.nd 119 (⟨.func, 1, [.nilFunc]⟩) (.nd 116 (⟨.struct [(0, 1), (1, 1)], 2, [.int .i64 0, .int .i64 0]⟩) (.nd 114 (⟨.func, 1, [.nilFunc]⟩) (.nd 113 (⟨.func, 1, [.nilFunc]⟩) .lf .lf) (.nd 115 (⟨.struct [(0, 1), (1, 1)], 2, [.int .i64 0, .int .i64 0]⟩) .lf .lf)) (.nd 118 (⟨.struct [(0, 2), (2, 4), (6, 1)], 7, [.int .i64 0, .int .i64 0, .int .i64 0, .int .i64 0, .int .i64 0, .int .u32 0, .int .i64 0]⟩) (.nd 117 (⟨.struct [(0, 2), (2, 4), (6, 1)], 7, [.int .i64 0, .int .i64 0, .int .i64 0, .int .i64 0, .int .i64 0, .int .u32 0, .int .i64 0]⟩) .lf .lf) .lf)) (.nd 122 (⟨.func, 1, [.nilFunc]⟩) (.nd 121 (⟨.func, 1, [.nilFunc]⟩) (.nd 120 (⟨.func, 1, [.nilFunc]⟩) .lf .lf) .lf) (.nd 124 (⟨.slice 127 2 32 [.slice none 0 0, .bool false], 1, [.slice none 0 0]⟩) (.nd 123 (⟨.func, 1, [.nilFunc]⟩) .lf .lf) .lf))) (.nd 131 (⟨.slice 134 3 24 [.int .i64 0, .int .i64 0, .int .u32 0], 1, [.slice none 0 0]⟩) (.nd 128 (⟨.func, 1, [.nilFunc]⟩) (.nd 127 (⟨.struct [(0, 1), (1, 1)], 2, [.slice none 0 0, .bool false]⟩) (.nd 126 (⟨.struct [(0, 1), (1, 1)], 2, [.slice none 0 0, .bool false]⟩) .lf .lf) .lf) (.nd 130 (⟨.func, 1, [.nilFunc]⟩) (.nd 129 (⟨.func, 1, [.nilFunc]⟩) .lf .lf) .lf)) (.nd 134 (⟨.struct [(0, 1), (1, 1), (2, 1)], 3, [.int .i64 0, .int .i64 0, .int .u32 0]⟩) (.nd 133 (⟨.struct [(0, 1), (1, 1), (2, 1)], 3, [.int .i64 0, .int .i64 0, .int .u32 0]⟩) (.nd 132 (⟨.func, 1, [.nilFunc]⟩) .lf .lf) .lf) (.nd 136 (⟨.func, 1, [.nilFunc]⟩) (.nd 135 (⟨.func, 1, [.nilFunc]⟩) .lf .lf) .lf)))) (.nd 150 (⟨.func, 1, [.nilFunc]⟩) (.nd 144 (⟨.func, 1, [.nilFunc]⟩) (.nd 141 (⟨.func, 1, [.nilFunc]⟩) (.nd 139 (⟨.func, 1, [.nilFunc]⟩) (.nd 138 (⟨.func, 1, [.nilFunc]⟩) .lf .lf) (.nd 140 (⟨.func, 1, [.nilFunc]⟩) .lf .lf)) (.nd 143 (⟨.func, 1, [.nilFunc]⟩) (.nd 142 (⟨.func, 1, [.nilFunc]⟩) .lf .lf) .lf)) (.nd 147 (⟨.func, 1, [.nilFunc]⟩) (.nd 146 (⟨.func, 1, [.nilFunc]⟩) (.nd 145 (⟨.func, 1, [.nilFunc]⟩) .lf .lf) .lf) (.nd 149 (⟨.func, 1, [.nilFunc]⟩) (.nd 148 (⟨.func, 1, [.nilFunc]⟩) .lf .lf) .lf))) (.nd 156 (⟨.ptr, 1, [.pointer none]⟩) (.nd 153 (⟨.slice 155 3 24 [.int .i64 0, .int .i64 0, .int .u32 0], 1, [.slice none 0 0]⟩) (.nd 152 (⟨.func, 1, [.nilFunc]⟩) (.nd 151 (⟨.func, 1, [.nilFunc]⟩) .lf .lf) .lf) (.nd 155 (⟨.struct [(0, 1), (1, 1), (2, 1)], 3, [.int .i64 0, .int .i64 0, .int .u32 0]⟩) (.nd 154 (⟨.func, 1, [.nilFunc]⟩) .lf .lf) .lf)) (.nd 159 (⟨.struct [(0, 1), (1, 1)], 2, [.pointer none, .slice none 0 0]⟩) (.nd 158 (⟨.struct [(0, 1), (1, 1)], 2, [.pointer none, .slice none 0 0]⟩) (.nd 157 (⟨.slice 5 1 1 [.int .u8 0], 1, [.slice none 0 0]⟩) .lf .lf) .lf) (.nd 161 (⟨.iface, 1, [.nilIface]⟩) (.nd 160 (⟨.iface, 1, [.nilIface]⟩) .lf .lf) .lf))))) (.nd 191 (⟨.func, 1, [.nilFunc]⟩) (.nd 178 (⟨.func, 1, [.nilFunc]⟩) (.nd 172 (⟨.func, 1, [.nilFunc]⟩) (.nd 168 (⟨.func, 1, [.nilFunc]⟩) (.nd 165 (⟨.func, 1, [.nilFunc]⟩) (.nd 164 (⟨.func, 1, [.nilFunc]⟩) .lf .lf) (.nd 166 (⟨.func, 1, [.nilFunc]⟩) .lf .lf)) (.nd 171 (⟨.func, 1, [.nilFunc]⟩) (.nd 170 (⟨.func, 1, [.nilFunc]⟩) .lf .lf) .lf)) (.nd 175 (⟨.func, 1, [.nilFunc]⟩) (.nd 174 (⟨.func, 1, [.nilFunc]⟩) (.nd 173 (⟨.func, 1, [.nilFunc]⟩) .lf .lf) .lf) (.nd 177 (⟨.func, 1, [.nilFunc]⟩) (.nd 176 (⟨.func, 1, [.nilFunc]⟩) .lf .lf) .lf))) (.nd 184 (⟨.func, 1, [.nilFunc]⟩) (.nd 181 (⟨.ptr, 1, [.pointer none]⟩) (.nd 180 (⟨.func, 1, [.nilFunc]⟩) (.nd 179 (⟨.func, 1, [.nilFunc]⟩) .lf .lf) .lf) (.nd 183 (⟨.func, 1, [.nilFunc]⟩) (.nd 182 (⟨.func, 1, [.nilFunc]⟩) .lf .lf) .lf)) (.nd 188 (⟨.func, 1, [.nilFunc]⟩) (.nd 187 (⟨.func, 1, [.nilFunc]⟩) (.nd 186 (⟨.func, 1, [.nilFunc]⟩) .lf .lf) .lf) (.nd 190 (⟨.func, 1, [.nilFunc]⟩) (.nd 189 (⟨.func, 1, [.nilFunc]⟩) .lf .lf) .lf)))) (.nd 205 (⟨.func, 1, [.nilFunc]⟩) (.nd 199 (⟨.func, 1, [.nilFunc]⟩) (.nd 196 (⟨.func, 1, [.nilFunc]⟩) (.nd 193 (⟨.func, 1, [.nilFunc]⟩) (.nd 192 (⟨.int .u64, 1, [.int .u64 0]⟩) .lf .lf) (.nd 194 (⟨.func, 1, [.nilFunc]⟩) .lf .lf)) (.nd 198 (⟨.func, 1, [.nilFunc]⟩) (.nd 197 (⟨.func, 1, [.nilFunc]⟩) .lf .lf) .lf)) (.nd 202 (⟨.func, 1, [.nilFunc]⟩) (.nd 201 (⟨.func, 1, [.nilFunc]⟩) (.nd 200 (⟨.func, 1, [.nilFunc]⟩) .lf .lf) .lf) (.nd 204 (⟨.func, 1, [.nilFunc]⟩) (.nd 203 (⟨.func, 1, [.nilFunc]⟩) .lf .lf) .lf))) (.nd 213 (⟨.func, 1, [.nilFunc]⟩) (.nd 209 (⟨.array 208 16 2, 32, [.int .u8 0, .int .u8 0, .int .u8 0, .int .u8 0, .int .u8 0, .int .u8 0, .int .u8 0, .int .u8 0, .int .u8 0, .int .u8 0, .int .u8 0, .int .u8 0, .int .u8 0, .int .u8 0, .int .u8 0, .int .u8 0, .int .u8 0, .int .u8 0, .int .u8 0, .int .u8 0, .int .u8 0, .int .u8 0, .int .u8 0, .int .u8 0, .int .u8 0, .int .u8 0, .int .u8 0, .int .u8 0, .int .u8 0, .int .u8 0, .int .u8 0, .int .u8 0]⟩) (.nd 208 (⟨.struct [(0, 1), (1, 1)], 2, [.int .u8 0, .int .u8 0]⟩) (.nd 207 (⟨.struct [(0, 1), (1, 1)], 2, [.int .u8 0, .int .u8 0]⟩) .lf .lf) .lf) (.nd 212 (⟨.func, 1, [.nilFunc]⟩) (.nd 211 (⟨.func, 1, [.nilFunc]⟩) .lf .lf) .lf)) (.nd 217 (⟨.struct [(0, 0)], 0, []⟩) (.nd 216 (⟨.array 16 0 1, 0, []⟩) (.nd 214 (⟨.struct [(0, 1), (1, 1), (2, 1), (3, 1)], 4, [.pointer none, .pointer none, .pointer none, .string .empty]⟩) .lf .lf) .lf) (.nd 224 (⟨.struct [(0, 1), (1, 1), (2, 1), (3, 1), (4, 1), (5, 1), (6, 1), (7, 1), (8, 1), (9, 1), (10, 1)], 11, [.int .u64 0, .int .u64 0, .int .u32 0, .int .u8 0, .int .u8 0, .int .u8 0, .int .u8 0, .nilFunc, .pointer none, .int .i32 0, .int .i32 0]⟩) (.nd 221 (⟨.func, 1, [.nilFunc]⟩) .lf .lf) .lf)))))))

def etab : Tr (List EK) := (.nd 92 ([.int .i64, .int .i64, .int .i64, .int .u64]) (.nd 65 ([.int .i64, .int .i64, .int .i64, .int .u32]) (.nd 60 ([.int .i64, .int .i64, .int .i64, .int .u32]) (.nd 49 ([.int .i64, .int .i64, .string, .int .u64, .int .u32]) .lf .lf) .lf) (.nd 88 ([.int .i64, .int .i64, .int .i64]) .lf .lf)) (.nd 134 ([.int .i64, .int .i64, .int .u32]) (.nd 116 ([.int .i64, .int .i64]) (.nd 102 ([.int .u32, .int .i64]) .lf .lf) .lf) (.nd 155 ([.int .i64, .int .i64, .int .u32]) .lf .lf)))

theorem tab_ok : tab.all (fun t i => tiOf Tryz.prog t = some i) := ⟨ty112, ⟨ty61, ⟨ty32, ⟨ty18, ⟨ty9, ⟨ty4, ⟨ty2, ⟨ty1, trivial, trivial⟩, ⟨ty3, trivial, trivial⟩⟩, ⟨ty7, ⟨ty5, trivial, trivial⟩, trivial⟩⟩, ⟨ty15, ⟨ty13, ⟨ty12, trivial, trivial⟩, trivial⟩, ⟨ty17, ⟨ty16, trivial, trivial⟩, trivial⟩⟩⟩, ⟨ty26, ⟨ty23, ⟨ty21, ⟨ty20, trivial, trivial⟩, ⟨ty22, trivial, trivial⟩⟩, ⟨ty25, ⟨ty24, trivial, trivial⟩, trivial⟩⟩, ⟨ty29, ⟨ty28, ⟨ty27, trivial, trivial⟩, trivial⟩, ⟨ty31, ⟨ty30, trivial, trivial⟩, trivial⟩⟩⟩⟩, ⟨ty48, ⟨ty41, ⟨ty37, ⟨ty34, ⟨ty33, trivial, trivial⟩, ⟨ty35, trivial, trivial⟩⟩, ⟨ty40, ⟨ty39, trivial, trivial⟩, trivial⟩⟩, ⟨ty45, ⟨ty43, ⟨ty42, trivial, trivial⟩, trivial⟩, ⟨ty47, ⟨ty46, trivial, trivial⟩, trivial⟩⟩⟩, ⟨ty54, ⟨ty51, ⟨ty50, ⟨ty49, trivial, trivial⟩, trivial⟩, ⟨ty53, ⟨ty52, trivial, trivial⟩, trivial⟩⟩, ⟨ty58, ⟨ty57, ⟨ty55, trivial, trivial⟩, trivial⟩, ⟨ty60, ⟨ty59, trivial, trivial⟩, trivial⟩⟩⟩⟩⟩, ⟨ty87, ⟨ty75, ⟨ty69, ⟨ty66, ⟨ty64, ⟨ty62, trivial, trivial⟩, ⟨ty65, trivial, trivial⟩⟩, ⟨ty68, ⟨ty67, trivial, trivial⟩, trivial⟩⟩, ⟨ty72, ⟨ty71, ⟨ty70, trivial, trivial⟩, trivial⟩, ⟨ty74, ⟨ty73, trivial, trivial⟩, trivial⟩⟩⟩, ⟨ty81, ⟨ty78, ⟨ty77, ⟨ty76, trivial, trivial⟩, trivial⟩, ⟨ty80, ⟨ty79, trivial, trivial⟩, trivial⟩⟩, ⟨ty84, ⟨ty83, ⟨ty82, trivial, trivial⟩, trivial⟩, ⟨ty86, ⟨ty85, trivial, trivial⟩, trivial⟩⟩⟩⟩, ⟨ty100, ⟨ty94, ⟨ty91, ⟨ty89, ⟨ty88, trivial, trivial⟩, ⟨ty90, trivial, trivial⟩⟩, ⟨ty93, ⟨ty92, trivial, trivial⟩, trivial⟩⟩, ⟨ty97, ⟨ty96, ⟨ty95, trivial, trivial⟩, trivial⟩, ⟨ty99, ⟨ty98, trivial, trivial⟩, trivial⟩⟩⟩, ⟨ty106, ⟨ty103, ⟨ty102, ⟨ty101, trivial, trivial⟩, trivial⟩, ⟨ty105, ⟨ty104, trivial, trivial⟩, trivial⟩⟩, ⟨ty109, ⟨ty108, ⟨ty107, trivial, trivial⟩, trivial⟩, ⟨ty111, ⟨ty110, trivial, trivial⟩, trivial⟩⟩⟩⟩⟩⟩, ⟨ty163, ⟨ty137, ⟨ty125, ⟨ty119, ⟨ty116, ⟨ty114, ⟨ty113, trivial, trivial⟩, ⟨ty115, trivial, trivial⟩⟩, ⟨ty118, ⟨ty117, trivial, trivial⟩, trivial⟩⟩, ⟨ty122, ⟨ty121, ⟨ty120, trivial, trivial⟩, trivial⟩, ⟨ty124, ⟨ty123, trivial, trivial⟩, trivial⟩⟩⟩, ⟨ty131, ⟨ty128, ⟨ty127, ⟨ty126, trivial, trivial⟩, trivial⟩, ⟨ty130, ⟨ty129, trivial, trivial⟩, trivial⟩⟩, ⟨ty134, ⟨ty133, ⟨ty132, trivial, trivial⟩, trivial⟩, ⟨ty136, ⟨ty135, trivial, trivial⟩, trivial⟩⟩⟩⟩, ⟨ty150, ⟨ty144, ⟨ty141, ⟨ty139, ⟨ty138, trivial, trivial⟩, ⟨ty140, trivial, trivial⟩⟩, ⟨ty143, ⟨ty142, trivial, trivial⟩, trivial⟩⟩, ⟨ty147, ⟨ty146, ⟨ty145, trivial, trivial⟩, trivial⟩, ⟨ty149, ⟨ty148, trivial, trivial⟩, trivial⟩⟩⟩, ⟨ty156, ⟨ty153, ⟨ty152, ⟨ty151, trivial, trivial⟩, trivial⟩, ⟨ty155, ⟨ty154, trivial, trivial⟩, trivial⟩⟩, ⟨ty159, ⟨ty158, ⟨ty157, trivial, trivial⟩, trivial⟩, ⟨ty161, ⟨ty160, trivial, trivial⟩, trivial⟩⟩⟩⟩⟩, ⟨ty191, ⟨ty178, ⟨ty172, ⟨ty168, ⟨ty165, ⟨ty164, trivial, trivial⟩, ⟨ty166, trivial, trivial⟩⟩, ⟨ty171, ⟨ty170, trivial, trivial⟩, trivial⟩⟩, ⟨ty175, ⟨ty174, ⟨ty173, trivial, trivial⟩, trivial⟩, ⟨ty177, ⟨ty176, trivial, trivial⟩, trivial⟩⟩⟩, ⟨ty184, ⟨ty181, ⟨ty180, ⟨ty179, trivial, trivial⟩, trivial⟩, ⟨ty183, ⟨ty182, trivial, trivial⟩, trivial⟩⟩, ⟨ty188, ⟨ty187, ⟨ty186, trivial, trivial⟩, trivial⟩, ⟨ty190, ⟨ty189, trivial, trivial⟩, trivial⟩⟩⟩⟩, ⟨ty205, ⟨ty199, ⟨ty196, ⟨ty193, ⟨ty192, trivial, trivial⟩, ⟨ty194, trivial, trivial⟩⟩, ⟨ty198, ⟨ty197, trivial, trivial⟩, trivial⟩⟩, ⟨ty202, ⟨ty201, ⟨ty200, trivial, trivial⟩, trivial⟩, ⟨ty204, ⟨ty203, trivial, trivial⟩, trivial⟩⟩⟩, ⟨ty213, ⟨ty209, ⟨ty208, ⟨ty207, trivial, trivial⟩, trivial⟩, ⟨ty212, ⟨ty211, trivial, trivial⟩, trivial⟩⟩, ⟨ty217, ⟨ty216, ⟨ty214, trivial, trivial⟩, trivial⟩, ⟨ty224, ⟨ty221, trivial, trivial⟩, trivial⟩⟩⟩⟩⟩⟩⟩

theorem etab_ok : etab.all (fun t i => eqsOf Tryz.prog t = some i) := ⟨tq92, ⟨tq65, ⟨tq60, ⟨tq49, trivial, trivial⟩, trivial⟩, ⟨tq88, trivial, trivial⟩⟩, ⟨tq134, ⟨tq116, ⟨tq102, trivial, trivial⟩, trivial⟩, ⟨tq155, trivial, trivial⟩⟩⟩

def Γ : TyE Tryz.prog := ⟨⟨fun t => tab.look t, fun _ _ h => tiOf_ok (Tr.look_ok tab_ok h)⟩, fun t => etab.look t, fun _ _ h => eqsOf_ok (Tr.look_ok etab_ok h)⟩

theorem hm : Tryz.prog.follows .mixedOrders = true := by kernel_rfl

theorem F3 : Fun Tryz.prog 3 Tryz.f3 (bodyOf Tryz.f3) := ⟨Tryz.func3, rfl, by kernel_rfl⟩  -- paling/palinglaw44.ExplainWrites
theorem F4 : Fun Tryz.prog 4 Tryz.f4 (bodyOf Tryz.f4) := ⟨Tryz.func4, rfl, by kernel_rfl⟩  -- paling/palinglaw44.ExplainRefuses
theorem F5 : Fun Tryz.prog 5 Tryz.f5 (bodyOf Tryz.f5) := ⟨Tryz.func5, rfl, by kernel_rfl⟩  -- paling/palinglaw44.Great
theorem F6 : Fun Tryz.prog 6 Tryz.f6 (bodyOf Tryz.f6) := ⟨Tryz.func6, rfl, by kernel_rfl⟩  -- paling/palinglaw44.works
theorem F7 : Fun Tryz.prog 7 Tryz.f7 (bodyOf Tryz.f7) := ⟨Tryz.func7, rfl, by kernel_rfl⟩  -- paling/explain.Way
theorem F8 : Fun Tryz.prog 8 Tryz.f8 (bodyOf Tryz.f8) := ⟨Tryz.func8, rfl, by kernel_rfl⟩  -- paling/palingref44.Way
theorem F9 : Fun Tryz.prog 9 Tryz.f9 (bodyOf Tryz.f9) := ⟨Tryz.func9, rfl, by kernel_rfl⟩  -- paling/palingref15.Right
theorem F10 : Fun Tryz.prog 10 Tryz.f10 (bodyOf Tryz.f10) := ⟨Tryz.func10, rfl, by kernel_rfl⟩  -- paling/palingref44.Port
theorem F11 : Fun Tryz.prog 11 Tryz.f11 (bodyOf Tryz.f11) := ⟨Tryz.func11, rfl, by kernel_rfl⟩  -- paling/palingref44.Same
theorem F12 : Fun Tryz.prog 12 Tryz.f12 (bodyOf Tryz.f12) := ⟨Tryz.func12, rfl, by kernel_rfl⟩  -- paling/explain.Port
theorem F13 : Fun Tryz.prog 13 Tryz.f13 (bodyOf Tryz.f13) := ⟨Tryz.func13, rfl, by kernel_rfl⟩  -- paling/explain.Check
theorem F14 : Fun Tryz.prog 14 Tryz.f14 (bodyOf Tryz.f14) := ⟨Tryz.func14, rfl, by kernel_rfl⟩  -- paling/palinglaw15.Great
theorem F15 : Fun Tryz.prog 15 Tryz.f15 (bodyOf Tryz.f15) := ⟨Tryz.func15, rfl, by kernel_rfl⟩  -- paling/names.Right
theorem F16 : Fun Tryz.prog 16 Tryz.f16 (bodyOf Tryz.f16) := ⟨Tryz.func16, rfl, by kernel_rfl⟩  -- paling/witness.Way
theorem F17 : Fun Tryz.prog 17 Tryz.f17 (bodyOf Tryz.f17) := ⟨Tryz.func17, rfl, by kernel_rfl⟩  -- paling/explain.words
theorem F18 : Fun Tryz.prog 18 Tryz.f18 (bodyOf Tryz.f18) := ⟨Tryz.func18, rfl, by kernel_rfl⟩  -- paling/domains.Text
theorem F19 : Fun Tryz.prog 19 Tryz.f19 (bodyOf Tryz.f19) := ⟨Tryz.func19, rfl, by kernel_rfl⟩  -- paling/explain.row
theorem F20 : Fun Tryz.prog 20 Tryz.f20 (bodyOf Tryz.f20) := ⟨Tryz.func20, rfl, by kernel_rfl⟩  -- paling/palingref37.Way
theorem F21 : Fun Tryz.prog 21 Tryz.f21 (bodyOf Tryz.f21) := ⟨Tryz.func21, rfl, by kernel_rfl⟩  -- paling/palingref18.Text
theorem F22 : Fun Tryz.prog 22 Tryz.f22 (bodyOf Tryz.f22) := ⟨Tryz.func22, rfl, by kernel_rfl⟩  -- paling/palingref44.row
theorem F23 : Fun Tryz.prog 23 Tryz.f23 (bodyOf Tryz.f23) := ⟨Tryz.func23, rfl, by kernel_rfl⟩  -- paling/palingref15.domains
theorem F24 : Fun Tryz.prog 24 Tryz.f24 (bodyOf Tryz.f24) := ⟨Tryz.func24, rfl, by kernel_rfl⟩  -- paling/palingref15.ports
theorem F25 : Fun Tryz.prog 25 Tryz.f25 (bodyOf Tryz.f25) := ⟨Tryz.func25, rfl, by kernel_rfl⟩  -- paling/palingref15.links
theorem F26 : Fun Tryz.prog 26 Tryz.f26 (bodyOf Tryz.f26) := ⟨Tryz.func26, rfl, by kernel_rfl⟩  -- paling/palingref15.rest
theorem F27 : Fun Tryz.prog 27 Tryz.f27 (bodyOf Tryz.f27) := ⟨Tryz.func27, rfl, by kernel_rfl⟩  -- paling/palingref15.Place
theorem F28 : Fun Tryz.prog 28 Tryz.f28 (bodyOf Tryz.f28) := ⟨Tryz.func28, rfl, by kernel_rfl⟩  -- paling/palingref10.Texts
theorem F29 : Fun Tryz.prog 29 Tryz.f29 (bodyOf Tryz.f29) := ⟨Tryz.func29, rfl, by kernel_rfl⟩  -- strings.Split
theorem F30 : Fun Tryz.prog 30 Tryz.f30 (bodyOf Tryz.f30) := ⟨Tryz.func30, rfl, by kernel_rfl⟩  -- (*paling/explain.checker).port
theorem F31 : Fun Tryz.prog 31 Tryz.f31 (bodyOf Tryz.f31) := ⟨Tryz.func31, rfl, by kernel_rfl⟩  -- (*paling/explain.checker).domain
theorem F32 : Fun Tryz.prog 32 Tryz.f32 (bodyOf Tryz.f32) := ⟨Tryz.func32, rfl, by kernel_rfl⟩  -- (*paling/explain.checker).host
theorem F33 : Fun Tryz.prog 33 Tryz.f33 (bodyOf Tryz.f33) := ⟨Tryz.func33, rfl, by kernel_rfl⟩  -- (*paling/explain.checker).member
theorem F34 : Fun Tryz.prog 34 Tryz.f34 (bodyOf Tryz.f34) := ⟨Tryz.func34, rfl, by kernel_rfl⟩  -- (*paling/explain.checker).step
theorem F35 : Fun Tryz.prog 35 Tryz.f35 (bodyOf Tryz.f35) := ⟨Tryz.func35, rfl, by kernel_rfl⟩  -- (paling/names.judge).few
theorem F36 : Fun Tryz.prog 36 Tryz.f36 (bodyOf Tryz.f36) := ⟨Tryz.func36, rfl, by kernel_rfl⟩  -- paling/names.all[paling/api.Domain]
theorem F37 : Fun Tryz.prog 37 Tryz.f37 (bodyOf Tryz.f37) := ⟨Tryz.func37, rfl, by kernel_rfl⟩  -- (paling/names.judge).bare
theorem F38 : Fun Tryz.prog 38 Tryz.f38 (bodyOf Tryz.f38) := ⟨Tryz.func38, rfl, by kernel_rfl⟩  -- (paling/names.judge).peers
theorem F39 : Fun Tryz.prog 39 Tryz.f39 (bodyOf Tryz.f39) := ⟨Tryz.func39, rfl, by kernel_rfl⟩  -- paling/names.all[paling/api.Port]
theorem F40 : Fun Tryz.prog 40 Tryz.f40 (bodyOf Tryz.f40) := ⟨Tryz.func40, rfl, by kernel_rfl⟩  -- (paling/names.judge).port
theorem F41 : Fun Tryz.prog 41 Tryz.f41 (bodyOf Tryz.f41) := ⟨Tryz.func41, rfl, by kernel_rfl⟩  -- paling/names.all[paling/api.Link]
theorem F42 : Fun Tryz.prog 42 Tryz.f42 (bodyOf Tryz.f42) := ⟨Tryz.func42, rfl, by kernel_rfl⟩  -- (paling/names.judge).link
theorem F43 : Fun Tryz.prog 43 Tryz.f43 (bodyOf Tryz.f43) := ⟨Tryz.func43, rfl, by kernel_rfl⟩  -- paling/names.all[paling/api.Static]
theorem F44 : Fun Tryz.prog 44 Tryz.f44 (bodyOf Tryz.f44) := ⟨Tryz.func44, rfl, by kernel_rfl⟩  -- (paling/names.judge).static
theorem F45 : Fun Tryz.prog 45 Tryz.f45 (bodyOf Tryz.f45) := ⟨Tryz.func45, rfl, by kernel_rfl⟩  -- paling/names.all[paling/api.Flood]
theorem F46 : Fun Tryz.prog 46 Tryz.f46 (bodyOf Tryz.f46) := ⟨Tryz.func46, rfl, by kernel_rfl⟩  -- paling/names.Right$1
theorem F47 : Fun Tryz.prog 47 Tryz.f47 (bodyOf Tryz.f47) := ⟨Tryz.func47, rfl, by kernel_rfl⟩  -- paling/names.place[paling/api.Device]
theorem F48 : Fun Tryz.prog 48 Tryz.f48 (bodyOf Tryz.f48) := ⟨Tryz.func48, rfl, by kernel_rfl⟩  -- paling/names.all[paling/api.Vrf]
theorem F49 : Fun Tryz.prog 49 Tryz.f49 (bodyOf Tryz.f49) := ⟨Tryz.func49, rfl, by kernel_rfl⟩  -- paling/names.Right$2
theorem F50 : Fun Tryz.prog 50 Tryz.f50 (bodyOf Tryz.f50) := ⟨Tryz.func50, rfl, by kernel_rfl⟩  -- paling/names.rising
theorem F51 : Fun Tryz.prog 51 Tryz.f51 (bodyOf Tryz.f51) := ⟨Tryz.func51, rfl, by kernel_rfl⟩  -- paling/names.all[paling/api.Irb]
theorem F52 : Fun Tryz.prog 52 Tryz.f52 (bodyOf Tryz.f52) := ⟨Tryz.func52, rfl, by kernel_rfl⟩  -- (paling/names.judge).irb
theorem F53 : Fun Tryz.prog 53 Tryz.f53 (bodyOf Tryz.f53) := ⟨Tryz.func53, rfl, by kernel_rfl⟩  -- paling/witness.host
theorem F54 : Fun Tryz.prog 54 Tryz.f54 (bodyOf Tryz.f54) := ⟨Tryz.func54, rfl, by kernel_rfl⟩  -- (*paling/witness.search).begin
theorem F55 : Fun Tryz.prog 55 Tryz.f55 (bodyOf Tryz.f55) := ⟨Tryz.func55, rfl, by kernel_rfl⟩  -- slices.Contains[[]int,int]
theorem F56 : Fun Tryz.prog 56 Tryz.f56 (bodyOf Tryz.f56) := ⟨Tryz.func56, rfl, by kernel_rfl⟩  -- paling/names.Members
theorem F57 : Fun Tryz.prog 57 Tryz.f57 (bodyOf Tryz.f57) := ⟨Tryz.func57, rfl, by kernel_rfl⟩  -- (*paling/witness.search).back
theorem F58 : Fun Tryz.prog 58 Tryz.f58 (bodyOf Tryz.f58) := ⟨Tryz.func58, rfl, by kernel_rfl⟩  -- (*paling/witness.search).extend
theorem F59 : Fun Tryz.prog 59 Tryz.f59 (bodyOf Tryz.f59) := ⟨Tryz.func59, rfl, by kernel_rfl⟩  -- strings.Join
theorem F60 : Fun Tryz.prog 60 Tryz.f60 (bodyOf Tryz.f60) := ⟨Tryz.func60, rfl, by kernel_rfl⟩  -- paling/domains.joined
theorem F61 : Fun Tryz.prog 61 Tryz.f61 (bodyOf Tryz.f61) := ⟨Tryz.func61, rfl, by kernel_rfl⟩  -- paling/num.Text
theorem F62 : Fun Tryz.prog 62 Tryz.f62 (bodyOf Tryz.f62) := ⟨Tryz.func62, rfl, by kernel_rfl⟩  -- paling/links.Other
theorem F63 : Fun Tryz.prog 63 Tryz.f63 (bodyOf Tryz.f63) := ⟨Tryz.func63, rfl, by kernel_rfl⟩  -- paling/addr.Text
theorem F64 : Fun Tryz.prog 64 Tryz.f64 (bodyOf Tryz.f64) := ⟨Tryz.func64, rfl, by kernel_rfl⟩  -- paling/palingref37.Host
theorem F65 : Fun Tryz.prog 65 Tryz.f65 (bodyOf Tryz.f65) := ⟨Tryz.func65, rfl, by kernel_rfl⟩  -- paling/palingref37.more
theorem F66 : Fun Tryz.prog 66 Tryz.f66 (bodyOf Tryz.f66) := ⟨Tryz.func66, rfl, by kernel_rfl⟩  -- paling/palingref15.At
theorem F67 : Fun Tryz.prog 67 Tryz.f67 (bodyOf Tryz.f67) := ⟨Tryz.func67, rfl, by kernel_rfl⟩  -- paling/palingref15.In
theorem F68 : Fun Tryz.prog 68 Tryz.f68 (bodyOf Tryz.f68) := ⟨Tryz.func68, rfl, by kernel_rfl⟩  -- paling/palingref15.Members
theorem F69 : Fun Tryz.prog 69 Tryz.f69 (bodyOf Tryz.f69) := ⟨Tryz.func69, rfl, by kernel_rfl⟩  -- (paling/palingref37.way).end
theorem F70 : Fun Tryz.prog 70 Tryz.f70 (bodyOf Tryz.f70) := ⟨Tryz.func70, rfl, by kernel_rfl⟩  -- paling/palingref35.Hops
theorem F71 : Fun Tryz.prog 71 Tryz.f71 (bodyOf Tryz.f71) := ⟨Tryz.func71, rfl, by kernel_rfl⟩  -- paling/palingref36.Routes
theorem F72 : Fun Tryz.prog 72 Tryz.f72 (bodyOf Tryz.f72) := ⟨Tryz.func72, rfl, by kernel_rfl⟩  -- paling/palingref03.Text
theorem F73 : Fun Tryz.prog 73 Tryz.f73 (bodyOf Tryz.f73) := ⟨Tryz.func73, rfl, by kernel_rfl⟩  -- paling/palingref17.Other
theorem F74 : Fun Tryz.prog 74 Tryz.f74 (bodyOf Tryz.f74) := ⟨Tryz.func74, rfl, by kernel_rfl⟩  -- paling/palingref02.Text
theorem F75 : Fun Tryz.prog 75 Tryz.f75 (bodyOf Tryz.f75) := ⟨Tryz.func75, rfl, by kernel_rfl⟩  -- paling/palingref15.peer
theorem F76 : Fun Tryz.prog 76 Tryz.f76 (bodyOf Tryz.f76) := ⟨Tryz.func76, rfl, by kernel_rfl⟩  -- paling/palingref15.rising
theorem F77 : Fun Tryz.prog 77 Tryz.f77 (bodyOf Tryz.f77) := ⟨Tryz.func77, rfl, by kernel_rfl⟩  -- paling/palingref15.Member
theorem F78 : Fun Tryz.prog 78 Tryz.f78 (bodyOf Tryz.f78) := ⟨Tryz.func78, rfl, by kernel_rfl⟩  -- strings.genSplit
theorem F79 : Fun Tryz.prog 79 Tryz.f79 (bodyOf Tryz.f79) := ⟨Tryz.func79, rfl, by kernel_rfl⟩  -- slices.IndexFunc[[]paling/api.Port,paling/api.Port]
theorem F80 : Fun Tryz.prog 80 Tryz.f80 (bodyOf Tryz.f80) := ⟨Tryz.func80, rfl, by kernel_rfl⟩  -- (*paling/explain.checker).port$1
theorem F81 : Fun Tryz.prog 81 Tryz.f81 (bodyOf Tryz.f81) := ⟨Tryz.func81, rfl, by kernel_rfl⟩  -- (*paling/explain.checker).route
theorem F82 : Fun Tryz.prog 82 Tryz.f82 (bodyOf Tryz.f82) := ⟨Tryz.func82, rfl, by kernel_rfl⟩  -- (*paling/explain.checker).link
theorem F83 : Fun Tryz.prog 83 Tryz.f83 (bodyOf Tryz.f83) := ⟨Tryz.func83, rfl, by kernel_rfl⟩  -- (*paling/explain.checker).mesh
theorem F84 : Fun Tryz.prog 84 Tryz.f84 (bodyOf Tryz.f84) := ⟨Tryz.func84, rfl, by kernel_rfl⟩  -- paling/names.place[paling/api.Irb]
theorem F85 : Fun Tryz.prog 85 Tryz.f85 (bodyOf Tryz.f85) := ⟨Tryz.func85, rfl, by kernel_rfl⟩  -- (paling/names.judge).domain
theorem F86 : Fun Tryz.prog 86 Tryz.f86 (bodyOf Tryz.f86) := ⟨Tryz.func86, rfl, by kernel_rfl⟩  -- paling/names.all[int]
theorem F87 : Fun Tryz.prog 87 Tryz.f87 (bodyOf Tryz.f87) := ⟨Tryz.func87, rfl, by kernel_rfl⟩  -- (paling/names.judge).peers$1
theorem F88 : Fun Tryz.prog 88 Tryz.f88 (bodyOf Tryz.f88) := ⟨Tryz.func88, rfl, by kernel_rfl⟩  -- (paling/names.judge).peer
theorem F89 : Fun Tryz.prog 89 Tryz.f89 (bodyOf Tryz.f89) := ⟨Tryz.func89, rfl, by kernel_rfl⟩  -- slices.Index[[]int,int]
theorem F90 : Fun Tryz.prog 90 Tryz.f90 (bodyOf Tryz.f90) := ⟨Tryz.func90, rfl, by kernel_rfl⟩  -- paling/names.place[paling/api.Link]
theorem F91 : Fun Tryz.prog 91 Tryz.f91 (bodyOf Tryz.f91) := ⟨Tryz.func91, rfl, by kernel_rfl⟩  -- paling/names.place[paling/api.Port]
theorem F92 : Fun Tryz.prog 92 Tryz.f92 (bodyOf Tryz.f92) := ⟨Tryz.func92, rfl, by kernel_rfl⟩  -- paling/names.place[paling/api.Domain]
theorem F93 : Fun Tryz.prog 93 Tryz.f93 (bodyOf Tryz.f93) := ⟨Tryz.func93, rfl, by kernel_rfl⟩  -- paling/names.Member
theorem F94 : Fun Tryz.prog 94 Tryz.f94 (bodyOf Tryz.f94) := ⟨Tryz.func94, rfl, by kernel_rfl⟩  -- paling/num.Rising
theorem F95 : Fun Tryz.prog 95 Tryz.f95 (bodyOf Tryz.f95) := ⟨Tryz.func95, rfl, by kernel_rfl⟩  -- paling/names.place[paling/api.Vrf]
theorem F96 : Fun Tryz.prog 96 Tryz.f96 (bodyOf Tryz.f96) := ⟨Tryz.func96, rfl, by kernel_rfl⟩  -- paling/names.Domain
theorem F97 : Fun Tryz.prog 97 Tryz.f97 (bodyOf Tryz.f97) := ⟨Tryz.func97, rfl, by kernel_rfl⟩  -- (*paling/witness.search).meet
theorem F98 : Fun Tryz.prog 98 Tryz.f98 (bodyOf Tryz.f98) := ⟨Tryz.func98, rfl, by kernel_rfl⟩  -- slices.Reverse[[]paling/reach.Hop,paling/reach.Hop]
theorem F99 : Fun Tryz.prog 99 Tryz.f99 (bodyOf Tryz.f99) := ⟨Tryz.func99, rfl, by kernel_rfl⟩  -- paling/reach.Hops
theorem F100 : Fun Tryz.prog 100 Tryz.f100 (bodyOf Tryz.f100) := ⟨Tryz.func100, rfl, by kernel_rfl⟩  -- paling/choose.Routes
theorem F104 : Fun Tryz.prog 104 Tryz.f104 (bodyOf Tryz.f104) := ⟨Tryz.func104, rfl, by kernel_rfl⟩  -- paling/addr.put
theorem F105 : Fun Tryz.prog 105 Tryz.f105 (bodyOf Tryz.f105) := ⟨Tryz.func105, rfl, by kernel_rfl⟩  -- paling/palingref37.met
theorem F106 : Fun Tryz.prog 106 Tryz.f106 (bodyOf Tryz.f106) := ⟨Tryz.func106, rfl, by kernel_rfl⟩  -- paling/palingref17.Domain
theorem F107 : Fun Tryz.prog 107 Tryz.f107 (bodyOf Tryz.f107) := ⟨Tryz.func107, rfl, by kernel_rfl⟩  -- paling/palingref36.Address
theorem F108 : Fun Tryz.prog 108 Tryz.f108 (bodyOf Tryz.f108) := ⟨Tryz.func108, rfl, by kernel_rfl⟩  -- paling/palingref03.digits
theorem F109 : Fun Tryz.prog 109 Tryz.f109 (bodyOf Tryz.f109) := ⟨Tryz.func109, rfl, by kernel_rfl⟩  -- paling/palingref02.number
theorem F110 : Fun Tryz.prog 110 Tryz.f110 (bodyOf Tryz.f110) := ⟨Tryz.func110, rfl, by kernel_rfl⟩  -- paling/palingref03.Rising
theorem F111 : Fun Tryz.prog 111 Tryz.f111 (bodyOf Tryz.f111) := ⟨Tryz.func111, rfl, by kernel_rfl⟩  -- strings.explode
theorem F112 : Fun Tryz.prog 112 Tryz.f112 (bodyOf Tryz.f112) := ⟨Tryz.func112, rfl, by kernel_rfl⟩  -- strings.Count
theorem F113 : Fun Tryz.prog 113 Tryz.f113 (bodyOf Tryz.f113) := ⟨Tryz.func113, rfl, by kernel_rfl⟩  -- strings.Index
theorem F114 : Fun Tryz.prog 114 Tryz.f114 (bodyOf Tryz.f114) := ⟨Tryz.func114, rfl, by kernel_rfl⟩  -- paling/addr.Read
theorem F115 : Fun Tryz.prog 115 Tryz.f115 (bodyOf Tryz.f115) := ⟨Tryz.func115, rfl, by kernel_rfl⟩  -- paling/route.Lookup
theorem F116 : Fun Tryz.prog 116 Tryz.f116 (bodyOf Tryz.f116) := ⟨Tryz.func116, rfl, by kernel_rfl⟩  -- slices.ContainsFunc[[]paling/api.Irb,paling/api.Irb]
theorem F117 : Fun Tryz.prog 117 Tryz.f117 (bodyOf Tryz.f117) := ⟨Tryz.func117, rfl, by kernel_rfl⟩  -- (*paling/explain.checker).route$1
theorem F118 : Fun Tryz.prog 118 Tryz.f118 (bodyOf Tryz.f118) := ⟨Tryz.func118, rfl, by kernel_rfl⟩  -- paling/links.Domain
theorem F119 : Fun Tryz.prog 119 Tryz.f119 (bodyOf Tryz.f119) := ⟨Tryz.func119, rfl, by kernel_rfl⟩  -- slices.IndexFunc[[]paling/api.Domain,paling/api.Domain]
theorem F120 : Fun Tryz.prog 120 Tryz.f120 (bodyOf Tryz.f120) := ⟨Tryz.func120, rfl, by kernel_rfl⟩  -- (paling/names.judge).domain$1
theorem F121 : Fun Tryz.prog 121 Tryz.f121 (bodyOf Tryz.f121) := ⟨Tryz.func121, rfl, by kernel_rfl⟩  -- (paling/names.judge).vtep
theorem F122 : Fun Tryz.prog 122 Tryz.f122 (bodyOf Tryz.f122) := ⟨Tryz.func122, rfl, by kernel_rfl⟩  -- paling/names.find[paling/api.Domain]
theorem F123 : Fun Tryz.prog 123 Tryz.f123 (bodyOf Tryz.f123) := ⟨Tryz.func123, rfl, by kernel_rfl⟩  -- paling/names.Domain$1
theorem F124 : Fun Tryz.prog 124 Tryz.f124 (bodyOf Tryz.f124) := ⟨Tryz.func124, rfl, by kernel_rfl⟩  -- paling/reach.place
theorem F125 : Fun Tryz.prog 125 Tryz.f125 (bodyOf Tryz.f125) := ⟨Tryz.func125, rfl, by kernel_rfl⟩  -- paling/choose.Address
theorem F128 : Fun Tryz.prog 128 Tryz.f128 (bodyOf Tryz.f128) := ⟨Tryz.func128, rfl, by kernel_rfl⟩  -- paling/palingref17.Cross
theorem F129 : Fun Tryz.prog 129 Tryz.f129 (bodyOf Tryz.f129) := ⟨Tryz.func129, rfl, by kernel_rfl⟩  -- paling/palingref02.First
theorem F130 : Fun Tryz.prog 130 Tryz.f130 (bodyOf Tryz.f130) := ⟨Tryz.func130, rfl, by kernel_rfl⟩  -- paling/palingref02.Last
theorem F131 : Fun Tryz.prog 131 Tryz.f131 (bodyOf Tryz.f131) := ⟨Tryz.func131, rfl, by kernel_rfl⟩  -- paling/palingref36.Leads
theorem F136 : Fun Tryz.prog 136 Tryz.f136 (bodyOf Tryz.f136) := ⟨Tryz.func136, rfl, by kernel_rfl⟩  -- strings.SplitSeq
theorem F137 : Fun Tryz.prog 137 Tryz.f137 (bodyOf Tryz.f137) := ⟨Tryz.func137, rfl, by kernel_rfl⟩  -- paling/addr.small
theorem F138 : Fun Tryz.prog 138 Tryz.f138 (bodyOf Tryz.f138) := ⟨Tryz.func138, rfl, by kernel_rfl⟩  -- paling/route.lookup
theorem F139 : Fun Tryz.prog 139 Tryz.f139 (bodyOf Tryz.f139) := ⟨Tryz.func139, rfl, by kernel_rfl⟩  -- slices.IndexFunc[[]paling/api.Irb,paling/api.Irb]
theorem F140 : Fun Tryz.prog 140 Tryz.f140 (bodyOf Tryz.f140) := ⟨Tryz.func140, rfl, by kernel_rfl⟩  -- paling/links.Cross
theorem F141 : Fun Tryz.prog 141 Tryz.f141 (bodyOf Tryz.f141) := ⟨Tryz.func141, rfl, by kernel_rfl⟩  -- paling/addr.First
theorem F142 : Fun Tryz.prog 142 Tryz.f142 (bodyOf Tryz.f142) := ⟨Tryz.func142, rfl, by kernel_rfl⟩  -- paling/addr.Last
theorem F143 : Fun Tryz.prog 143 Tryz.f143 (bodyOf Tryz.f143) := ⟨Tryz.func143, rfl, by kernel_rfl⟩  -- paling/choose.Address$1
theorem F144 : Fun Tryz.prog 144 Tryz.f144 (bodyOf Tryz.f144) := ⟨Tryz.func144, rfl, by kernel_rfl⟩  -- paling/choose.past
theorem F147 : Fun Tryz.prog 147 Tryz.f147 (bodyOf Tryz.f147) := ⟨Tryz.func147, rfl, by kernel_rfl⟩  -- paling/palingref02.Right
theorem F148 : Fun Tryz.prog 148 Tryz.f148 (bodyOf Tryz.f148) := ⟨Tryz.func148, rfl, by kernel_rfl⟩  -- paling/palingref02.size
theorem F149 : Fun Tryz.prog 149 Tryz.f149 (bodyOf Tryz.f149) := ⟨Tryz.func149, rfl, by kernel_rfl⟩  -- paling/palingref30.Lookup
theorem F150 : Fun Tryz.prog 150 Tryz.f150 (bodyOf Tryz.f150) := ⟨Tryz.func150, rfl, by kernel_rfl⟩  -- paling/palingref36.taken
theorem F156 : Fun Tryz.prog 156 Tryz.f156 (bodyOf Tryz.f156) := ⟨Tryz.func156, rfl, by kernel_rfl⟩  -- strings.splitSeq
theorem F157 : Fun Tryz.prog 157 Tryz.f157 (bodyOf Tryz.f157) := ⟨Tryz.func157, rfl, by kernel_rfl⟩  -- paling/route.device
theorem F158 : Fun Tryz.prog 158 Tryz.f158 (bodyOf Tryz.f158) := ⟨Tryz.func158, rfl, by kernel_rfl⟩  -- paling/addr.Has
theorem F159 : Fun Tryz.prog 159 Tryz.f159 (bodyOf Tryz.f159) := ⟨Tryz.func159, rfl, by kernel_rfl⟩  -- paling/route.sees
theorem F160 : Fun Tryz.prog 160 Tryz.f160 (bodyOf Tryz.f160) := ⟨Tryz.func160, rfl, by kernel_rfl⟩  -- paling/route.lookup$1
theorem F161 : Fun Tryz.prog 161 Tryz.f161 (bodyOf Tryz.f161) := ⟨Tryz.func161, rfl, by kernel_rfl⟩  -- slices.MaxFunc[[]int,int]
theorem F162 : Fun Tryz.prog 162 Tryz.f162 (bodyOf Tryz.f162) := ⟨Tryz.func162, rfl, by kernel_rfl⟩  -- paling/route.lookup$2
theorem F163 : Fun Tryz.prog 163 Tryz.f163 (bodyOf Tryz.f163) := ⟨Tryz.func163, rfl, by kernel_rfl⟩  -- paling/addr.Right
theorem F164 : Fun Tryz.prog 164 Tryz.f164 (bodyOf Tryz.f164) := ⟨Tryz.func164, rfl, by kernel_rfl⟩  -- paling/addr.rest
theorem F165 : Fun Tryz.prog 165 Tryz.f165 (bodyOf Tryz.f165) := ⟨Tryz.func165, rfl, by kernel_rfl⟩  -- paling/choose.past$1
theorem F166 : Fun Tryz.prog 166 Tryz.f166 (bodyOf Tryz.f166) := ⟨Tryz.func166, rfl, by kernel_rfl⟩  -- paling/palingref30.device
theorem F167 : Fun Tryz.prog 167 Tryz.f167 (bodyOf Tryz.f167) := ⟨Tryz.func167, rfl, by kernel_rfl⟩  -- paling/palingref02.Has
theorem F168 : Fun Tryz.prog 168 Tryz.f168 (bodyOf Tryz.f168) := ⟨Tryz.func168, rfl, by kernel_rfl⟩  -- paling/palingref20.Leaks
theorem F169 : Fun Tryz.prog 169 Tryz.f169 (bodyOf Tryz.f169) := ⟨Tryz.func169, rfl, by kernel_rfl⟩  -- paling/palingref30.better
theorem F172 : Fun Tryz.prog 172 Tryz.f172 (bodyOf Tryz.f172) := ⟨Tryz.func172, rfl, by kernel_rfl⟩  -- strings.splitSeq$1
theorem F173 : Fun Tryz.prog 173 Tryz.f173 (bodyOf Tryz.f173) := ⟨Tryz.func173, rfl, by kernel_rfl⟩  -- paling/vrfs.Leaks
theorem F174 : Fun Tryz.prog 174 Tryz.f174 (bodyOf Tryz.f174) := ⟨Tryz.func174, rfl, by kernel_rfl⟩  -- paling/vrfs.Leaks$1
theorem F175 : Fun Tryz.prog 175 Tryz.f175 (bodyOf Tryz.f175) := ⟨Tryz.func175, rfl, by kernel_rfl⟩  -- slices.ContainsFunc[[]int,int]
theorem F176 : Fun Tryz.prog 176 Tryz.f176 (bodyOf Tryz.f176) := ⟨Tryz.func176, rfl, by kernel_rfl⟩  -- slices.IndexFunc[[]int,int]

end Go.Sy.YtlfopmhekhifoaaGreatDoor

namespace Go.Sy.YtlfopmhekhifoaaGreatDoor
open Go.Proofs

structure Device where
  (row prio : Int) (name : ByteArray) (mac vtep : Int)
structure Port where
  (row dev native cost link : Int) (name : ByteArray) (tagged : List Int)
structure Link where
  (row a b : Int)
structure Domain where
  (dev vlan vni irb row : Int) (peers : List Int)
structure Static where
  (row domain port mac : Int)
structure Flood where
  (row dev vni : Int) (addrs : List Int)
structure Vrf where
  (row dev : Int) (name : ByteArray) (imports exports : List Int)
structure Irb where
  (row domain vrf addr bits : Int)
structure Net where
  (devices : List Device) (ports : List Port) (links : List Link) (domains : List Domain) (statics : List Static) (floods : List Flood) (vrfs : List Vrf) (irbs : List Irb)

def deviceSV (d : Device) : SV := .agg [intSV d.row, intSV d.prio, strSV d.name, u64SV d.mac, u32SV d.vtep]
def portSV (p : Port) : SV := .agg [intSV p.row, intSV p.dev, intSV p.native, intSV p.cost, intSV p.link, strSV p.name, .sl 1 intSV p.tagged]
def linkSV (l : Link) : SV := .agg [intSV l.row, intSV l.a, intSV l.b]
def domainSV (d : Domain) : SV := .agg [intSV d.dev, intSV d.vlan, intSV d.vni, intSV d.irb, intSV d.row, .sl 1 intSV d.peers]
def staticSV (s : Static) : SV := .agg [intSV s.row, intSV s.domain, intSV s.port, u64SV s.mac]
def floodSV (f : Flood) : SV := .agg [intSV f.row, intSV f.dev, intSV f.vni, .sl 1 u32SV f.addrs]
def vrfSV (v : Vrf) : SV := .agg [intSV v.row, intSV v.dev, strSV v.name, .sl 1 intSV v.imports, .sl 1 intSV v.exports]
def irbSV (i : Irb) : SV := .agg [intSV i.row, intSV i.domain, intSV i.vrf, u32SV i.addr, intSV i.bits]
def netL (n : Net) : List SV := [.sl 5 deviceSV n.devices, .sl 7 portSV n.ports, .sl 3 linkSV n.links, .sl 6 domainSV n.domains, .sl 4 staticSV n.statics, .sl 4 floodSV n.floods, .sl 5 vrfSV n.vrfs, .sl 5 irbSV n.irbs]
def netSV (n : Net) : SV := .agg [.sl 5 deviceSV n.devices, .sl 7 portSV n.ports, .sl 3 linkSV n.links, .sl 6 domainSV n.domains, .sl 4 staticSV n.statics, .sl 4 floodSV n.floods, .sl 5 vrfSV n.vrfs, .sl 5 irbSV n.irbs]

instance : Inhabited Device := ⟨⟨0, 0, .empty, 0, 0⟩⟩
instance : Inhabited Port := ⟨⟨0, 0, 0, 0, 0, .empty, []⟩⟩
instance : Inhabited Link := ⟨⟨0, 0, 0⟩⟩
instance : Inhabited Domain := ⟨⟨0, 0, 0, 0, 0, []⟩⟩
instance : Inhabited Static := ⟨⟨0, 0, 0, 0⟩⟩
instance : Inhabited Flood := ⟨⟨0, 0, 0, []⟩⟩
instance : Inhabited Vrf := ⟨⟨0, 0, .empty, [], []⟩⟩
instance : Inhabited Irb := ⟨⟨0, 0, 0, 0, 0⟩⟩

def placeB (i : Int) (n : Nat) : Bool := decide (0 ≤ i) && decide (i < n)
def inB (l : List Int) (x : Int) : Bool := l.any (· == x)

/-- What stands at a place. -/
def nth {α : Type} [Inhabited α] (l : List α) (i : Int) : α := (l[i.toNat]?).getD default
theorem nth_eq {α : Type} [Inhabited α] {l : List α} {i : Int} (h : i.toNat < l.length) : nth l i = l[i.toNat] := by
  simp [nth, h]

/-- The first place that is so; or -1. -/
def idxI {α : Type} (p : α → Bool) (l : List α) : Int := match l.findIdx? p with | some i => (i : Int) | none => -1

theorem idxI_found {α : Type} {p : α → Bool} {l : List α} {j : Nat} (h : j < l.length) (h1 : ∀ i (hi : i < l.length), i < j → p l[i] = false) (h2 : p l[j] = true) : idxI p l = j := by
  have : l.findIdx? p = some j := by
    rw [List.findIdx?_eq_some_iff_getElem]
    exact ⟨h, h2, fun i hi => by simp [h1 i (by omega) hi]⟩
  simp [idxI, this]

theorem idxI_none {α : Type} {p : α → Bool} {l : List α} (h1 : ∀ i (hi : i < l.length), p l[i] = false) : idxI p l = -1 := by
  have : l.findIdx? p = none := by
    rw [List.findIdx?_eq_none_iff]
    intro x hx
    obtain ⟨i, hi, rfl⟩ := List.mem_iff_getElem.1 hx
    exact h1 i hi
  simp [idxI, this]

theorem idxI_lt {α : Type} (p : α → Bool) (l : List α) : idxI p l < l.length := by
  unfold idxI
  split
  · rename_i i h
    rw [List.findIdx?_eq_some_iff_getElem] at h
    obtain ⟨h, _⟩ := h
    omega
  · omega

theorem idxI_ge {α : Type} (p : α → Bool) (l : List α) : -1 ≤ idxI p l := by
  unfold idxI
  split <;> omega

theorem idxI_any {α : Type} (p : α → Bool) (l : List α) : decide (0 ≤ idxI p l) = l.any p := by
  unfold idxI
  split
  · rename_i i h
    rw [List.findIdx?_eq_some_iff_getElem] at h
    obtain ⟨h, h2, _⟩ := h
    have : l.any p = true := List.any_eq_true.2 ⟨_, List.getElem_mem h, h2⟩
    rw [this]
    simp
  · rename_i h
    rw [List.findIdx?_eq_none_iff] at h
    have : l.any p = false := by
      rw [List.any_eq_false]
      intro x hx
      simp [h x hx]
    rw [this]
    simp

/-- Is each, with its place, so? -/
def allB {α : Type} (p : Nat → α → Bool) (l : List α) : Bool := l.zipIdx.all fun q => p q.2 q.1

theorem allB_iff {α : Type} {p : Nat → α → Bool} {l : List α} : allB p l = true ↔ ∀ i (h : i < l.length), p i l[i] = true := by
  simp only [allB, List.all_eq_true]
  constructor
  · intro h i hi
    exact h (l[i], i) (by rw [List.mk_mem_zipIdx_iff_getElem?]; simp [hi])
  · rintro h ⟨x, i⟩ hx
    rw [List.mk_mem_zipIdx_iff_getElem?] at hx
    obtain ⟨hi, rfl⟩ := List.getElem?_eq_some_iff.1 hx
    exact h i hi

theorem allB_true {α : Type} {p : Nat → α → Bool} {l : List α} (h : ∀ i (h : i < l.length), p i l[i] = true) : allB p l = true := allB_iff.2 h
theorem allB_false {α : Type} {p : Nat → α → Bool} {l : List α} {i : Nat} (h : i < l.length) (h1 : p i l[i] = false) : allB p l = false := by
  cases hh : allB p l with
  | false => rfl
  | true => have := allB_iff.1 hh i h; rw [h1] at this; cases this

/-- The first j are so. -/
def Upto {α : Type} (p : Nat → α → Bool) (l : List α) (j : Nat) : Prop := ∀ i (h : i < l.length), i < j → p i l[i] = true
theorem upto_zero {α : Type} (p : Nat → α → Bool) (l : List α) : Upto p l 0 := fun i h hj => absurd hj (by omega)
theorem upto_next {α : Type} {p : Nat → α → Bool} {l : List α} {j : Nat} (hI : Upto p l j) (hj : j < l.length) (h : p j l[j] = true) : Upto p l (j + 1) := by
  intro i hi hij
  rcases Nat.lt_or_ge i j with h1 | h1
  · exact hI i hi h1
  · have : i = j := by omega
    subst this
    exact h
theorem upto_all {α : Type} {p : Nat → α → Bool} {l : List α} {j : Nat} (hI : Upto p l j) (hj : l.length ≤ j) : allB p l = true := allB_true fun i hi => hI i hi (by omega)

def Short {α : Type} (l : List α) : Prop := l.length < 2147483648

end Go.Sy.YtlfopmhekhifoaaGreatDoor

namespace Go.Sy.YtlfopmhekhifoaaGreatDoor
open Go.Proofs
-- SIMP: placeB

attribute [local irreducible] Go.Sy.G Go.Sy.DR
set_option maxRecDepth 20000
set_option maxHeartbeats 4000000

theorem placeS_Device {α : Type} (sz : Nat) (e : α → SV) (l : List α) (i : Int) : Sy.Spec Tryz.prog 47 [.sl sz e l, intSV i] [] (boolSV (placeB i l.length)) [] := contract Γ hm 100 F47 Tryz.ntmps47 rfl fun F hF => by
  ((conv=>whnf);repeat((first|refine aF ?_|refine aT ?_);(first|refine rG Γ hm ?_|refine rD Γ hm (by kernel_rfl) ?_);conv=>whnf))
  (repeat' (first | (refine ⟨fun h => ?_, fun h => ?_⟩ <;> (repeat (first | (simp only [placeB] at h) | (simp only [decide_eq_true_eq] at h) | (simp only [decide_eq_false_iff_not] at h) | (simp only [beq_iff_eq] at h) | (simp only [beq_eq_false_iff_ne] at h) | (simp only [bne_iff_ne] at h) | (simp only [bne_eq_false_iff_eq] at h) | (simp only [Bool.and_eq_true] at h) | (simp only [Bool.or_eq_true] at h) | (simp only [Bool.and_eq_false_iff] at h) | (simp only [Bool.or_eq_false_iff] at h) | (simp only [Bool.not_eq_true'] at h) | (simp only [Bool.not_eq_false'] at h) | (simp only [Bool.not_eq_eq_eq_not] at h) | (simp only [Bool.not_true] at h) | (simp only [Bool.not_false] at h))) <;> ((first|refine rG Γ hm ?_|refine rD Γ hm (by kernel_rfl) ?_);(conv=>whnf);repeat((first|refine aF ?_|refine aT ?_);(first|refine rG Γ hm ?_|refine rD Γ hm (by kernel_rfl) ?_);conv=>whnf))) | (refine done0 rfl (.cons .tmp .nil) ?_ rfl) | (refine ⟨(by kernel_rfl), ?_⟩; ((conv=>whnf);repeat((first|refine aF ?_|refine aT ?_);(first|refine rG Γ hm ?_|refine rD Γ hm (by kernel_rfl) ?_);conv=>whnf))) | (refine ⟨by (first | (unfold I64; omega) | omega | (simp only [Int.toNat_natCast]; omega) | done), by (first | (unfold I64; omega) | omega | (simp only [Int.toNat_natCast]; omega) | done), ?_⟩; ((conv=>whnf);repeat((first|refine aF ?_|refine aT ?_);(first|refine rG Γ hm ?_|refine rD Γ hm (by kernel_rfl) ?_);conv=>whnf))) | (refine ⟨by (first | (unfold I64; omega) | omega | (simp only [Int.toNat_natCast]; omega) | done), ?_⟩; ((conv=>whnf);repeat((first|refine aF ?_|refine aT ?_);(first|refine rG Γ hm ?_|refine rD Γ hm (by kernel_rfl) ?_);conv=>whnf)))))
  all_goals (refine congrArg boolSV ?_)
  all_goals grind [placeB]

theorem placeS_Irb {α : Type} (sz : Nat) (e : α → SV) (l : List α) (i : Int) : Sy.Spec Tryz.prog 84 [.sl sz e l, intSV i] [] (boolSV (placeB i l.length)) [] := contract Γ hm 100 F84 Tryz.ntmps84 rfl fun F hF => by
  ((conv=>whnf);repeat((first|refine aF ?_|refine aT ?_);(first|refine rG Γ hm ?_|refine rD Γ hm (by kernel_rfl) ?_);conv=>whnf))
  (repeat' (first | (refine ⟨fun h => ?_, fun h => ?_⟩ <;> (repeat (first | (simp only [placeB] at h) | (simp only [decide_eq_true_eq] at h) | (simp only [decide_eq_false_iff_not] at h) | (simp only [beq_iff_eq] at h) | (simp only [beq_eq_false_iff_ne] at h) | (simp only [bne_iff_ne] at h) | (simp only [bne_eq_false_iff_eq] at h) | (simp only [Bool.and_eq_true] at h) | (simp only [Bool.or_eq_true] at h) | (simp only [Bool.and_eq_false_iff] at h) | (simp only [Bool.or_eq_false_iff] at h) | (simp only [Bool.not_eq_true'] at h) | (simp only [Bool.not_eq_false'] at h) | (simp only [Bool.not_eq_eq_eq_not] at h) | (simp only [Bool.not_true] at h) | (simp only [Bool.not_false] at h))) <;> ((first|refine rG Γ hm ?_|refine rD Γ hm (by kernel_rfl) ?_);(conv=>whnf);repeat((first|refine aF ?_|refine aT ?_);(first|refine rG Γ hm ?_|refine rD Γ hm (by kernel_rfl) ?_);conv=>whnf))) | (refine done0 rfl (.cons .tmp .nil) ?_ rfl) | (refine ⟨(by kernel_rfl), ?_⟩; ((conv=>whnf);repeat((first|refine aF ?_|refine aT ?_);(first|refine rG Γ hm ?_|refine rD Γ hm (by kernel_rfl) ?_);conv=>whnf))) | (refine ⟨by (first | (unfold I64; omega) | omega | (simp only [Int.toNat_natCast]; omega) | done), by (first | (unfold I64; omega) | omega | (simp only [Int.toNat_natCast]; omega) | done), ?_⟩; ((conv=>whnf);repeat((first|refine aF ?_|refine aT ?_);(first|refine rG Γ hm ?_|refine rD Γ hm (by kernel_rfl) ?_);conv=>whnf))) | (refine ⟨by (first | (unfold I64; omega) | omega | (simp only [Int.toNat_natCast]; omega) | done), ?_⟩; ((conv=>whnf);repeat((first|refine aF ?_|refine aT ?_);(first|refine rG Γ hm ?_|refine rD Γ hm (by kernel_rfl) ?_);conv=>whnf)))))
  all_goals (refine congrArg boolSV ?_)
  all_goals grind [placeB]

theorem placeS_Link {α : Type} (sz : Nat) (e : α → SV) (l : List α) (i : Int) : Sy.Spec Tryz.prog 90 [.sl sz e l, intSV i] [] (boolSV (placeB i l.length)) [] := contract Γ hm 100 F90 Tryz.ntmps90 rfl fun F hF => by
  ((conv=>whnf);repeat((first|refine aF ?_|refine aT ?_);(first|refine rG Γ hm ?_|refine rD Γ hm (by kernel_rfl) ?_);conv=>whnf))
  (repeat' (first | (refine ⟨fun h => ?_, fun h => ?_⟩ <;> (repeat (first | (simp only [placeB] at h) | (simp only [decide_eq_true_eq] at h) | (simp only [decide_eq_false_iff_not] at h) | (simp only [beq_iff_eq] at h) | (simp only [beq_eq_false_iff_ne] at h) | (simp only [bne_iff_ne] at h) | (simp only [bne_eq_false_iff_eq] at h) | (simp only [Bool.and_eq_true] at h) | (simp only [Bool.or_eq_true] at h) | (simp only [Bool.and_eq_false_iff] at h) | (simp only [Bool.or_eq_false_iff] at h) | (simp only [Bool.not_eq_true'] at h) | (simp only [Bool.not_eq_false'] at h) | (simp only [Bool.not_eq_eq_eq_not] at h) | (simp only [Bool.not_true] at h) | (simp only [Bool.not_false] at h))) <;> ((first|refine rG Γ hm ?_|refine rD Γ hm (by kernel_rfl) ?_);(conv=>whnf);repeat((first|refine aF ?_|refine aT ?_);(first|refine rG Γ hm ?_|refine rD Γ hm (by kernel_rfl) ?_);conv=>whnf))) | (refine done0 rfl (.cons .tmp .nil) ?_ rfl) | (refine ⟨(by kernel_rfl), ?_⟩; ((conv=>whnf);repeat((first|refine aF ?_|refine aT ?_);(first|refine rG Γ hm ?_|refine rD Γ hm (by kernel_rfl) ?_);conv=>whnf))) | (refine ⟨by (first | (unfold I64; omega) | omega | (simp only [Int.toNat_natCast]; omega) | done), by (first | (unfold I64; omega) | omega | (simp only [Int.toNat_natCast]; omega) | done), ?_⟩; ((conv=>whnf);repeat((first|refine aF ?_|refine aT ?_);(first|refine rG Γ hm ?_|refine rD Γ hm (by kernel_rfl) ?_);conv=>whnf))) | (refine ⟨by (first | (unfold I64; omega) | omega | (simp only [Int.toNat_natCast]; omega) | done), ?_⟩; ((conv=>whnf);repeat((first|refine aF ?_|refine aT ?_);(first|refine rG Γ hm ?_|refine rD Γ hm (by kernel_rfl) ?_);conv=>whnf)))))
  all_goals (refine congrArg boolSV ?_)
  all_goals grind [placeB]

theorem placeS_Port {α : Type} (sz : Nat) (e : α → SV) (l : List α) (i : Int) : Sy.Spec Tryz.prog 91 [.sl sz e l, intSV i] [] (boolSV (placeB i l.length)) [] := contract Γ hm 100 F91 Tryz.ntmps91 rfl fun F hF => by
  ((conv=>whnf);repeat((first|refine aF ?_|refine aT ?_);(first|refine rG Γ hm ?_|refine rD Γ hm (by kernel_rfl) ?_);conv=>whnf))
  (repeat' (first | (refine ⟨fun h => ?_, fun h => ?_⟩ <;> (repeat (first | (simp only [placeB] at h) | (simp only [decide_eq_true_eq] at h) | (simp only [decide_eq_false_iff_not] at h) | (simp only [beq_iff_eq] at h) | (simp only [beq_eq_false_iff_ne] at h) | (simp only [bne_iff_ne] at h) | (simp only [bne_eq_false_iff_eq] at h) | (simp only [Bool.and_eq_true] at h) | (simp only [Bool.or_eq_true] at h) | (simp only [Bool.and_eq_false_iff] at h) | (simp only [Bool.or_eq_false_iff] at h) | (simp only [Bool.not_eq_true'] at h) | (simp only [Bool.not_eq_false'] at h) | (simp only [Bool.not_eq_eq_eq_not] at h) | (simp only [Bool.not_true] at h) | (simp only [Bool.not_false] at h))) <;> ((first|refine rG Γ hm ?_|refine rD Γ hm (by kernel_rfl) ?_);(conv=>whnf);repeat((first|refine aF ?_|refine aT ?_);(first|refine rG Γ hm ?_|refine rD Γ hm (by kernel_rfl) ?_);conv=>whnf))) | (refine done0 rfl (.cons .tmp .nil) ?_ rfl) | (refine ⟨(by kernel_rfl), ?_⟩; ((conv=>whnf);repeat((first|refine aF ?_|refine aT ?_);(first|refine rG Γ hm ?_|refine rD Γ hm (by kernel_rfl) ?_);conv=>whnf))) | (refine ⟨by (first | (unfold I64; omega) | omega | (simp only [Int.toNat_natCast]; omega) | done), by (first | (unfold I64; omega) | omega | (simp only [Int.toNat_natCast]; omega) | done), ?_⟩; ((conv=>whnf);repeat((first|refine aF ?_|refine aT ?_);(first|refine rG Γ hm ?_|refine rD Γ hm (by kernel_rfl) ?_);conv=>whnf))) | (refine ⟨by (first | (unfold I64; omega) | omega | (simp only [Int.toNat_natCast]; omega) | done), ?_⟩; ((conv=>whnf);repeat((first|refine aF ?_|refine aT ?_);(first|refine rG Γ hm ?_|refine rD Γ hm (by kernel_rfl) ?_);conv=>whnf)))))
  all_goals (refine congrArg boolSV ?_)
  all_goals grind [placeB]

theorem placeS_Domain {α : Type} (sz : Nat) (e : α → SV) (l : List α) (i : Int) : Sy.Spec Tryz.prog 92 [.sl sz e l, intSV i] [] (boolSV (placeB i l.length)) [] := contract Γ hm 100 F92 Tryz.ntmps92 rfl fun F hF => by
  ((conv=>whnf);repeat((first|refine aF ?_|refine aT ?_);(first|refine rG Γ hm ?_|refine rD Γ hm (by kernel_rfl) ?_);conv=>whnf))
  (repeat' (first | (refine ⟨fun h => ?_, fun h => ?_⟩ <;> (repeat (first | (simp only [placeB] at h) | (simp only [decide_eq_true_eq] at h) | (simp only [decide_eq_false_iff_not] at h) | (simp only [beq_iff_eq] at h) | (simp only [beq_eq_false_iff_ne] at h) | (simp only [bne_iff_ne] at h) | (simp only [bne_eq_false_iff_eq] at h) | (simp only [Bool.and_eq_true] at h) | (simp only [Bool.or_eq_true] at h) | (simp only [Bool.and_eq_false_iff] at h) | (simp only [Bool.or_eq_false_iff] at h) | (simp only [Bool.not_eq_true'] at h) | (simp only [Bool.not_eq_false'] at h) | (simp only [Bool.not_eq_eq_eq_not] at h) | (simp only [Bool.not_true] at h) | (simp only [Bool.not_false] at h))) <;> ((first|refine rG Γ hm ?_|refine rD Γ hm (by kernel_rfl) ?_);(conv=>whnf);repeat((first|refine aF ?_|refine aT ?_);(first|refine rG Γ hm ?_|refine rD Γ hm (by kernel_rfl) ?_);conv=>whnf))) | (refine done0 rfl (.cons .tmp .nil) ?_ rfl) | (refine ⟨(by kernel_rfl), ?_⟩; ((conv=>whnf);repeat((first|refine aF ?_|refine aT ?_);(first|refine rG Γ hm ?_|refine rD Γ hm (by kernel_rfl) ?_);conv=>whnf))) | (refine ⟨by (first | (unfold I64; omega) | omega | (simp only [Int.toNat_natCast]; omega) | done), by (first | (unfold I64; omega) | omega | (simp only [Int.toNat_natCast]; omega) | done), ?_⟩; ((conv=>whnf);repeat((first|refine aF ?_|refine aT ?_);(first|refine rG Γ hm ?_|refine rD Γ hm (by kernel_rfl) ?_);conv=>whnf))) | (refine ⟨by (first | (unfold I64; omega) | omega | (simp only [Int.toNat_natCast]; omega) | done), ?_⟩; ((conv=>whnf);repeat((first|refine aF ?_|refine aT ?_);(first|refine rG Γ hm ?_|refine rD Γ hm (by kernel_rfl) ?_);conv=>whnf)))))
  all_goals (refine congrArg boolSV ?_)
  all_goals grind [placeB]

theorem placeS_Vrf {α : Type} (sz : Nat) (e : α → SV) (l : List α) (i : Int) : Sy.Spec Tryz.prog 95 [.sl sz e l, intSV i] [] (boolSV (placeB i l.length)) [] := contract Γ hm 100 F95 Tryz.ntmps95 rfl fun F hF => by
  ((conv=>whnf);repeat((first|refine aF ?_|refine aT ?_);(first|refine rG Γ hm ?_|refine rD Γ hm (by kernel_rfl) ?_);conv=>whnf))
  (repeat' (first | (refine ⟨fun h => ?_, fun h => ?_⟩ <;> (repeat (first | (simp only [placeB] at h) | (simp only [decide_eq_true_eq] at h) | (simp only [decide_eq_false_iff_not] at h) | (simp only [beq_iff_eq] at h) | (simp only [beq_eq_false_iff_ne] at h) | (simp only [bne_iff_ne] at h) | (simp only [bne_eq_false_iff_eq] at h) | (simp only [Bool.and_eq_true] at h) | (simp only [Bool.or_eq_true] at h) | (simp only [Bool.and_eq_false_iff] at h) | (simp only [Bool.or_eq_false_iff] at h) | (simp only [Bool.not_eq_true'] at h) | (simp only [Bool.not_eq_false'] at h) | (simp only [Bool.not_eq_eq_eq_not] at h) | (simp only [Bool.not_true] at h) | (simp only [Bool.not_false] at h))) <;> ((first|refine rG Γ hm ?_|refine rD Γ hm (by kernel_rfl) ?_);(conv=>whnf);repeat((first|refine aF ?_|refine aT ?_);(first|refine rG Γ hm ?_|refine rD Γ hm (by kernel_rfl) ?_);conv=>whnf))) | (refine done0 rfl (.cons .tmp .nil) ?_ rfl) | (refine ⟨(by kernel_rfl), ?_⟩; ((conv=>whnf);repeat((first|refine aF ?_|refine aT ?_);(first|refine rG Γ hm ?_|refine rD Γ hm (by kernel_rfl) ?_);conv=>whnf))) | (refine ⟨by (first | (unfold I64; omega) | omega | (simp only [Int.toNat_natCast]; omega) | done), by (first | (unfold I64; omega) | omega | (simp only [Int.toNat_natCast]; omega) | done), ?_⟩; ((conv=>whnf);repeat((first|refine aF ?_|refine aT ?_);(first|refine rG Γ hm ?_|refine rD Γ hm (by kernel_rfl) ?_);conv=>whnf))) | (refine ⟨by (first | (unfold I64; omega) | omega | (simp only [Int.toNat_natCast]; omega) | done), ?_⟩; ((conv=>whnf);repeat((first|refine aF ?_|refine aT ?_);(first|refine rG Γ hm ?_|refine rD Γ hm (by kernel_rfl) ?_);conv=>whnf)))))
  all_goals (refine congrArg boolSV ?_)
  all_goals grind [placeB]

theorem indexS (l : List Int) (x : Int) (hl : Short l) : Sy.Spec Tryz.prog 89 [.sl 1 intSV l, intSV x] [] (intSV (idxI (· == x) l)) [] := contract Γ hm 100 F89 Tryz.ntmps89 rfl fun F hF => by
  unfold Short at hl
  ((conv=>whnf);repeat((first|refine aF ?_|refine aT ?_);(first|refine rG Γ hm ?_|refine rD Γ hm (by kernel_rfl) ?_);conv=>whnf))
  refine G_countP l.length (fun j => ∀ i (h : i < l.length), i < j → (l[i] == x) = false) (fun j => [(0, .sl 1 intSV l), (1, intSV x), (7, intSV l.length), (8, intSV j)]) (fun _ => []) [] (fun i h hj => absurd hj (by omega)) ⟨⟨rfl, rfl, rfl, rfl, rfl, rfl, rfl, rfl, trivial⟩, trivial, rfl, rfl⟩ ?_
  intro j hj hI
  ((first|refine rG Γ hm ?_|refine rD Γ hm (by kernel_rfl) ?_);(conv=>whnf);repeat((first|refine aF ?_|refine aT ?_);(first|refine rG Γ hm ?_|refine rD Γ hm (by kernel_rfl) ?_);conv=>whnf))
  (repeat' (first | (refine ⟨fun h => ?_, fun h => ?_⟩ <;> (repeat (first | (simp only [placeB] at h) | (simp only [decide_eq_true_eq] at h) | (simp only [decide_eq_false_iff_not] at h) | (simp only [beq_iff_eq] at h) | (simp only [beq_eq_false_iff_ne] at h) | (simp only [bne_iff_ne] at h) | (simp only [bne_eq_false_iff_eq] at h) | (simp only [Bool.and_eq_true] at h) | (simp only [Bool.or_eq_true] at h) | (simp only [Bool.and_eq_false_iff] at h) | (simp only [Bool.or_eq_false_iff] at h) | (simp only [Bool.not_eq_true'] at h) | (simp only [Bool.not_eq_false'] at h) | (simp only [Bool.not_eq_eq_eq_not] at h) | (simp only [Bool.not_true] at h) | (simp only [Bool.not_false] at h))) <;> ((first|refine rG Γ hm ?_|refine rD Γ hm (by kernel_rfl) ?_);(conv=>whnf);repeat((first|refine aF ?_|refine aT ?_);(first|refine rG Γ hm ?_|refine rD Γ hm (by kernel_rfl) ?_);conv=>whnf))) | (refine done0 rfl (.cons .tmp .nil) ?_ rfl) | (refine ⟨(by kernel_rfl), ?_⟩; ((conv=>whnf);repeat((first|refine aF ?_|refine aT ?_);(first|refine rG Γ hm ?_|refine rD Γ hm (by kernel_rfl) ?_);conv=>whnf))) | (refine ⟨by (first | (unfold I64; omega) | omega | (simp only [Int.toNat_natCast]; omega) | done), by (first | (unfold I64; omega) | omega | (simp only [Int.toNat_natCast]; omega) | done), ?_⟩; ((conv=>whnf);repeat((first|refine aF ?_|refine aT ?_);(first|refine rG Γ hm ?_|refine rD Γ hm (by kernel_rfl) ?_);conv=>whnf))) | (refine ⟨by (first | (unfold I64; omega) | omega | (simp only [Int.toNat_natCast]; omega) | done), ?_⟩; ((conv=>whnf);repeat((first|refine aF ?_|refine aT ?_);(first|refine rG Γ hm ?_|refine rD Γ hm (by kernel_rfl) ?_);conv=>whnf))) | (refine G_nextP [] hI (by omega) ?_ ⟨⟨rfl, rfl, rfl, rfl, rfl, rfl, rfl, rfl, trivial⟩, trivial, rfl, rfl⟩)))
  all_goals try (refine congrArg intSV ?_)
  · exact idxI_found (by omega) hI (by simpa using h.symm)
  · intro i hi hij
    rcases Nat.lt_or_ge i j with h1 | h1
    · exact hI i hi h1
    · have : i = j := by omega
      subst this
      simpa using Ne.symm h
  · exact idxI_none (fun i hi => hI i hi (by omega))

theorem containsS (l : List Int) (x : Int) (hl : Short l) : Sy.Spec Tryz.prog 55 [.sl 1 intSV l, intSV x] [] (boolSV (inB l x)) [] := contract Γ hm 100 F55 Tryz.ntmps55 rfl fun F hF => by
  ((conv=>whnf);repeat((first|refine aF ?_|refine aT ?_);(first|refine rG Γ hm ?_|refine rD Γ hm (by kernel_rfl) ?_);conv=>whnf))
  (repeat' (first | (refine ⟨fun h => ?_, fun h => ?_⟩ <;> (repeat (first | (simp only [placeB] at h) | (simp only [decide_eq_true_eq] at h) | (simp only [decide_eq_false_iff_not] at h) | (simp only [beq_iff_eq] at h) | (simp only [beq_eq_false_iff_ne] at h) | (simp only [bne_iff_ne] at h) | (simp only [bne_eq_false_iff_eq] at h) | (simp only [Bool.and_eq_true] at h) | (simp only [Bool.or_eq_true] at h) | (simp only [Bool.and_eq_false_iff] at h) | (simp only [Bool.or_eq_false_iff] at h) | (simp only [Bool.not_eq_true'] at h) | (simp only [Bool.not_eq_false'] at h) | (simp only [Bool.not_eq_eq_eq_not] at h) | (simp only [Bool.not_true] at h) | (simp only [Bool.not_false] at h))) <;> ((first|refine rG Γ hm ?_|refine rD Γ hm (by kernel_rfl) ?_);(conv=>whnf);repeat((first|refine aF ?_|refine aT ?_);(first|refine rG Γ hm ?_|refine rD Γ hm (by kernel_rfl) ?_);conv=>whnf))) | (refine done0 rfl (.cons .tmp .nil) ?_ rfl) | (refine ⟨(by kernel_rfl), ?_⟩; ((conv=>whnf);repeat((first|refine aF ?_|refine aT ?_);(first|refine rG Γ hm ?_|refine rD Γ hm (by kernel_rfl) ?_);conv=>whnf))) | (refine ⟨by (first | (unfold I64; omega) | omega | (simp only [Int.toNat_natCast]; omega) | done), by (first | (unfold I64; omega) | omega | (simp only [Int.toNat_natCast]; omega) | done), ?_⟩; ((conv=>whnf);repeat((first|refine aF ?_|refine aT ?_);(first|refine rG Γ hm ?_|refine rD Γ hm (by kernel_rfl) ?_);conv=>whnf))) | (refine ⟨by (first | (unfold I64; omega) | omega | (simp only [Int.toNat_natCast]; omega) | done), ?_⟩; ((conv=>whnf);repeat((first|refine aF ?_|refine aT ?_);(first|refine rG Γ hm ?_|refine rD Γ hm (by kernel_rfl) ?_);conv=>whnf))) | (refine call0 (indexS _ _ hl) F89 rfl rfl rfl rfl rfl ?_; ((first|refine rG Γ hm ?_|refine rD Γ hm (by kernel_rfl) ?_);(conv=>whnf);repeat((first|refine aF ?_|refine aT ?_);(first|refine rG Γ hm ?_|refine rD Γ hm (by kernel_rfl) ?_);conv=>whnf))) | (refine callD0 (indexS _ _ hl) F89 rfl rfl rfl (by kernel_rfl) rfl ?_; ((first|refine rG Γ hm ?_|refine rD Γ hm (by kernel_rfl) ?_);(conv=>whnf);repeat((first|refine aF ?_|refine aT ?_);(first|refine rG Γ hm ?_|refine rD Γ hm (by kernel_rfl) ?_);conv=>whnf)))))
  exact congrArg boolSV (idxI_any _ _).symm

def memberB (p : Port) (v : Int) : Bool := v != 0 && (v == p.native || inB p.tagged v)

theorem memberS (p : Port) (v : Int) (hl : Short p.tagged) : Sy.Spec Tryz.prog 93 [portSV p, intSV v] [] (boolSV (memberB p v)) [] := contract Γ hm 100 F93 Tryz.ntmps93 rfl fun F hF => by
  ((conv=>whnf);repeat((first|refine aF ?_|refine aT ?_);(first|refine rG Γ hm ?_|refine rD Γ hm (by kernel_rfl) ?_);conv=>whnf))
  (repeat' (first | (refine ⟨fun h => ?_, fun h => ?_⟩ <;> (repeat (first | (simp only [placeB] at h) | (simp only [decide_eq_true_eq] at h) | (simp only [decide_eq_false_iff_not] at h) | (simp only [beq_iff_eq] at h) | (simp only [beq_eq_false_iff_ne] at h) | (simp only [bne_iff_ne] at h) | (simp only [bne_eq_false_iff_eq] at h) | (simp only [Bool.and_eq_true] at h) | (simp only [Bool.or_eq_true] at h) | (simp only [Bool.and_eq_false_iff] at h) | (simp only [Bool.or_eq_false_iff] at h) | (simp only [Bool.not_eq_true'] at h) | (simp only [Bool.not_eq_false'] at h) | (simp only [Bool.not_eq_eq_eq_not] at h) | (simp only [Bool.not_true] at h) | (simp only [Bool.not_false] at h))) <;> ((first|refine rG Γ hm ?_|refine rD Γ hm (by kernel_rfl) ?_);(conv=>whnf);repeat((first|refine aF ?_|refine aT ?_);(first|refine rG Γ hm ?_|refine rD Γ hm (by kernel_rfl) ?_);conv=>whnf))) | (refine done0 rfl (.cons .tmp .nil) ?_ rfl) | (refine ⟨(by kernel_rfl), ?_⟩; ((conv=>whnf);repeat((first|refine aF ?_|refine aT ?_);(first|refine rG Γ hm ?_|refine rD Γ hm (by kernel_rfl) ?_);conv=>whnf))) | (refine ⟨by (first | (unfold I64; omega) | omega | (simp only [Int.toNat_natCast]; omega) | done), by (first | (unfold I64; omega) | omega | (simp only [Int.toNat_natCast]; omega) | done), ?_⟩; ((conv=>whnf);repeat((first|refine aF ?_|refine aT ?_);(first|refine rG Γ hm ?_|refine rD Γ hm (by kernel_rfl) ?_);conv=>whnf))) | (refine ⟨by (first | (unfold I64; omega) | omega | (simp only [Int.toNat_natCast]; omega) | done), ?_⟩; ((conv=>whnf);repeat((first|refine aF ?_|refine aT ?_);(first|refine rG Γ hm ?_|refine rD Γ hm (by kernel_rfl) ?_);conv=>whnf))) | (refine call0 (containsS _ _ hl) F55 rfl rfl rfl rfl rfl ?_; ((first|refine rG Γ hm ?_|refine rD Γ hm (by kernel_rfl) ?_);(conv=>whnf);repeat((first|refine aF ?_|refine aT ?_);(first|refine rG Γ hm ?_|refine rD Γ hm (by kernel_rfl) ?_);conv=>whnf))) | (refine callD0 (containsS _ _ hl) F55 rfl rfl rfl (by kernel_rfl) rfl ?_; ((first|refine rG Γ hm ?_|refine rD Γ hm (by kernel_rfl) ?_);(conv=>whnf);repeat((first|refine aF ?_|refine aT ?_);(first|refine rG Γ hm ?_|refine rD Γ hm (by kernel_rfl) ?_);conv=>whnf)))))
  all_goals (refine congrArg boolSV ?_)
  all_goals grind [memberB]

/-- num.Rising. -/
def riseP (l : List Int) (least most : Int) (i : Nat) (x : Int) : Bool := decide (least ≤ x) && decide (x ≤ most) && (i == 0 || decide (nth l ((i : Int) - 1) < x))
def risingB (l : List Int) (least most : Int) : Bool := decide (0 < l.length) && decide (l.length ≤ 16) && allB (riseP l least most) l

theorem numRisingS (l : List Int) (least most : Int) (hl : Short l) : Sy.Spec Tryz.prog 94 [.sl 1 intSV l, intSV least, intSV most] [] (boolSV (risingB l least most)) [] := contract Γ hm 100 F94 Tryz.ntmps94 rfl fun F hF => by
  unfold Short at hl
  ((conv=>whnf);repeat((first|refine aF ?_|refine aT ?_);(first|refine rG Γ hm ?_|refine rD Γ hm (by kernel_rfl) ?_);conv=>whnf))
  refine G_countP l.length (fun j => Upto (riseP l least most) l j) (fun j => [(0, .sl 1 intSV l), (1, intSV least), (2, intSV most), (9, .sl 1 intSV l), (10, intSV l.length), (11, intSV j)]) (fun _ => []) [] (upto_zero _ _) ⟨⟨rfl, rfl, rfl, rfl, rfl, rfl, rfl, rfl, rfl, rfl, rfl, rfl, trivial⟩, trivial, rfl, rfl⟩ ?_
  intro j hj hI
  ((first|refine rG Γ hm ?_|refine rD Γ hm (by kernel_rfl) ?_);(conv=>whnf);repeat((first|refine aF ?_|refine aT ?_);(first|refine rG Γ hm ?_|refine rD Γ hm (by kernel_rfl) ?_);conv=>whnf))
  (repeat' (first | (refine ⟨fun h => ?_, fun h => ?_⟩ <;> (repeat (first | (simp only [placeB] at h) | (simp only [decide_eq_true_eq] at h) | (simp only [decide_eq_false_iff_not] at h) | (simp only [beq_iff_eq] at h) | (simp only [beq_eq_false_iff_ne] at h) | (simp only [bne_iff_ne] at h) | (simp only [bne_eq_false_iff_eq] at h) | (simp only [Bool.and_eq_true] at h) | (simp only [Bool.or_eq_true] at h) | (simp only [Bool.and_eq_false_iff] at h) | (simp only [Bool.or_eq_false_iff] at h) | (simp only [Bool.not_eq_true'] at h) | (simp only [Bool.not_eq_false'] at h) | (simp only [Bool.not_eq_eq_eq_not] at h) | (simp only [Bool.not_true] at h) | (simp only [Bool.not_false] at h))) <;> ((first|refine rG Γ hm ?_|refine rD Γ hm (by kernel_rfl) ?_);(conv=>whnf);repeat((first|refine aF ?_|refine aT ?_);(first|refine rG Γ hm ?_|refine rD Γ hm (by kernel_rfl) ?_);conv=>whnf))) | (refine done0 rfl (.cons .tmp .nil) ?_ rfl) | (refine ⟨(by kernel_rfl), ?_⟩; ((conv=>whnf);repeat((first|refine aF ?_|refine aT ?_);(first|refine rG Γ hm ?_|refine rD Γ hm (by kernel_rfl) ?_);conv=>whnf))) | (refine ⟨by (first | (unfold I64; omega) | omega | (simp only [Int.toNat_natCast]; omega) | done), by (first | (unfold I64; omega) | omega | (simp only [Int.toNat_natCast]; omega) | done), ?_⟩; ((conv=>whnf);repeat((first|refine aF ?_|refine aT ?_);(first|refine rG Γ hm ?_|refine rD Γ hm (by kernel_rfl) ?_);conv=>whnf))) | (refine ⟨by (first | (unfold I64; omega) | omega | (simp only [Int.toNat_natCast]; omega) | done), ?_⟩; ((conv=>whnf);repeat((first|refine aF ?_|refine aT ?_);(first|refine rG Γ hm ?_|refine rD Γ hm (by kernel_rfl) ?_);conv=>whnf))) | (refine G_nextP [] hI (by omega) ?_ ⟨⟨rfl, rfl, rfl, rfl, rfl, rfl, rfl, rfl, rfl, rfl, rfl, rfl, trivial⟩, trivial, rfl, rfl⟩)))
  all_goals try (refine congrArg boolSV ?_)
  all_goals try simp only [Int.toNat_natCast, Int.pred_toNat] at *
  · rw [risingB, allB_false (i := j) (by omega) (by simp [riseP]; omega)]; simp
  · rw [risingB, allB_false (i := j) (by omega) (by simp [riseP]; omega)]; simp
  · rw [risingB, allB_false (i := j) (by omega) (by simp only [riseP, nth_eq (show ((j : Int) - 1).toNat < l.length by omega), Int.pred_toNat, Int.toNat_natCast]; simp; omega)]; simp
  · exact upto_next hI (by omega) (by simp only [riseP, nth_eq (show ((j : Int) - 1).toNat < l.length by omega), Int.pred_toNat, Int.toNat_natCast]; simp; omega)
  · exact upto_next hI (by omega) (by simp [riseP]; omega)
  · rw [risingB, upto_all hI (by omega), Bool.eq_iff_iff]; simp; omega
  · rw [risingB]; simp; omega

theorem risingS (l : List Int) (most : Int) (hl : Short l) : Sy.Spec Tryz.prog 50 [.sl 1 intSV l, intSV most] [] (boolSV (decide (l.length = 0) || risingB l 1 most)) [] := contract Γ hm 100 F50 Tryz.ntmps50 rfl fun F hF => by
  ((conv=>whnf);repeat((first|refine aF ?_|refine aT ?_);(first|refine rG Γ hm ?_|refine rD Γ hm (by kernel_rfl) ?_);conv=>whnf))
  (repeat' (first | (refine ⟨fun h => ?_, fun h => ?_⟩ <;> (repeat (first | (simp only [placeB] at h) | (simp only [decide_eq_true_eq] at h) | (simp only [decide_eq_false_iff_not] at h) | (simp only [beq_iff_eq] at h) | (simp only [beq_eq_false_iff_ne] at h) | (simp only [bne_iff_ne] at h) | (simp only [bne_eq_false_iff_eq] at h) | (simp only [Bool.and_eq_true] at h) | (simp only [Bool.or_eq_true] at h) | (simp only [Bool.and_eq_false_iff] at h) | (simp only [Bool.or_eq_false_iff] at h) | (simp only [Bool.not_eq_true'] at h) | (simp only [Bool.not_eq_false'] at h) | (simp only [Bool.not_eq_eq_eq_not] at h) | (simp only [Bool.not_true] at h) | (simp only [Bool.not_false] at h))) <;> ((first|refine rG Γ hm ?_|refine rD Γ hm (by kernel_rfl) ?_);(conv=>whnf);repeat((first|refine aF ?_|refine aT ?_);(first|refine rG Γ hm ?_|refine rD Γ hm (by kernel_rfl) ?_);conv=>whnf))) | (refine done0 rfl (.cons .tmp .nil) ?_ rfl) | (refine ⟨(by kernel_rfl), ?_⟩; ((conv=>whnf);repeat((first|refine aF ?_|refine aT ?_);(first|refine rG Γ hm ?_|refine rD Γ hm (by kernel_rfl) ?_);conv=>whnf))) | (refine ⟨by (first | (unfold I64; omega) | omega | (simp only [Int.toNat_natCast]; omega) | done), by (first | (unfold I64; omega) | omega | (simp only [Int.toNat_natCast]; omega) | done), ?_⟩; ((conv=>whnf);repeat((first|refine aF ?_|refine aT ?_);(first|refine rG Γ hm ?_|refine rD Γ hm (by kernel_rfl) ?_);conv=>whnf))) | (refine ⟨by (first | (unfold I64; omega) | omega | (simp only [Int.toNat_natCast]; omega) | done), ?_⟩; ((conv=>whnf);repeat((first|refine aF ?_|refine aT ?_);(first|refine rG Γ hm ?_|refine rD Γ hm (by kernel_rfl) ?_);conv=>whnf))) | (refine call0 (numRisingS l 1 most hl) F94 rfl rfl rfl rfl rfl ?_; ((first|refine rG Γ hm ?_|refine rD Γ hm (by kernel_rfl) ?_);(conv=>whnf);repeat((first|refine aF ?_|refine aT ?_);(first|refine rG Γ hm ?_|refine rD Γ hm (by kernel_rfl) ?_);conv=>whnf))) | (refine callD0 (numRisingS l 1 most hl) F94 rfl rfl rfl (by kernel_rfl) rfl ?_; ((first|refine rG Γ hm ?_|refine rD Γ hm (by kernel_rfl) ?_);(conv=>whnf);repeat((first|refine aF ?_|refine aT ?_);(first|refine rG Γ hm ?_|refine rD Γ hm (by kernel_rfl) ?_);conv=>whnf)))))
  all_goals (refine congrArg boolSV ?_)
  all_goals grind

end Go.Sy.YtlfopmhekhifoaaGreatDoor

namespace Go.Sy.YtlfopmhekhifoaaGreatDoor
open Go.Proofs
-- SIMP: placeB

attribute [local irreducible] Go.Sy.G Go.Sy.DR
set_option maxRecDepth 20000
set_option maxHeartbeats 4000000

theorem innL_append {K : List Nat} : ∀ (a b : List SV), innL K (a ++ b) = (innL K a && innL K b)
  | [], b => by simp [innL]
  | x :: a, b => by simp [innL, innL_append a b, Bool.and_assoc]

theorem clo_inn {f : FuncId} {first cap xs : List SV} (hc : (SV.clo (.func f) first cap).inn [] = true) (hx : innL [] xs = true) : innL [] (first ++ xs ++ cap) = true := by
  simp only [SV.inn, Bool.and_eq_true] at hc
  rw [innL_append, innL_append, hc.1, hc.2, hx]
  rfl

theorem indexFuncS_Domain (l : List Domain) (p : Domain → Bool) (f : FuncId) (first cap : List SV) (hc : (SV.clo (.func f) first cap).inn [] = true) (hf : ∀ x ∈ l, FunS Tryz.prog f (first ++ [domainSV x] ++ cap) (boolSV (p x))) (hl : Short l) :
    Sy.Spec Tryz.prog 119 [.sl 6 domainSV l, .clo (.func f) first cap] [] (intSV (idxI p l)) [] := contract Γ hm 100 F119 Tryz.ntmps119 rfl fun F hF => by
  unfold Short at hl
  have hin : ∀ x : Domain, innL [] (first ++ [domainSV x] ++ cap) = true := fun x => clo_inn hc rfl
  ((conv=>whnf);repeat((first|refine aF ?_|refine aT ?_);(first|refine rG Γ hm ?_|refine rD Γ hm (by kernel_rfl) ?_);conv=>whnf))
  refine G_countP l.length (fun j => Upto (fun _ x => !(p x)) l j) (fun j => [(0, .sl 6 domainSV l), (1, .clo (.func f) first cap), (7, intSV l.length), (8, intSV j)]) (fun _ => []) [] (upto_zero _ _) ⟨⟨rfl, rfl, ren_id _, hc, rfl, rfl, rfl, rfl, trivial⟩, trivial, rfl, rfl⟩ ?_
  intro j hj hI
  ((first|refine rG Γ hm ?_|refine rD Γ hm (by kernel_rfl) ?_);(conv=>whnf);repeat((first|refine aF ?_|refine aT ?_);(first|refine rG Γ hm ?_|refine rD Γ hm (by kernel_rfl) ?_);conv=>whnf))
  refine ⟨fun h => ?_, fun h => ?_⟩
  · have h := of_decide_eq_true h
    have hj2 : j < l.length := by omega
    ((first|refine rG Γ hm ?_|refine rD Γ hm (by kernel_rfl) ?_);(conv=>whnf);repeat((first|refine aF ?_|refine aT ?_);(first|refine rG Γ hm ?_|refine rD Γ hm (by kernel_rfl) ?_);conv=>whnf))
    refine ⟨rfl, by omega, by omega, ?_⟩
    ((conv=>whnf);repeat((first|refine aF ?_|refine aT ?_);(first|refine rG Γ hm ?_|refine rD Γ hm (by kernel_rfl) ?_);conv=>whnf))
    refine callC (hf l[j] (List.getElem_mem hj2)) rfl rfl rfl (by simp only [hin]; rfl) rfl rfl ?_
    ((first|refine rG Γ hm ?_|refine rD Γ hm (by kernel_rfl) ?_);(conv=>whnf);repeat((first|refine aF ?_|refine aT ?_);(first|refine rG Γ hm ?_|refine rD Γ hm (by kernel_rfl) ?_);conv=>whnf))
    refine ⟨fun h2 => ?_, fun h2 => ?_⟩
    · ((first|refine rG Γ hm ?_|refine rD Γ hm (by kernel_rfl) ?_);(conv=>whnf);repeat((first|refine aF ?_|refine aT ?_);(first|refine rG Γ hm ?_|refine rD Γ hm (by kernel_rfl) ?_);conv=>whnf))
      refine done0 rfl (.cons .tmp .nil) (congrArg intSV ?_) rfl
      exact idxI_found hj2 (fun i hi hij => by simpa using hI i hi hij) h2
    · ((first|refine rG Γ hm ?_|refine rD Γ hm (by kernel_rfl) ?_);(conv=>whnf);repeat((first|refine aF ?_|refine aT ?_);(first|refine rG Γ hm ?_|refine rD Γ hm (by kernel_rfl) ?_);conv=>whnf))
      refine ⟨by unfold I64; omega, ?_⟩
      ((conv=>whnf);repeat((first|refine aF ?_|refine aT ?_);(first|refine rG Γ hm ?_|refine rD Γ hm (by kernel_rfl) ?_);conv=>whnf))
      exact G_nextP [] hI hj2 (upto_next hI hj2 (by simp [h2])) ⟨⟨rfl, rfl, ren_id _, hc, rfl, rfl, rfl, rfl, trivial⟩, trivial, rfl, rfl⟩
  · have h := of_decide_eq_false h
    ((first|refine rG Γ hm ?_|refine rD Γ hm (by kernel_rfl) ?_);(conv=>whnf);repeat((first|refine aF ?_|refine aT ?_);(first|refine rG Γ hm ?_|refine rD Γ hm (by kernel_rfl) ?_);conv=>whnf))
    refine done0 rfl (.cons .tmp .nil) (congrArg intSV ?_) rfl
    exact idxI_none (fun i hi => by simpa using hI i hi (by omega))

theorem indexFuncS_Port (l : List Port) (p : Port → Bool) (f : FuncId) (first cap : List SV) (hc : (SV.clo (.func f) first cap).inn [] = true) (hf : ∀ x ∈ l, FunS Tryz.prog f (first ++ [portSV x] ++ cap) (boolSV (p x))) (hl : Short l) :
    Sy.Spec Tryz.prog 79 [.sl 7 portSV l, .clo (.func f) first cap] [] (intSV (idxI p l)) [] := contract Γ hm 100 F79 Tryz.ntmps79 rfl fun F hF => by
  unfold Short at hl
  have hin : ∀ x : Port, innL [] (first ++ [portSV x] ++ cap) = true := fun x => clo_inn hc rfl
  ((conv=>whnf);repeat((first|refine aF ?_|refine aT ?_);(first|refine rG Γ hm ?_|refine rD Γ hm (by kernel_rfl) ?_);conv=>whnf))
  refine G_countP l.length (fun j => Upto (fun _ x => !(p x)) l j) (fun j => [(0, .sl 7 portSV l), (1, .clo (.func f) first cap), (7, intSV l.length), (8, intSV j)]) (fun _ => []) [] (upto_zero _ _) ⟨⟨rfl, rfl, ren_id _, hc, rfl, rfl, rfl, rfl, trivial⟩, trivial, rfl, rfl⟩ ?_
  intro j hj hI
  ((first|refine rG Γ hm ?_|refine rD Γ hm (by kernel_rfl) ?_);(conv=>whnf);repeat((first|refine aF ?_|refine aT ?_);(first|refine rG Γ hm ?_|refine rD Γ hm (by kernel_rfl) ?_);conv=>whnf))
  refine ⟨fun h => ?_, fun h => ?_⟩
  · have h := of_decide_eq_true h
    have hj2 : j < l.length := by omega
    ((first|refine rG Γ hm ?_|refine rD Γ hm (by kernel_rfl) ?_);(conv=>whnf);repeat((first|refine aF ?_|refine aT ?_);(first|refine rG Γ hm ?_|refine rD Γ hm (by kernel_rfl) ?_);conv=>whnf))
    refine ⟨rfl, by omega, by omega, ?_⟩
    ((conv=>whnf);repeat((first|refine aF ?_|refine aT ?_);(first|refine rG Γ hm ?_|refine rD Γ hm (by kernel_rfl) ?_);conv=>whnf))
    refine callC (hf l[j] (List.getElem_mem hj2)) rfl rfl rfl (by simp only [hin]; rfl) rfl rfl ?_
    ((first|refine rG Γ hm ?_|refine rD Γ hm (by kernel_rfl) ?_);(conv=>whnf);repeat((first|refine aF ?_|refine aT ?_);(first|refine rG Γ hm ?_|refine rD Γ hm (by kernel_rfl) ?_);conv=>whnf))
    refine ⟨fun h2 => ?_, fun h2 => ?_⟩
    · ((first|refine rG Γ hm ?_|refine rD Γ hm (by kernel_rfl) ?_);(conv=>whnf);repeat((first|refine aF ?_|refine aT ?_);(first|refine rG Γ hm ?_|refine rD Γ hm (by kernel_rfl) ?_);conv=>whnf))
      refine done0 rfl (.cons .tmp .nil) (congrArg intSV ?_) rfl
      exact idxI_found hj2 (fun i hi hij => by simpa using hI i hi hij) h2
    · ((first|refine rG Γ hm ?_|refine rD Γ hm (by kernel_rfl) ?_);(conv=>whnf);repeat((first|refine aF ?_|refine aT ?_);(first|refine rG Γ hm ?_|refine rD Γ hm (by kernel_rfl) ?_);conv=>whnf))
      refine ⟨by unfold I64; omega, ?_⟩
      ((conv=>whnf);repeat((first|refine aF ?_|refine aT ?_);(first|refine rG Γ hm ?_|refine rD Γ hm (by kernel_rfl) ?_);conv=>whnf))
      exact G_nextP [] hI hj2 (upto_next hI hj2 (by simp [h2])) ⟨⟨rfl, rfl, ren_id _, hc, rfl, rfl, rfl, rfl, trivial⟩, trivial, rfl, rfl⟩
  · have h := of_decide_eq_false h
    ((first|refine rG Γ hm ?_|refine rD Γ hm (by kernel_rfl) ?_);(conv=>whnf);repeat((first|refine aF ?_|refine aT ?_);(first|refine rG Γ hm ?_|refine rD Γ hm (by kernel_rfl) ?_);conv=>whnf))
    refine done0 rfl (.cons .tmp .nil) (congrArg intSV ?_) rfl
    exact idxI_none (fun i hi => by simpa using hI i hi (by omega))

theorem allS_Port (l : List Port) (p : Nat → Port → Bool) (f : FuncId) (first cap : List SV) (hc : (SV.clo (.func f) first cap).inn [] = true) (hf : ∀ i (h : i < l.length), FunS Tryz.prog f (first ++ [intSV i, portSV l[i]] ++ cap) (boolSV (p i l[i]))) (hl : Short l) :
    Sy.Spec Tryz.prog 39 [.sl 7 portSV l, .clo (.func f) first cap] [] (boolSV (allB p l)) [] := contract Γ hm 100 F39 Tryz.ntmps39 rfl fun F hF => by
  unfold Short at hl
  have hin : ∀ (i : Nat) (x : Port), innL [] (first ++ [intSV i, portSV x] ++ cap) = true := fun i x => clo_inn hc rfl
  ((conv=>whnf);repeat((first|refine aF ?_|refine aT ?_);(first|refine rG Γ hm ?_|refine rD Γ hm (by kernel_rfl) ?_);conv=>whnf))
  refine G_countP l.length (fun j => Upto p l j) (fun j => [(0, .sl 7 portSV l), (1, .clo (.func f) first cap), (7, .sl 7 portSV l), (8, intSV l.length), (9, intSV j)]) (fun _ => []) [] (upto_zero _ _) ⟨⟨rfl, rfl, ren_id _, hc, rfl, rfl, rfl, rfl, rfl, rfl, trivial⟩, trivial, rfl, rfl⟩ ?_
  intro j hj hI
  ((first|refine rG Γ hm ?_|refine rD Γ hm (by kernel_rfl) ?_);(conv=>whnf);repeat((first|refine aF ?_|refine aT ?_);(first|refine rG Γ hm ?_|refine rD Γ hm (by kernel_rfl) ?_);conv=>whnf))
  refine ⟨fun h => ?_, fun h => ?_⟩
  · have h := of_decide_eq_true h
    have hj2 : j < l.length := by omega
    ((first|refine rG Γ hm ?_|refine rD Γ hm (by kernel_rfl) ?_);(conv=>whnf);repeat((first|refine aF ?_|refine aT ?_);(first|refine rG Γ hm ?_|refine rD Γ hm (by kernel_rfl) ?_);conv=>whnf))
    refine ⟨rfl, by omega, by omega, ?_⟩
    ((conv=>whnf);repeat((first|refine aF ?_|refine aT ?_);(first|refine rG Γ hm ?_|refine rD Γ hm (by kernel_rfl) ?_);conv=>whnf))
    refine callC (hf j hj2) rfl rfl rfl (by simp only [hin]; rfl) rfl rfl ?_
    ((first|refine rG Γ hm ?_|refine rD Γ hm (by kernel_rfl) ?_);(conv=>whnf);repeat((first|refine aF ?_|refine aT ?_);(first|refine rG Γ hm ?_|refine rD Γ hm (by kernel_rfl) ?_);conv=>whnf))
    refine ⟨fun h2 => ?_, fun h2 => ?_⟩
    · ((first|refine rG Γ hm ?_|refine rD Γ hm (by kernel_rfl) ?_);(conv=>whnf);repeat((first|refine aF ?_|refine aT ?_);(first|refine rG Γ hm ?_|refine rD Γ hm (by kernel_rfl) ?_);conv=>whnf))
      refine done0 rfl (.cons .tmp .nil) (congrArg boolSV ?_) rfl
      exact allB_false hj2 (by simpa using h2)
    · ((first|refine rG Γ hm ?_|refine rD Γ hm (by kernel_rfl) ?_);(conv=>whnf);repeat((first|refine aF ?_|refine aT ?_);(first|refine rG Γ hm ?_|refine rD Γ hm (by kernel_rfl) ?_);conv=>whnf))
      refine ⟨by unfold I64; omega, ?_⟩
      ((conv=>whnf);repeat((first|refine aF ?_|refine aT ?_);(first|refine rG Γ hm ?_|refine rD Γ hm (by kernel_rfl) ?_);conv=>whnf))
      exact G_nextP [] hI hj2 (upto_next hI hj2 (by simpa using h2)) ⟨⟨rfl, rfl, ren_id _, hc, rfl, rfl, rfl, rfl, rfl, rfl, trivial⟩, trivial, rfl, rfl⟩
  · have h := of_decide_eq_false h
    ((first|refine rG Γ hm ?_|refine rD Γ hm (by kernel_rfl) ?_);(conv=>whnf);repeat((first|refine aF ?_|refine aT ?_);(first|refine rG Γ hm ?_|refine rD Γ hm (by kernel_rfl) ?_);conv=>whnf))
    refine done0 rfl (.cons .tmp .nil) (congrArg boolSV ?_) rfl
    exact upto_all hI (by omega)

theorem allS_Link (l : List Link) (p : Nat → Link → Bool) (f : FuncId) (first cap : List SV) (hc : (SV.clo (.func f) first cap).inn [] = true) (hf : ∀ i (h : i < l.length), FunS Tryz.prog f (first ++ [intSV i, linkSV l[i]] ++ cap) (boolSV (p i l[i]))) (hl : Short l) :
    Sy.Spec Tryz.prog 41 [.sl 3 linkSV l, .clo (.func f) first cap] [] (boolSV (allB p l)) [] := contract Γ hm 100 F41 Tryz.ntmps41 rfl fun F hF => by
  unfold Short at hl
  have hin : ∀ (i : Nat) (x : Link), innL [] (first ++ [intSV i, linkSV x] ++ cap) = true := fun i x => clo_inn hc rfl
  ((conv=>whnf);repeat((first|refine aF ?_|refine aT ?_);(first|refine rG Γ hm ?_|refine rD Γ hm (by kernel_rfl) ?_);conv=>whnf))
  refine G_countP l.length (fun j => Upto p l j) (fun j => [(0, .sl 3 linkSV l), (1, .clo (.func f) first cap), (7, .sl 3 linkSV l), (8, intSV l.length), (9, intSV j)]) (fun _ => []) [] (upto_zero _ _) ⟨⟨rfl, rfl, ren_id _, hc, rfl, rfl, rfl, rfl, rfl, rfl, trivial⟩, trivial, rfl, rfl⟩ ?_
  intro j hj hI
  ((first|refine rG Γ hm ?_|refine rD Γ hm (by kernel_rfl) ?_);(conv=>whnf);repeat((first|refine aF ?_|refine aT ?_);(first|refine rG Γ hm ?_|refine rD Γ hm (by kernel_rfl) ?_);conv=>whnf))
  refine ⟨fun h => ?_, fun h => ?_⟩
  · have h := of_decide_eq_true h
    have hj2 : j < l.length := by omega
    ((first|refine rG Γ hm ?_|refine rD Γ hm (by kernel_rfl) ?_);(conv=>whnf);repeat((first|refine aF ?_|refine aT ?_);(first|refine rG Γ hm ?_|refine rD Γ hm (by kernel_rfl) ?_);conv=>whnf))
    refine ⟨rfl, by omega, by omega, ?_⟩
    ((conv=>whnf);repeat((first|refine aF ?_|refine aT ?_);(first|refine rG Γ hm ?_|refine rD Γ hm (by kernel_rfl) ?_);conv=>whnf))
    refine callC (hf j hj2) rfl rfl rfl (by simp only [hin]; rfl) rfl rfl ?_
    ((first|refine rG Γ hm ?_|refine rD Γ hm (by kernel_rfl) ?_);(conv=>whnf);repeat((first|refine aF ?_|refine aT ?_);(first|refine rG Γ hm ?_|refine rD Γ hm (by kernel_rfl) ?_);conv=>whnf))
    refine ⟨fun h2 => ?_, fun h2 => ?_⟩
    · ((first|refine rG Γ hm ?_|refine rD Γ hm (by kernel_rfl) ?_);(conv=>whnf);repeat((first|refine aF ?_|refine aT ?_);(first|refine rG Γ hm ?_|refine rD Γ hm (by kernel_rfl) ?_);conv=>whnf))
      refine done0 rfl (.cons .tmp .nil) (congrArg boolSV ?_) rfl
      exact allB_false hj2 (by simpa using h2)
    · ((first|refine rG Γ hm ?_|refine rD Γ hm (by kernel_rfl) ?_);(conv=>whnf);repeat((first|refine aF ?_|refine aT ?_);(first|refine rG Γ hm ?_|refine rD Γ hm (by kernel_rfl) ?_);conv=>whnf))
      refine ⟨by unfold I64; omega, ?_⟩
      ((conv=>whnf);repeat((first|refine aF ?_|refine aT ?_);(first|refine rG Γ hm ?_|refine rD Γ hm (by kernel_rfl) ?_);conv=>whnf))
      exact G_nextP [] hI hj2 (upto_next hI hj2 (by simpa using h2)) ⟨⟨rfl, rfl, ren_id _, hc, rfl, rfl, rfl, rfl, rfl, rfl, trivial⟩, trivial, rfl, rfl⟩
  · have h := of_decide_eq_false h
    ((first|refine rG Γ hm ?_|refine rD Γ hm (by kernel_rfl) ?_);(conv=>whnf);repeat((first|refine aF ?_|refine aT ?_);(first|refine rG Γ hm ?_|refine rD Γ hm (by kernel_rfl) ?_);conv=>whnf))
    refine done0 rfl (.cons .tmp .nil) (congrArg boolSV ?_) rfl
    exact upto_all hI (by omega)

theorem allS_Domain (l : List Domain) (p : Nat → Domain → Bool) (f : FuncId) (first cap : List SV) (hc : (SV.clo (.func f) first cap).inn [] = true) (hf : ∀ i (h : i < l.length), FunS Tryz.prog f (first ++ [intSV i, domainSV l[i]] ++ cap) (boolSV (p i l[i]))) (hl : Short l) :
    Sy.Spec Tryz.prog 36 [.sl 6 domainSV l, .clo (.func f) first cap] [] (boolSV (allB p l)) [] := contract Γ hm 100 F36 Tryz.ntmps36 rfl fun F hF => by
  unfold Short at hl
  have hin : ∀ (i : Nat) (x : Domain), innL [] (first ++ [intSV i, domainSV x] ++ cap) = true := fun i x => clo_inn hc rfl
  ((conv=>whnf);repeat((first|refine aF ?_|refine aT ?_);(first|refine rG Γ hm ?_|refine rD Γ hm (by kernel_rfl) ?_);conv=>whnf))
  refine G_countP l.length (fun j => Upto p l j) (fun j => [(0, .sl 6 domainSV l), (1, .clo (.func f) first cap), (7, .sl 6 domainSV l), (8, intSV l.length), (9, intSV j)]) (fun _ => []) [] (upto_zero _ _) ⟨⟨rfl, rfl, ren_id _, hc, rfl, rfl, rfl, rfl, rfl, rfl, trivial⟩, trivial, rfl, rfl⟩ ?_
  intro j hj hI
  ((first|refine rG Γ hm ?_|refine rD Γ hm (by kernel_rfl) ?_);(conv=>whnf);repeat((first|refine aF ?_|refine aT ?_);(first|refine rG Γ hm ?_|refine rD Γ hm (by kernel_rfl) ?_);conv=>whnf))
  refine ⟨fun h => ?_, fun h => ?_⟩
  · have h := of_decide_eq_true h
    have hj2 : j < l.length := by omega
    ((first|refine rG Γ hm ?_|refine rD Γ hm (by kernel_rfl) ?_);(conv=>whnf);repeat((first|refine aF ?_|refine aT ?_);(first|refine rG Γ hm ?_|refine rD Γ hm (by kernel_rfl) ?_);conv=>whnf))
    refine ⟨rfl, by omega, by omega, ?_⟩
    ((conv=>whnf);repeat((first|refine aF ?_|refine aT ?_);(first|refine rG Γ hm ?_|refine rD Γ hm (by kernel_rfl) ?_);conv=>whnf))
    refine callC (hf j hj2) rfl rfl rfl (by simp only [hin]; rfl) rfl rfl ?_
    ((first|refine rG Γ hm ?_|refine rD Γ hm (by kernel_rfl) ?_);(conv=>whnf);repeat((first|refine aF ?_|refine aT ?_);(first|refine rG Γ hm ?_|refine rD Γ hm (by kernel_rfl) ?_);conv=>whnf))
    refine ⟨fun h2 => ?_, fun h2 => ?_⟩
    · ((first|refine rG Γ hm ?_|refine rD Γ hm (by kernel_rfl) ?_);(conv=>whnf);repeat((first|refine aF ?_|refine aT ?_);(first|refine rG Γ hm ?_|refine rD Γ hm (by kernel_rfl) ?_);conv=>whnf))
      refine done0 rfl (.cons .tmp .nil) (congrArg boolSV ?_) rfl
      exact allB_false hj2 (by simpa using h2)
    · ((first|refine rG Γ hm ?_|refine rD Γ hm (by kernel_rfl) ?_);(conv=>whnf);repeat((first|refine aF ?_|refine aT ?_);(first|refine rG Γ hm ?_|refine rD Γ hm (by kernel_rfl) ?_);conv=>whnf))
      refine ⟨by unfold I64; omega, ?_⟩
      ((conv=>whnf);repeat((first|refine aF ?_|refine aT ?_);(first|refine rG Γ hm ?_|refine rD Γ hm (by kernel_rfl) ?_);conv=>whnf))
      exact G_nextP [] hI hj2 (upto_next hI hj2 (by simpa using h2)) ⟨⟨rfl, rfl, ren_id _, hc, rfl, rfl, rfl, rfl, rfl, rfl, trivial⟩, trivial, rfl, rfl⟩
  · have h := of_decide_eq_false h
    ((first|refine rG Γ hm ?_|refine rD Γ hm (by kernel_rfl) ?_);(conv=>whnf);repeat((first|refine aF ?_|refine aT ?_);(first|refine rG Γ hm ?_|refine rD Γ hm (by kernel_rfl) ?_);conv=>whnf))
    refine done0 rfl (.cons .tmp .nil) (congrArg boolSV ?_) rfl
    exact upto_all hI (by omega)

theorem allS_Static (l : List Static) (p : Nat → Static → Bool) (f : FuncId) (first cap : List SV) (hc : (SV.clo (.func f) first cap).inn [] = true) (hf : ∀ i (h : i < l.length), FunS Tryz.prog f (first ++ [intSV i, staticSV l[i]] ++ cap) (boolSV (p i l[i]))) (hl : Short l) :
    Sy.Spec Tryz.prog 43 [.sl 4 staticSV l, .clo (.func f) first cap] [] (boolSV (allB p l)) [] := contract Γ hm 100 F43 Tryz.ntmps43 rfl fun F hF => by
  unfold Short at hl
  have hin : ∀ (i : Nat) (x : Static), innL [] (first ++ [intSV i, staticSV x] ++ cap) = true := fun i x => clo_inn hc rfl
  ((conv=>whnf);repeat((first|refine aF ?_|refine aT ?_);(first|refine rG Γ hm ?_|refine rD Γ hm (by kernel_rfl) ?_);conv=>whnf))
  refine G_countP l.length (fun j => Upto p l j) (fun j => [(0, .sl 4 staticSV l), (1, .clo (.func f) first cap), (7, .sl 4 staticSV l), (8, intSV l.length), (9, intSV j)]) (fun _ => []) [] (upto_zero _ _) ⟨⟨rfl, rfl, ren_id _, hc, rfl, rfl, rfl, rfl, rfl, rfl, trivial⟩, trivial, rfl, rfl⟩ ?_
  intro j hj hI
  ((first|refine rG Γ hm ?_|refine rD Γ hm (by kernel_rfl) ?_);(conv=>whnf);repeat((first|refine aF ?_|refine aT ?_);(first|refine rG Γ hm ?_|refine rD Γ hm (by kernel_rfl) ?_);conv=>whnf))
  refine ⟨fun h => ?_, fun h => ?_⟩
  · have h := of_decide_eq_true h
    have hj2 : j < l.length := by omega
    ((first|refine rG Γ hm ?_|refine rD Γ hm (by kernel_rfl) ?_);(conv=>whnf);repeat((first|refine aF ?_|refine aT ?_);(first|refine rG Γ hm ?_|refine rD Γ hm (by kernel_rfl) ?_);conv=>whnf))
    refine ⟨rfl, by omega, by omega, ?_⟩
    ((conv=>whnf);repeat((first|refine aF ?_|refine aT ?_);(first|refine rG Γ hm ?_|refine rD Γ hm (by kernel_rfl) ?_);conv=>whnf))
    refine callC (hf j hj2) rfl rfl rfl (by simp only [hin]; rfl) rfl rfl ?_
    ((first|refine rG Γ hm ?_|refine rD Γ hm (by kernel_rfl) ?_);(conv=>whnf);repeat((first|refine aF ?_|refine aT ?_);(first|refine rG Γ hm ?_|refine rD Γ hm (by kernel_rfl) ?_);conv=>whnf))
    refine ⟨fun h2 => ?_, fun h2 => ?_⟩
    · ((first|refine rG Γ hm ?_|refine rD Γ hm (by kernel_rfl) ?_);(conv=>whnf);repeat((first|refine aF ?_|refine aT ?_);(first|refine rG Γ hm ?_|refine rD Γ hm (by kernel_rfl) ?_);conv=>whnf))
      refine done0 rfl (.cons .tmp .nil) (congrArg boolSV ?_) rfl
      exact allB_false hj2 (by simpa using h2)
    · ((first|refine rG Γ hm ?_|refine rD Γ hm (by kernel_rfl) ?_);(conv=>whnf);repeat((first|refine aF ?_|refine aT ?_);(first|refine rG Γ hm ?_|refine rD Γ hm (by kernel_rfl) ?_);conv=>whnf))
      refine ⟨by unfold I64; omega, ?_⟩
      ((conv=>whnf);repeat((first|refine aF ?_|refine aT ?_);(first|refine rG Γ hm ?_|refine rD Γ hm (by kernel_rfl) ?_);conv=>whnf))
      exact G_nextP [] hI hj2 (upto_next hI hj2 (by simpa using h2)) ⟨⟨rfl, rfl, ren_id _, hc, rfl, rfl, rfl, rfl, rfl, rfl, trivial⟩, trivial, rfl, rfl⟩
  · have h := of_decide_eq_false h
    ((first|refine rG Γ hm ?_|refine rD Γ hm (by kernel_rfl) ?_);(conv=>whnf);repeat((first|refine aF ?_|refine aT ?_);(first|refine rG Γ hm ?_|refine rD Γ hm (by kernel_rfl) ?_);conv=>whnf))
    refine done0 rfl (.cons .tmp .nil) (congrArg boolSV ?_) rfl
    exact upto_all hI (by omega)

theorem allS_Flood (l : List Flood) (p : Nat → Flood → Bool) (f : FuncId) (first cap : List SV) (hc : (SV.clo (.func f) first cap).inn [] = true) (hf : ∀ i (h : i < l.length), FunS Tryz.prog f (first ++ [intSV i, floodSV l[i]] ++ cap) (boolSV (p i l[i]))) (hl : Short l) :
    Sy.Spec Tryz.prog 45 [.sl 4 floodSV l, .clo (.func f) first cap] [] (boolSV (allB p l)) [] := contract Γ hm 100 F45 Tryz.ntmps45 rfl fun F hF => by
  unfold Short at hl
  have hin : ∀ (i : Nat) (x : Flood), innL [] (first ++ [intSV i, floodSV x] ++ cap) = true := fun i x => clo_inn hc rfl
  ((conv=>whnf);repeat((first|refine aF ?_|refine aT ?_);(first|refine rG Γ hm ?_|refine rD Γ hm (by kernel_rfl) ?_);conv=>whnf))
  refine G_countP l.length (fun j => Upto p l j) (fun j => [(0, .sl 4 floodSV l), (1, .clo (.func f) first cap), (7, .sl 4 floodSV l), (8, intSV l.length), (9, intSV j)]) (fun _ => []) [] (upto_zero _ _) ⟨⟨rfl, rfl, ren_id _, hc, rfl, rfl, rfl, rfl, rfl, rfl, trivial⟩, trivial, rfl, rfl⟩ ?_
  intro j hj hI
  ((first|refine rG Γ hm ?_|refine rD Γ hm (by kernel_rfl) ?_);(conv=>whnf);repeat((first|refine aF ?_|refine aT ?_);(first|refine rG Γ hm ?_|refine rD Γ hm (by kernel_rfl) ?_);conv=>whnf))
  refine ⟨fun h => ?_, fun h => ?_⟩
  · have h := of_decide_eq_true h
    have hj2 : j < l.length := by omega
    ((first|refine rG Γ hm ?_|refine rD Γ hm (by kernel_rfl) ?_);(conv=>whnf);repeat((first|refine aF ?_|refine aT ?_);(first|refine rG Γ hm ?_|refine rD Γ hm (by kernel_rfl) ?_);conv=>whnf))
    refine ⟨rfl, by omega, by omega, ?_⟩
    ((conv=>whnf);repeat((first|refine aF ?_|refine aT ?_);(first|refine rG Γ hm ?_|refine rD Γ hm (by kernel_rfl) ?_);conv=>whnf))
    refine callC (hf j hj2) rfl rfl rfl (by simp only [hin]; rfl) rfl rfl ?_
    ((first|refine rG Γ hm ?_|refine rD Γ hm (by kernel_rfl) ?_);(conv=>whnf);repeat((first|refine aF ?_|refine aT ?_);(first|refine rG Γ hm ?_|refine rD Γ hm (by kernel_rfl) ?_);conv=>whnf))
    refine ⟨fun h2 => ?_, fun h2 => ?_⟩
    · ((first|refine rG Γ hm ?_|refine rD Γ hm (by kernel_rfl) ?_);(conv=>whnf);repeat((first|refine aF ?_|refine aT ?_);(first|refine rG Γ hm ?_|refine rD Γ hm (by kernel_rfl) ?_);conv=>whnf))
      refine done0 rfl (.cons .tmp .nil) (congrArg boolSV ?_) rfl
      exact allB_false hj2 (by simpa using h2)
    · ((first|refine rG Γ hm ?_|refine rD Γ hm (by kernel_rfl) ?_);(conv=>whnf);repeat((first|refine aF ?_|refine aT ?_);(first|refine rG Γ hm ?_|refine rD Γ hm (by kernel_rfl) ?_);conv=>whnf))
      refine ⟨by unfold I64; omega, ?_⟩
      ((conv=>whnf);repeat((first|refine aF ?_|refine aT ?_);(first|refine rG Γ hm ?_|refine rD Γ hm (by kernel_rfl) ?_);conv=>whnf))
      exact G_nextP [] hI hj2 (upto_next hI hj2 (by simpa using h2)) ⟨⟨rfl, rfl, ren_id _, hc, rfl, rfl, rfl, rfl, rfl, rfl, trivial⟩, trivial, rfl, rfl⟩
  · have h := of_decide_eq_false h
    ((first|refine rG Γ hm ?_|refine rD Γ hm (by kernel_rfl) ?_);(conv=>whnf);repeat((first|refine aF ?_|refine aT ?_);(first|refine rG Γ hm ?_|refine rD Γ hm (by kernel_rfl) ?_);conv=>whnf))
    refine done0 rfl (.cons .tmp .nil) (congrArg boolSV ?_) rfl
    exact upto_all hI (by omega)

theorem allS_Vrf (l : List Vrf) (p : Nat → Vrf → Bool) (f : FuncId) (first cap : List SV) (hc : (SV.clo (.func f) first cap).inn [] = true) (hf : ∀ i (h : i < l.length), FunS Tryz.prog f (first ++ [intSV i, vrfSV l[i]] ++ cap) (boolSV (p i l[i]))) (hl : Short l) :
    Sy.Spec Tryz.prog 48 [.sl 5 vrfSV l, .clo (.func f) first cap] [] (boolSV (allB p l)) [] := contract Γ hm 100 F48 Tryz.ntmps48 rfl fun F hF => by
  unfold Short at hl
  have hin : ∀ (i : Nat) (x : Vrf), innL [] (first ++ [intSV i, vrfSV x] ++ cap) = true := fun i x => clo_inn hc rfl
  ((conv=>whnf);repeat((first|refine aF ?_|refine aT ?_);(first|refine rG Γ hm ?_|refine rD Γ hm (by kernel_rfl) ?_);conv=>whnf))
  refine G_countP l.length (fun j => Upto p l j) (fun j => [(0, .sl 5 vrfSV l), (1, .clo (.func f) first cap), (7, .sl 5 vrfSV l), (8, intSV l.length), (9, intSV j)]) (fun _ => []) [] (upto_zero _ _) ⟨⟨rfl, rfl, ren_id _, hc, rfl, rfl, rfl, rfl, rfl, rfl, trivial⟩, trivial, rfl, rfl⟩ ?_
  intro j hj hI
  ((first|refine rG Γ hm ?_|refine rD Γ hm (by kernel_rfl) ?_);(conv=>whnf);repeat((first|refine aF ?_|refine aT ?_);(first|refine rG Γ hm ?_|refine rD Γ hm (by kernel_rfl) ?_);conv=>whnf))
  refine ⟨fun h => ?_, fun h => ?_⟩
  · have h := of_decide_eq_true h
    have hj2 : j < l.length := by omega
    ((first|refine rG Γ hm ?_|refine rD Γ hm (by kernel_rfl) ?_);(conv=>whnf);repeat((first|refine aF ?_|refine aT ?_);(first|refine rG Γ hm ?_|refine rD Γ hm (by kernel_rfl) ?_);conv=>whnf))
    refine ⟨rfl, by omega, by omega, ?_⟩
    ((conv=>whnf);repeat((first|refine aF ?_|refine aT ?_);(first|refine rG Γ hm ?_|refine rD Γ hm (by kernel_rfl) ?_);conv=>whnf))
    refine callC (hf j hj2) rfl rfl rfl (by simp only [hin]; rfl) rfl rfl ?_
    ((first|refine rG Γ hm ?_|refine rD Γ hm (by kernel_rfl) ?_);(conv=>whnf);repeat((first|refine aF ?_|refine aT ?_);(first|refine rG Γ hm ?_|refine rD Γ hm (by kernel_rfl) ?_);conv=>whnf))
    refine ⟨fun h2 => ?_, fun h2 => ?_⟩
    · ((first|refine rG Γ hm ?_|refine rD Γ hm (by kernel_rfl) ?_);(conv=>whnf);repeat((first|refine aF ?_|refine aT ?_);(first|refine rG Γ hm ?_|refine rD Γ hm (by kernel_rfl) ?_);conv=>whnf))
      refine done0 rfl (.cons .tmp .nil) (congrArg boolSV ?_) rfl
      exact allB_false hj2 (by simpa using h2)
    · ((first|refine rG Γ hm ?_|refine rD Γ hm (by kernel_rfl) ?_);(conv=>whnf);repeat((first|refine aF ?_|refine aT ?_);(first|refine rG Γ hm ?_|refine rD Γ hm (by kernel_rfl) ?_);conv=>whnf))
      refine ⟨by unfold I64; omega, ?_⟩
      ((conv=>whnf);repeat((first|refine aF ?_|refine aT ?_);(first|refine rG Γ hm ?_|refine rD Γ hm (by kernel_rfl) ?_);conv=>whnf))
      exact G_nextP [] hI hj2 (upto_next hI hj2 (by simpa using h2)) ⟨⟨rfl, rfl, ren_id _, hc, rfl, rfl, rfl, rfl, rfl, rfl, trivial⟩, trivial, rfl, rfl⟩
  · have h := of_decide_eq_false h
    ((first|refine rG Γ hm ?_|refine rD Γ hm (by kernel_rfl) ?_);(conv=>whnf);repeat((first|refine aF ?_|refine aT ?_);(first|refine rG Γ hm ?_|refine rD Γ hm (by kernel_rfl) ?_);conv=>whnf))
    refine done0 rfl (.cons .tmp .nil) (congrArg boolSV ?_) rfl
    exact upto_all hI (by omega)

theorem allS_Irb (l : List Irb) (p : Nat → Irb → Bool) (f : FuncId) (first cap : List SV) (hc : (SV.clo (.func f) first cap).inn [] = true) (hf : ∀ i (h : i < l.length), FunS Tryz.prog f (first ++ [intSV i, irbSV l[i]] ++ cap) (boolSV (p i l[i]))) (hl : Short l) :
    Sy.Spec Tryz.prog 51 [.sl 5 irbSV l, .clo (.func f) first cap] [] (boolSV (allB p l)) [] := contract Γ hm 100 F51 Tryz.ntmps51 rfl fun F hF => by
  unfold Short at hl
  have hin : ∀ (i : Nat) (x : Irb), innL [] (first ++ [intSV i, irbSV x] ++ cap) = true := fun i x => clo_inn hc rfl
  ((conv=>whnf);repeat((first|refine aF ?_|refine aT ?_);(first|refine rG Γ hm ?_|refine rD Γ hm (by kernel_rfl) ?_);conv=>whnf))
  refine G_countP l.length (fun j => Upto p l j) (fun j => [(0, .sl 5 irbSV l), (1, .clo (.func f) first cap), (7, .sl 5 irbSV l), (8, intSV l.length), (9, intSV j)]) (fun _ => []) [] (upto_zero _ _) ⟨⟨rfl, rfl, ren_id _, hc, rfl, rfl, rfl, rfl, rfl, rfl, trivial⟩, trivial, rfl, rfl⟩ ?_
  intro j hj hI
  ((first|refine rG Γ hm ?_|refine rD Γ hm (by kernel_rfl) ?_);(conv=>whnf);repeat((first|refine aF ?_|refine aT ?_);(first|refine rG Γ hm ?_|refine rD Γ hm (by kernel_rfl) ?_);conv=>whnf))
  refine ⟨fun h => ?_, fun h => ?_⟩
  · have h := of_decide_eq_true h
    have hj2 : j < l.length := by omega
    ((first|refine rG Γ hm ?_|refine rD Γ hm (by kernel_rfl) ?_);(conv=>whnf);repeat((first|refine aF ?_|refine aT ?_);(first|refine rG Γ hm ?_|refine rD Γ hm (by kernel_rfl) ?_);conv=>whnf))
    refine ⟨rfl, by omega, by omega, ?_⟩
    ((conv=>whnf);repeat((first|refine aF ?_|refine aT ?_);(first|refine rG Γ hm ?_|refine rD Γ hm (by kernel_rfl) ?_);conv=>whnf))
    refine callC (hf j hj2) rfl rfl rfl (by simp only [hin]; rfl) rfl rfl ?_
    ((first|refine rG Γ hm ?_|refine rD Γ hm (by kernel_rfl) ?_);(conv=>whnf);repeat((first|refine aF ?_|refine aT ?_);(first|refine rG Γ hm ?_|refine rD Γ hm (by kernel_rfl) ?_);conv=>whnf))
    refine ⟨fun h2 => ?_, fun h2 => ?_⟩
    · ((first|refine rG Γ hm ?_|refine rD Γ hm (by kernel_rfl) ?_);(conv=>whnf);repeat((first|refine aF ?_|refine aT ?_);(first|refine rG Γ hm ?_|refine rD Γ hm (by kernel_rfl) ?_);conv=>whnf))
      refine done0 rfl (.cons .tmp .nil) (congrArg boolSV ?_) rfl
      exact allB_false hj2 (by simpa using h2)
    · ((first|refine rG Γ hm ?_|refine rD Γ hm (by kernel_rfl) ?_);(conv=>whnf);repeat((first|refine aF ?_|refine aT ?_);(first|refine rG Γ hm ?_|refine rD Γ hm (by kernel_rfl) ?_);conv=>whnf))
      refine ⟨by unfold I64; omega, ?_⟩
      ((conv=>whnf);repeat((first|refine aF ?_|refine aT ?_);(first|refine rG Γ hm ?_|refine rD Γ hm (by kernel_rfl) ?_);conv=>whnf))
      exact G_nextP [] hI hj2 (upto_next hI hj2 (by simpa using h2)) ⟨⟨rfl, rfl, ren_id _, hc, rfl, rfl, rfl, rfl, rfl, rfl, trivial⟩, trivial, rfl, rfl⟩
  · have h := of_decide_eq_false h
    ((first|refine rG Γ hm ?_|refine rD Γ hm (by kernel_rfl) ?_);(conv=>whnf);repeat((first|refine aF ?_|refine aT ?_);(first|refine rG Γ hm ?_|refine rD Γ hm (by kernel_rfl) ?_);conv=>whnf))
    refine done0 rfl (.cons .tmp .nil) (congrArg boolSV ?_) rfl
    exact upto_all hI (by omega)

theorem allS_int (l : List Int) (p : Nat → Int → Bool) (f : FuncId) (first cap : List SV) (hc : (SV.clo (.func f) first cap).inn [] = true) (hf : ∀ i (h : i < l.length), FunS Tryz.prog f (first ++ [intSV i, intSV l[i]] ++ cap) (boolSV (p i l[i]))) (hl : Short l) :
    Sy.Spec Tryz.prog 86 [.sl 1 intSV l, .clo (.func f) first cap] [] (boolSV (allB p l)) [] := contract Γ hm 100 F86 Tryz.ntmps86 rfl fun F hF => by
  unfold Short at hl
  have hin : ∀ (i : Nat) (x : Int), innL [] (first ++ [intSV i, intSV x] ++ cap) = true := fun i x => clo_inn hc rfl
  ((conv=>whnf);repeat((first|refine aF ?_|refine aT ?_);(first|refine rG Γ hm ?_|refine rD Γ hm (by kernel_rfl) ?_);conv=>whnf))
  refine G_countP l.length (fun j => Upto p l j) (fun j => [(0, .sl 1 intSV l), (1, .clo (.func f) first cap), (7, .sl 1 intSV l), (8, intSV l.length), (9, intSV j)]) (fun _ => []) [] (upto_zero _ _) ⟨⟨rfl, rfl, ren_id _, hc, rfl, rfl, rfl, rfl, rfl, rfl, trivial⟩, trivial, rfl, rfl⟩ ?_
  intro j hj hI
  ((first|refine rG Γ hm ?_|refine rD Γ hm (by kernel_rfl) ?_);(conv=>whnf);repeat((first|refine aF ?_|refine aT ?_);(first|refine rG Γ hm ?_|refine rD Γ hm (by kernel_rfl) ?_);conv=>whnf))
  refine ⟨fun h => ?_, fun h => ?_⟩
  · have h := of_decide_eq_true h
    have hj2 : j < l.length := by omega
    ((first|refine rG Γ hm ?_|refine rD Γ hm (by kernel_rfl) ?_);(conv=>whnf);repeat((first|refine aF ?_|refine aT ?_);(first|refine rG Γ hm ?_|refine rD Γ hm (by kernel_rfl) ?_);conv=>whnf))
    refine ⟨rfl, by omega, by omega, ?_⟩
    ((conv=>whnf);repeat((first|refine aF ?_|refine aT ?_);(first|refine rG Γ hm ?_|refine rD Γ hm (by kernel_rfl) ?_);conv=>whnf))
    refine callC (hf j hj2) rfl rfl rfl (by simp only [hin]; rfl) rfl rfl ?_
    ((first|refine rG Γ hm ?_|refine rD Γ hm (by kernel_rfl) ?_);(conv=>whnf);repeat((first|refine aF ?_|refine aT ?_);(first|refine rG Γ hm ?_|refine rD Γ hm (by kernel_rfl) ?_);conv=>whnf))
    refine ⟨fun h2 => ?_, fun h2 => ?_⟩
    · ((first|refine rG Γ hm ?_|refine rD Γ hm (by kernel_rfl) ?_);(conv=>whnf);repeat((first|refine aF ?_|refine aT ?_);(first|refine rG Γ hm ?_|refine rD Γ hm (by kernel_rfl) ?_);conv=>whnf))
      refine done0 rfl (.cons .tmp .nil) (congrArg boolSV ?_) rfl
      exact allB_false hj2 (by simpa using h2)
    · ((first|refine rG Γ hm ?_|refine rD Γ hm (by kernel_rfl) ?_);(conv=>whnf);repeat((first|refine aF ?_|refine aT ?_);(first|refine rG Γ hm ?_|refine rD Γ hm (by kernel_rfl) ?_);conv=>whnf))
      refine ⟨by unfold I64; omega, ?_⟩
      ((conv=>whnf);repeat((first|refine aF ?_|refine aT ?_);(first|refine rG Γ hm ?_|refine rD Γ hm (by kernel_rfl) ?_);conv=>whnf))
      exact G_nextP [] hI hj2 (upto_next hI hj2 (by simpa using h2)) ⟨⟨rfl, rfl, ren_id _, hc, rfl, rfl, rfl, rfl, rfl, rfl, trivial⟩, trivial, rfl, rfl⟩
  · have h := of_decide_eq_false h
    ((first|refine rG Γ hm ?_|refine rD Γ hm (by kernel_rfl) ?_);(conv=>whnf);repeat((first|refine aF ?_|refine aT ?_);(first|refine rG Γ hm ?_|refine rD Γ hm (by kernel_rfl) ?_);conv=>whnf))
    refine done0 rfl (.cons .tmp .nil) (congrArg boolSV ?_) rfl
    exact upto_all hI (by omega)

end Go.Sy.YtlfopmhekhifoaaGreatDoor
