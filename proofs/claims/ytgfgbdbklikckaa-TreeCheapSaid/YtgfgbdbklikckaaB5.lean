/-
  The types' table of this seat's program, and its functions' own facts. Written by program (gentypes.py). Nets: what a net's value reads as. Contracts: places, lists. Contracts: lists asked by a function.
-/
import Derived.Test.YtgfgbdbklikckaaB4
import Derived.Test.YtgfgbdbklikckaaProg

namespace Go.Sy.Ytgfgbdbklikckaa
open Go.Proofs

set_option maxRecDepth 100000

theorem ty1 : tiOf Try.prog 1 = some ⟨.func, 1, [.nilFunc]⟩ := by kernel_rfl
theorem ty2 : tiOf Try.prog 2 = some ⟨.int .i64, 1, [.int .i64 0]⟩ := by kernel_rfl
theorem ty3 : tiOf Try.prog 3 = some ⟨.int .i64, 1, [.int .i64 0]⟩ := by kernel_rfl
theorem ty4 : tiOf Try.prog 4 = some ⟨.bool, 1, [.bool false]⟩ := by kernel_rfl
theorem ty5 : tiOf Try.prog 5 = some ⟨.int .u8, 1, [.int .u8 0]⟩ := by kernel_rfl
theorem ty7 : tiOf Try.prog 7 = some ⟨.struct [(0, 1), (1, 1), (2, 1), (3, 1)], 4, [.int .i64 0, .int .i64 0, .bool false, .int .u8 0]⟩ := by kernel_rfl
theorem ty9 : tiOf Try.prog 9 = some ⟨.string, 1, [.string .empty]⟩ := by kernel_rfl
theorem ty12 : tiOf Try.prog 12 = some ⟨.int .u64, 1, [.int .u64 0]⟩ := by kernel_rfl
theorem ty13 : tiOf Try.prog 13 = some ⟨.struct [(0, 1), (1, 1)], 2, [.string .empty, .int .u64 0]⟩ := by kernel_rfl
theorem ty15 : tiOf Try.prog 15 = some ⟨.ptr, 1, [.pointer none]⟩ := by kernel_rfl
theorem ty16 : tiOf Try.prog 16 = some ⟨.ptr, 1, [.pointer none]⟩ := by kernel_rfl
theorem ty17 : tiOf Try.prog 17 = some ⟨.ptr, 1, [.pointer none]⟩ := by kernel_rfl
theorem ty18 : tiOf Try.prog 18 = some ⟨.struct [(0, 1)], 1, [.pointer none]⟩ := by kernel_rfl
theorem ty20 : tiOf Try.prog 20 = some ⟨.iface, 1, [.nilIface]⟩ := by kernel_rfl
theorem ty21 : tiOf Try.prog 21 = some ⟨.int .i32, 1, [.int .i32 0]⟩ := by kernel_rfl
theorem ty22 : tiOf Try.prog 22 = some ⟨.slice 69 5 48 [.int .i64 0, .int .i64 0, .string .empty, .int .u64 0, .int .u32 0], 1, [.slice none 0 0]⟩ := by kernel_rfl
theorem ty23 : tiOf Try.prog 23 = some ⟨.slice 42 7 80 [.int .i64 0, .int .i64 0, .int .i64 0, .int .i64 0, .int .i64 0, .string .empty, .slice none 0 0], 1, [.slice none 0 0]⟩ := by kernel_rfl
theorem ty24 : tiOf Try.prog 24 = some ⟨.slice 40 3 24 [.int .i64 0, .int .i64 0, .int .i64 0], 1, [.slice none 0 0]⟩ := by kernel_rfl
theorem ty25 : tiOf Try.prog 25 = some ⟨.slice 52 6 64 [.int .i64 0, .int .i64 0, .int .i64 0, .int .i64 0, .int .i64 0, .slice none 0 0], 1, [.slice none 0 0]⟩ := by kernel_rfl
theorem ty26 : tiOf Try.prog 26 = some ⟨.slice 83 4 32 [.int .i64 0, .int .i64 0, .int .i64 0, .int .u64 0], 1, [.slice none 0 0]⟩ := by kernel_rfl
theorem ty27 : tiOf Try.prog 27 = some ⟨.slice 55 4 48 [.int .i64 0, .int .i64 0, .int .i64 0, .slice none 0 0], 1, [.slice none 0 0]⟩ := by kernel_rfl
theorem ty28 : tiOf Try.prog 28 = some ⟨.slice 57 5 80 [.int .i64 0, .int .i64 0, .string .empty, .slice none 0 0, .slice none 0 0], 1, [.slice none 0 0]⟩ := by kernel_rfl
theorem ty29 : tiOf Try.prog 29 = some ⟨.slice 94 5 40 [.int .i64 0, .int .i64 0, .int .i64 0, .int .u32 0, .int .i64 0], 1, [.slice none 0 0]⟩ := by kernel_rfl
theorem ty30 : tiOf Try.prog 30 = some ⟨.struct [(0, 1), (1, 1), (2, 1), (3, 1), (4, 1), (5, 1), (6, 1), (7, 1)], 8, [.slice none 0 0, .slice none 0 0, .slice none 0 0, .slice none 0 0, .slice none 0 0, .slice none 0 0, .slice none 0 0, .slice none 0 0]⟩ := by kernel_rfl
theorem ty31 : tiOf Try.prog 31 = some ⟨.struct [(0, 1), (1, 1), (2, 1), (3, 1), (4, 1), (5, 1), (6, 1), (7, 1)], 8, [.slice none 0 0, .slice none 0 0, .slice none 0 0, .slice none 0 0, .slice none 0 0, .slice none 0 0, .slice none 0 0, .slice none 0 0]⟩ := by kernel_rfl
theorem ty32 : tiOf Try.prog 32 = some ⟨.slice 4 1 1 [.bool false], 1, [.slice none 0 0]⟩ := by kernel_rfl
theorem ty33 : tiOf Try.prog 33 = some ⟨.func, 1, [.nilFunc]⟩ := by kernel_rfl
theorem ty34 : tiOf Try.prog 34 = some ⟨.func, 1, [.nilFunc]⟩ := by kernel_rfl
theorem ty35 : tiOf Try.prog 35 = some ⟨.int .i64, 1, [.int .i64 0]⟩ := by kernel_rfl
theorem ty37 : tiOf Try.prog 37 = some ⟨.func, 1, [.nilFunc]⟩ := by kernel_rfl
theorem ty38 : tiOf Try.prog 38 = some ⟨.slice 3 1 8 [.int .i64 0], 1, [.slice none 0 0]⟩ := by kernel_rfl
theorem ty39 : tiOf Try.prog 39 = some ⟨.struct [(0, 1), (1, 1), (2, 1)], 3, [.int .i64 0, .int .i64 0, .int .i64 0]⟩ := by kernel_rfl
theorem ty40 : tiOf Try.prog 40 = some ⟨.struct [(0, 1), (1, 1), (2, 1)], 3, [.int .i64 0, .int .i64 0, .int .i64 0]⟩ := by kernel_rfl
theorem ty41 : tiOf Try.prog 41 = some ⟨.struct [(0, 1), (1, 1), (2, 1), (3, 1), (4, 1), (5, 1), (6, 1)], 7, [.int .i64 0, .int .i64 0, .int .i64 0, .int .i64 0, .int .i64 0, .string .empty, .slice none 0 0]⟩ := by kernel_rfl
theorem ty42 : tiOf Try.prog 42 = some ⟨.struct [(0, 1), (1, 1), (2, 1), (3, 1), (4, 1), (5, 1), (6, 1)], 7, [.int .i64 0, .int .i64 0, .int .i64 0, .int .i64 0, .int .i64 0, .string .empty, .slice none 0 0]⟩ := by kernel_rfl
theorem ty43 : tiOf Try.prog 43 = some ⟨.func, 1, [.nilFunc]⟩ := by kernel_rfl
theorem ty44 : tiOf Try.prog 44 = some ⟨.func, 1, [.nilFunc]⟩ := by kernel_rfl
theorem ty45 : tiOf Try.prog 45 = some ⟨.func, 1, [.nilFunc]⟩ := by kernel_rfl
theorem ty47 : tiOf Try.prog 47 = some ⟨.func, 1, [.nilFunc]⟩ := by kernel_rfl
theorem ty49 : tiOf Try.prog 49 = some ⟨.func, 1, [.nilFunc]⟩ := by kernel_rfl
theorem ty50 : tiOf Try.prog 50 = some ⟨.func, 1, [.nilFunc]⟩ := by kernel_rfl
theorem ty51 : tiOf Try.prog 51 = some ⟨.struct [(0, 1), (1, 1), (2, 1), (3, 1), (4, 1), (5, 1)], 6, [.int .i64 0, .int .i64 0, .int .i64 0, .int .i64 0, .int .i64 0, .slice none 0 0]⟩ := by kernel_rfl
theorem ty52 : tiOf Try.prog 52 = some ⟨.struct [(0, 1), (1, 1), (2, 1), (3, 1), (4, 1), (5, 1)], 6, [.int .i64 0, .int .i64 0, .int .i64 0, .int .i64 0, .int .i64 0, .slice none 0 0]⟩ := by kernel_rfl
theorem ty53 : tiOf Try.prog 53 = some ⟨.slice 67 1 4 [.int .u32 0], 1, [.slice none 0 0]⟩ := by kernel_rfl
theorem ty54 : tiOf Try.prog 54 = some ⟨.struct [(0, 1), (1, 1), (2, 1), (3, 1)], 4, [.int .i64 0, .int .i64 0, .int .i64 0, .slice none 0 0]⟩ := by kernel_rfl
theorem ty55 : tiOf Try.prog 55 = some ⟨.struct [(0, 1), (1, 1), (2, 1), (3, 1)], 4, [.int .i64 0, .int .i64 0, .int .i64 0, .slice none 0 0]⟩ := by kernel_rfl
theorem ty56 : tiOf Try.prog 56 = some ⟨.struct [(0, 1), (1, 1), (2, 1), (3, 1), (4, 1)], 5, [.int .i64 0, .int .i64 0, .string .empty, .slice none 0 0, .slice none 0 0]⟩ := by kernel_rfl
theorem ty57 : tiOf Try.prog 57 = some ⟨.struct [(0, 1), (1, 1), (2, 1), (3, 1), (4, 1)], 5, [.int .i64 0, .int .i64 0, .string .empty, .slice none 0 0, .slice none 0 0]⟩ := by kernel_rfl
theorem ty58 : tiOf Try.prog 58 = some ⟨.ptr, 1, [.pointer none]⟩ := by kernel_rfl
theorem ty60 : tiOf Try.prog 60 = some ⟨.func, 1, [.nilFunc]⟩ := by kernel_rfl
theorem ty61 : tiOf Try.prog 61 = some ⟨.func, 1, [.nilFunc]⟩ := by kernel_rfl
theorem ty62 : tiOf Try.prog 62 = some ⟨.func, 1, [.nilFunc]⟩ := by kernel_rfl
theorem ty63 : tiOf Try.prog 63 = some ⟨.struct [(0, 8), (8, 1), (9, 1), (10, 1), (11, 1)], 12, [.slice none 0 0, .slice none 0 0, .slice none 0 0, .slice none 0 0, .slice none 0 0, .slice none 0 0, .slice none 0 0, .slice none 0 0, .slice none 0 0, .slice none 0 0, .slice none 0 0, .slice none 0 0]⟩ := by kernel_rfl
theorem ty64 : tiOf Try.prog 64 = some ⟨.struct [(0, 8), (8, 1), (9, 1), (10, 1), (11, 1)], 12, [.slice none 0 0, .slice none 0 0, .slice none 0 0, .slice none 0 0, .slice none 0 0, .slice none 0 0, .slice none 0 0, .slice none 0 0, .slice none 0 0, .slice none 0 0, .slice none 0 0, .slice none 0 0]⟩ := by kernel_rfl
theorem ty65 : tiOf Try.prog 65 = some ⟨.func, 1, [.nilFunc]⟩ := by kernel_rfl
theorem ty66 : tiOf Try.prog 66 = some ⟨.int .u64, 1, [.int .u64 0]⟩ := by kernel_rfl
theorem ty67 : tiOf Try.prog 67 = some ⟨.int .u32, 1, [.int .u32 0]⟩ := by kernel_rfl
theorem ty68 : tiOf Try.prog 68 = some ⟨.struct [(0, 1), (1, 1), (2, 1), (3, 1), (4, 1)], 5, [.int .i64 0, .int .i64 0, .string .empty, .int .u64 0, .int .u32 0]⟩ := by kernel_rfl
theorem ty69 : tiOf Try.prog 69 = some ⟨.struct [(0, 1), (1, 1), (2, 1), (3, 1), (4, 1)], 5, [.int .i64 0, .int .i64 0, .string .empty, .int .u64 0, .int .u32 0]⟩ := by kernel_rfl
theorem ty70 : tiOf Try.prog 70 = some ⟨.func, 1, [.nilFunc]⟩ := by kernel_rfl
theorem ty71 : tiOf Try.prog 71 = some ⟨.func, 1, [.nilFunc]⟩ := by kernel_rfl
theorem ty72 : tiOf Try.prog 72 = some ⟨.func, 1, [.nilFunc]⟩ := by kernel_rfl
theorem ty73 : tiOf Try.prog 73 = some ⟨.struct [(0, 8)], 8, [.slice none 0 0, .slice none 0 0, .slice none 0 0, .slice none 0 0, .slice none 0 0, .slice none 0 0, .slice none 0 0, .slice none 0 0]⟩ := by kernel_rfl
theorem ty74 : tiOf Try.prog 74 = some ⟨.struct [(0, 8)], 8, [.slice none 0 0, .slice none 0 0, .slice none 0 0, .slice none 0 0, .slice none 0 0, .slice none 0 0, .slice none 0 0, .slice none 0 0]⟩ := by kernel_rfl
theorem ty75 : tiOf Try.prog 75 = some ⟨.func, 1, [.nilFunc]⟩ := by kernel_rfl
theorem ty76 : tiOf Try.prog 76 = some ⟨.func, 1, [.nilFunc]⟩ := by kernel_rfl
theorem ty77 : tiOf Try.prog 77 = some ⟨.func, 1, [.nilFunc]⟩ := by kernel_rfl
theorem ty78 : tiOf Try.prog 78 = some ⟨.func, 1, [.nilFunc]⟩ := by kernel_rfl
theorem ty79 : tiOf Try.prog 79 = some ⟨.func, 1, [.nilFunc]⟩ := by kernel_rfl
theorem ty80 : tiOf Try.prog 80 = some ⟨.func, 1, [.nilFunc]⟩ := by kernel_rfl
theorem ty81 : tiOf Try.prog 81 = some ⟨.func, 1, [.nilFunc]⟩ := by kernel_rfl
theorem ty82 : tiOf Try.prog 82 = some ⟨.struct [(0, 1), (1, 1), (2, 1), (3, 1)], 4, [.int .i64 0, .int .i64 0, .int .i64 0, .int .u64 0]⟩ := by kernel_rfl
theorem ty83 : tiOf Try.prog 83 = some ⟨.struct [(0, 1), (1, 1), (2, 1), (3, 1)], 4, [.int .i64 0, .int .i64 0, .int .i64 0, .int .u64 0]⟩ := by kernel_rfl
theorem ty84 : tiOf Try.prog 84 = some ⟨.func, 1, [.nilFunc]⟩ := by kernel_rfl
theorem ty85 : tiOf Try.prog 85 = some ⟨.func, 1, [.nilFunc]⟩ := by kernel_rfl
theorem ty86 : tiOf Try.prog 86 = some ⟨.func, 1, [.nilFunc]⟩ := by kernel_rfl
theorem ty87 : tiOf Try.prog 87 = some ⟨.func, 1, [.nilFunc]⟩ := by kernel_rfl
theorem ty88 : tiOf Try.prog 88 = some ⟨.func, 1, [.nilFunc]⟩ := by kernel_rfl
theorem ty89 : tiOf Try.prog 89 = some ⟨.func, 1, [.nilFunc]⟩ := by kernel_rfl
theorem ty90 : tiOf Try.prog 90 = some ⟨.func, 1, [.nilFunc]⟩ := by kernel_rfl
theorem ty91 : tiOf Try.prog 91 = some ⟨.struct [(0, 1), (1, 1)], 2, [.int .u32 0, .int .i64 0]⟩ := by kernel_rfl
theorem ty92 : tiOf Try.prog 92 = some ⟨.struct [(0, 1), (1, 1)], 2, [.int .u32 0, .int .i64 0]⟩ := by kernel_rfl
theorem ty93 : tiOf Try.prog 93 = some ⟨.struct [(0, 1), (1, 1), (2, 1), (3, 2)], 5, [.int .i64 0, .int .i64 0, .int .i64 0, .int .u32 0, .int .i64 0]⟩ := by kernel_rfl
theorem ty94 : tiOf Try.prog 94 = some ⟨.struct [(0, 1), (1, 1), (2, 1), (3, 2)], 5, [.int .i64 0, .int .i64 0, .int .i64 0, .int .u32 0, .int .i64 0]⟩ := by kernel_rfl
theorem ty95 : tiOf Try.prog 95 = some ⟨.func, 1, [.nilFunc]⟩ := by kernel_rfl
theorem ty96 : tiOf Try.prog 96 = some ⟨.func, 1, [.nilFunc]⟩ := by kernel_rfl
theorem ty97 : tiOf Try.prog 97 = some ⟨.func, 1, [.nilFunc]⟩ := by kernel_rfl
theorem ty98 : tiOf Try.prog 98 = some ⟨.func, 1, [.nilFunc]⟩ := by kernel_rfl
theorem ty99 : tiOf Try.prog 99 = some ⟨.func, 1, [.nilFunc]⟩ := by kernel_rfl
theorem ty100 : tiOf Try.prog 100 = some ⟨.func, 1, [.nilFunc]⟩ := by kernel_rfl
theorem ty101 : tiOf Try.prog 101 = some ⟨.func, 1, [.nilFunc]⟩ := by kernel_rfl
theorem ty102 : tiOf Try.prog 102 = some ⟨.ptr, 1, [.pointer none]⟩ := by kernel_rfl
theorem ty103 : tiOf Try.prog 103 = some ⟨.slice 107 3 24 [.int .i64 0, .int .i64 0, .int .i64 0], 1, [.slice none 0 0]⟩ := by kernel_rfl
theorem ty104 : tiOf Try.prog 104 = some ⟨.slice 107 3 24 [.int .i64 0, .int .i64 0, .int .i64 0], 1, [.slice none 0 0]⟩ := by kernel_rfl
theorem ty105 : tiOf Try.prog 105 = some ⟨.func, 1, [.nilFunc]⟩ := by kernel_rfl
theorem ty106 : tiOf Try.prog 106 = some ⟨.struct [(0, 1), (1, 1), (2, 1)], 3, [.int .i64 0, .int .i64 0, .int .i64 0]⟩ := by kernel_rfl
theorem ty107 : tiOf Try.prog 107 = some ⟨.struct [(0, 1), (1, 1), (2, 1)], 3, [.int .i64 0, .int .i64 0, .int .i64 0]⟩ := by kernel_rfl
theorem ty108 : tiOf Try.prog 108 = some ⟨.func, 1, [.nilFunc]⟩ := by kernel_rfl
theorem ty110 : tiOf Try.prog 110 = some ⟨.func, 1, [.nilFunc]⟩ := by kernel_rfl
theorem ty111 : tiOf Try.prog 111 = some ⟨.slice 113 5 40 [.int .i64 0, .int .i64 0, .int .i64 0, .int .i64 0, .int .i64 0], 1, [.slice none 0 0]⟩ := by kernel_rfl
theorem ty112 : tiOf Try.prog 112 = some ⟨.struct [(0, 1), (1, 1), (2, 1), (3, 1), (4, 1)], 5, [.int .i64 0, .int .i64 0, .int .i64 0, .int .i64 0, .int .i64 0]⟩ := by kernel_rfl
theorem ty113 : tiOf Try.prog 113 = some ⟨.struct [(0, 1), (1, 1), (2, 1), (3, 1), (4, 1)], 5, [.int .i64 0, .int .i64 0, .int .i64 0, .int .i64 0, .int .i64 0]⟩ := by kernel_rfl
theorem ty115 : tiOf Try.prog 115 = some ⟨.func, 1, [.nilFunc]⟩ := by kernel_rfl
theorem ty116 : tiOf Try.prog 116 = some ⟨.func, 1, [.nilFunc]⟩ := by kernel_rfl
theorem ty117 : tiOf Try.prog 117 = some ⟨.func, 1, [.nilFunc]⟩ := by kernel_rfl
theorem ty118 : tiOf Try.prog 118 = some ⟨.func, 1, [.nilFunc]⟩ := by kernel_rfl
theorem ty119 : tiOf Try.prog 119 = some ⟨.func, 1, [.nilFunc]⟩ := by kernel_rfl
theorem ty120 : tiOf Try.prog 120 = some ⟨.func, 1, [.nilFunc]⟩ := by kernel_rfl
theorem ty121 : tiOf Try.prog 121 = some ⟨.func, 1, [.nilFunc]⟩ := by kernel_rfl
theorem ty122 : tiOf Try.prog 122 = some ⟨.func, 1, [.nilFunc]⟩ := by kernel_rfl
theorem ty123 : tiOf Try.prog 123 = some ⟨.func, 1, [.nilFunc]⟩ := by kernel_rfl
theorem ty124 : tiOf Try.prog 124 = some ⟨.func, 1, [.nilFunc]⟩ := by kernel_rfl
theorem ty125 : tiOf Try.prog 125 = some ⟨.func, 1, [.nilFunc]⟩ := by kernel_rfl
theorem ty126 : tiOf Try.prog 126 = some ⟨.func, 1, [.nilFunc]⟩ := by kernel_rfl
theorem ty127 : tiOf Try.prog 127 = some ⟨.func, 1, [.nilFunc]⟩ := by kernel_rfl
theorem ty128 : tiOf Try.prog 128 = some ⟨.func, 1, [.nilFunc]⟩ := by kernel_rfl
theorem ty129 : tiOf Try.prog 129 = some ⟨.iface, 1, [.nilIface]⟩ := by kernel_rfl
theorem ty130 : tiOf Try.prog 130 = some ⟨.iface, 1, [.nilIface]⟩ := by kernel_rfl
theorem ty131 : tiOf Try.prog 131 = some ⟨.func, 1, [.nilFunc]⟩ := by kernel_rfl
theorem ty132 : tiOf Try.prog 132 = some ⟨.func, 1, [.nilFunc]⟩ := by kernel_rfl
theorem ty133 : tiOf Try.prog 133 = some ⟨.func, 1, [.nilFunc]⟩ := by kernel_rfl
theorem ty134 : tiOf Try.prog 134 = some ⟨.func, 1, [.nilFunc]⟩ := by kernel_rfl
theorem ty135 : tiOf Try.prog 135 = some ⟨.func, 1, [.nilFunc]⟩ := by kernel_rfl
theorem ty136 : tiOf Try.prog 136 = some ⟨.func, 1, [.nilFunc]⟩ := by kernel_rfl
theorem ty137 : tiOf Try.prog 137 = some ⟨.func, 1, [.nilFunc]⟩ := by kernel_rfl
theorem ty138 : tiOf Try.prog 138 = some ⟨.func, 1, [.nilFunc]⟩ := by kernel_rfl
theorem ty139 : tiOf Try.prog 139 = some ⟨.func, 1, [.nilFunc]⟩ := by kernel_rfl
theorem ty140 : tiOf Try.prog 140 = some ⟨.func, 1, [.nilFunc]⟩ := by kernel_rfl
theorem ty141 : tiOf Try.prog 141 = some ⟨.int .u64, 1, [.int .u64 0]⟩ := by kernel_rfl
theorem ty142 : tiOf Try.prog 142 = some ⟨.func, 1, [.nilFunc]⟩ := by kernel_rfl
theorem ty143 : tiOf Try.prog 143 = some ⟨.struct [(0, 1), (1, 1), (2, 1), (3, 1)], 4, [.pointer none, .pointer none, .pointer none, .string .empty]⟩ := by kernel_rfl
theorem ty150 : tiOf Try.prog 150 = some ⟨.func, 1, [.nilFunc]⟩ := by kernel_rfl
theorem ty151 : tiOf Try.prog 151 = some ⟨.ptr, 1, [.pointer none]⟩ := by kernel_rfl
theorem ty154 : tiOf Try.prog 154 = some ⟨.struct [(0, 1), (1, 1), (2, 1), (3, 1), (4, 1), (5, 1), (6, 1), (7, 1), (8, 1), (9, 1), (10, 1)], 11, [.int .u64 0, .int .u64 0, .int .u32 0, .int .u8 0, .int .u8 0, .int .u8 0, .int .u8 0, .nilFunc, .pointer none, .int .i32 0, .int .i32 0]⟩ := by kernel_rfl

theorem tq40 : eqsOf Try.prog 40 = some [.int .i64, .int .i64, .int .i64] := by kernel_rfl
theorem tq69 : eqsOf Try.prog 69 = some [.int .i64, .int .i64, .string, .int .u64, .int .u32] := by kernel_rfl
theorem tq83 : eqsOf Try.prog 83 = some [.int .i64, .int .i64, .int .i64, .int .u64] := by kernel_rfl
theorem tq92 : eqsOf Try.prog 92 = some [.int .u32, .int .i64] := by kernel_rfl
theorem tq107 : eqsOf Try.prog 107 = some [.int .i64, .int .i64, .int .i64] := by kernel_rfl
theorem tq113 : eqsOf Try.prog 113 = some [.int .i64, .int .i64, .int .i64, .int .i64, .int .i64] := by kernel_rfl

def tab : Tr TI := (.nd 78 (⟨.func, 1, [.nilFunc]⟩) (.nd 41 (⟨.struct [(0, 1), (1, 1), (2, 1), (3, 1), (4, 1), (5, 1), (6, 1)], 7, [.int .i64 0, .int .i64 0, .int .i64 0, .int .i64 0, .int .i64 0, .string .empty, .slice none 0 0]⟩) (.nd 23 (⟨.slice 42 7 80 [.int .i64 0, .int .i64 0, .int .i64 0, .int .i64 0, .int .i64 0, .string .empty, .slice none 0 0], 1, [.slice none 0 0]⟩) (.nd 13 (⟨.struct [(0, 1), (1, 1)], 2, [.string .empty, .int .u64 0]⟩) (.nd 5 (⟨.int .u8, 1, [.int .u8 0]⟩) (.nd 3 (⟨.int .i64, 1, [.int .i64 0]⟩) (.nd 2 (⟨.int .i64, 1, [.int .i64 0]⟩) (.nd 1 (⟨.func, 1, [.nilFunc]⟩) .lf .lf) .lf) (.nd 4 (⟨.bool, 1, [.bool false]⟩) .lf .lf)) (.nd 9 (⟨.string, 1, [.string .empty]⟩) (.nd 7 (⟨.struct [(0, 1), (1, 1), (2, 1), (3, 1)], 4, [.int .i64 0, .int .i64 0, .bool false, .int .u8 0]⟩) .lf .lf) (.nd 12 (⟨.int .u64, 1, [.int .u64 0]⟩) .lf .lf))) (.nd 18 (⟨.struct [(0, 1)], 1, [.pointer none]⟩) (.nd 16 (⟨.ptr, 1, [.pointer none]⟩) (.nd 15 (⟨.ptr, 1, [.pointer none]⟩) .lf .lf) (.nd 17 (⟨.ptr, 1, [.pointer none]⟩) .lf .lf)) (.nd 21 (⟨.int .i32, 1, [.int .i32 0]⟩) (.nd 20 (⟨.iface, 1, [.nilIface]⟩) .lf .lf) (.nd 22 (⟨.slice 69 5 48 [.int .i64 0, .int .i64 0, .string .empty, .int .u64 0, .int .u32 0], 1, [.slice none 0 0]⟩) .lf .lf)))) (.nd 32 (⟨.slice 4 1 1 [.bool false], 1, [.slice none 0 0]⟩) (.nd 28 (⟨.slice 57 5 80 [.int .i64 0, .int .i64 0, .string .empty, .slice none 0 0, .slice none 0 0], 1, [.slice none 0 0]⟩) (.nd 26 (⟨.slice 83 4 32 [.int .i64 0, .int .i64 0, .int .i64 0, .int .u64 0], 1, [.slice none 0 0]⟩) (.nd 25 (⟨.slice 52 6 64 [.int .i64 0, .int .i64 0, .int .i64 0, .int .i64 0, .int .i64 0, .slice none 0 0], 1, [.slice none 0 0]⟩) (.nd 24 (⟨.slice 40 3 24 [.int .i64 0, .int .i64 0, .int .i64 0], 1, [.slice none 0 0]⟩) .lf .lf) .lf) (.nd 27 (⟨.slice 55 4 48 [.int .i64 0, .int .i64 0, .int .i64 0, .slice none 0 0], 1, [.slice none 0 0]⟩) .lf .lf)) (.nd 30 (⟨.struct [(0, 1), (1, 1), (2, 1), (3, 1), (4, 1), (5, 1), (6, 1), (7, 1)], 8, [.slice none 0 0, .slice none 0 0, .slice none 0 0, .slice none 0 0, .slice none 0 0, .slice none 0 0, .slice none 0 0, .slice none 0 0]⟩) (.nd 29 (⟨.slice 94 5 40 [.int .i64 0, .int .i64 0, .int .i64 0, .int .u32 0, .int .i64 0], 1, [.slice none 0 0]⟩) .lf .lf) (.nd 31 (⟨.struct [(0, 1), (1, 1), (2, 1), (3, 1), (4, 1), (5, 1), (6, 1), (7, 1)], 8, [.slice none 0 0, .slice none 0 0, .slice none 0 0, .slice none 0 0, .slice none 0 0, .slice none 0 0, .slice none 0 0, .slice none 0 0]⟩) .lf .lf))) (.nd 37 (⟨.func, 1, [.nilFunc]⟩) (.nd 34 (⟨.func, 1, [.nilFunc]⟩) (.nd 33 (⟨.func, 1, [.nilFunc]⟩) .lf .lf) (.nd 35 (⟨.int .i64, 1, [.int .i64 0]⟩) .lf .lf)) (.nd 39 (⟨.struct [(0, 1), (1, 1), (2, 1)], 3, [.int .i64 0, .int .i64 0, .int .i64 0]⟩) (.nd 38 (⟨.slice 3 1 8 [.int .i64 0], 1, [.slice none 0 0]⟩) .lf .lf) (.nd 40 (⟨.struct [(0, 1), (1, 1), (2, 1)], 3, [.int .i64 0, .int .i64 0, .int .i64 0]⟩) .lf .lf))))) (.nd 61 (⟨.func, 1, [.nilFunc]⟩) (.nd 52 (⟨.struct [(0, 1), (1, 1), (2, 1), (3, 1), (4, 1), (5, 1)], 6, [.int .i64 0, .int .i64 0, .int .i64 0, .int .i64 0, .int .i64 0, .slice none 0 0]⟩) (.nd 47 (⟨.func, 1, [.nilFunc]⟩) (.nd 44 (⟨.func, 1, [.nilFunc]⟩) (.nd 43 (⟨.func, 1, [.nilFunc]⟩) (.nd 42 (⟨.struct [(0, 1), (1, 1), (2, 1), (3, 1), (4, 1), (5, 1), (6, 1)], 7, [.int .i64 0, .int .i64 0, .int .i64 0, .int .i64 0, .int .i64 0, .string .empty, .slice none 0 0]⟩) .lf .lf) .lf) (.nd 45 (⟨.func, 1, [.nilFunc]⟩) .lf .lf)) (.nd 50 (⟨.func, 1, [.nilFunc]⟩) (.nd 49 (⟨.func, 1, [.nilFunc]⟩) .lf .lf) (.nd 51 (⟨.struct [(0, 1), (1, 1), (2, 1), (3, 1), (4, 1), (5, 1)], 6, [.int .i64 0, .int .i64 0, .int .i64 0, .int .i64 0, .int .i64 0, .slice none 0 0]⟩) .lf .lf))) (.nd 56 (⟨.struct [(0, 1), (1, 1), (2, 1), (3, 1), (4, 1)], 5, [.int .i64 0, .int .i64 0, .string .empty, .slice none 0 0, .slice none 0 0]⟩) (.nd 54 (⟨.struct [(0, 1), (1, 1), (2, 1), (3, 1)], 4, [.int .i64 0, .int .i64 0, .int .i64 0, .slice none 0 0]⟩) (.nd 53 (⟨.slice 67 1 4 [.int .u32 0], 1, [.slice none 0 0]⟩) .lf .lf) (.nd 55 (⟨.struct [(0, 1), (1, 1), (2, 1), (3, 1)], 4, [.int .i64 0, .int .i64 0, .int .i64 0, .slice none 0 0]⟩) .lf .lf)) (.nd 58 (⟨.ptr, 1, [.pointer none]⟩) (.nd 57 (⟨.struct [(0, 1), (1, 1), (2, 1), (3, 1), (4, 1)], 5, [.int .i64 0, .int .i64 0, .string .empty, .slice none 0 0, .slice none 0 0]⟩) .lf .lf) (.nd 60 (⟨.func, 1, [.nilFunc]⟩) .lf .lf)))) (.nd 70 (⟨.func, 1, [.nilFunc]⟩) (.nd 66 (⟨.int .u64, 1, [.int .u64 0]⟩) (.nd 64 (⟨.struct [(0, 8), (8, 1), (9, 1), (10, 1), (11, 1)], 12, [.slice none 0 0, .slice none 0 0, .slice none 0 0, .slice none 0 0, .slice none 0 0, .slice none 0 0, .slice none 0 0, .slice none 0 0, .slice none 0 0, .slice none 0 0, .slice none 0 0, .slice none 0 0]⟩) (.nd 63 (⟨.struct [(0, 8), (8, 1), (9, 1), (10, 1), (11, 1)], 12, [.slice none 0 0, .slice none 0 0, .slice none 0 0, .slice none 0 0, .slice none 0 0, .slice none 0 0, .slice none 0 0, .slice none 0 0, .slice none 0 0, .slice none 0 0, .slice none 0 0, .slice none 0 0]⟩) (.nd 62 (⟨.func, 1, [.nilFunc]⟩) .lf .lf) .lf) (.nd 65 (⟨.func, 1, [.nilFunc]⟩) .lf .lf)) (.nd 68 (⟨.struct [(0, 1), (1, 1), (2, 1), (3, 1), (4, 1)], 5, [.int .i64 0, .int .i64 0, .string .empty, .int .u64 0, .int .u32 0]⟩) (.nd 67 (⟨.int .u32, 1, [.int .u32 0]⟩) .lf .lf) (.nd 69 (⟨.struct [(0, 1), (1, 1), (2, 1), (3, 1), (4, 1)], 5, [.int .i64 0, .int .i64 0, .string .empty, .int .u64 0, .int .u32 0]⟩) .lf .lf))) (.nd 74 (⟨.struct [(0, 8)], 8, [.slice none 0 0, .slice none 0 0, .slice none 0 0, .slice none 0 0, .slice none 0 0, .slice none 0 0, .slice none 0 0, .slice none 0 0]⟩) (.nd 72 (⟨.func, 1, [.nilFunc]⟩) (.nd 71 (⟨.func, 1, [.nilFunc]⟩) .lf .lf) (.nd 73 (⟨.struct [(0, 8)], 8, [.slice none 0 0, .slice none 0 0, .slice none 0 0, .slice none 0 0, .slice none 0 0, .slice none 0 0, .slice none 0 0, .slice none 0 0]⟩) .lf .lf)) (.nd 76 (⟨.func, 1, [.nilFunc]⟩) (.nd 75 (⟨.func, 1, [.nilFunc]⟩) .lf .lf) (.nd 77 (⟨.func, 1, [.nilFunc]⟩) .lf .lf)))))) (.nd 113 (⟨.struct [(0, 1), (1, 1), (2, 1), (3, 1), (4, 1)], 5, [.int .i64 0, .int .i64 0, .int .i64 0, .int .i64 0, .int .i64 0]⟩) (.nd 95 (⟨.func, 1, [.nilFunc]⟩) (.nd 87 (⟨.func, 1, [.nilFunc]⟩) (.nd 83 (⟨.struct [(0, 1), (1, 1), (2, 1), (3, 1)], 4, [.int .i64 0, .int .i64 0, .int .i64 0, .int .u64 0]⟩) (.nd 81 (⟨.func, 1, [.nilFunc]⟩) (.nd 80 (⟨.func, 1, [.nilFunc]⟩) (.nd 79 (⟨.func, 1, [.nilFunc]⟩) .lf .lf) .lf) (.nd 82 (⟨.struct [(0, 1), (1, 1), (2, 1), (3, 1)], 4, [.int .i64 0, .int .i64 0, .int .i64 0, .int .u64 0]⟩) .lf .lf)) (.nd 85 (⟨.func, 1, [.nilFunc]⟩) (.nd 84 (⟨.func, 1, [.nilFunc]⟩) .lf .lf) (.nd 86 (⟨.func, 1, [.nilFunc]⟩) .lf .lf))) (.nd 91 (⟨.struct [(0, 1), (1, 1)], 2, [.int .u32 0, .int .i64 0]⟩) (.nd 89 (⟨.func, 1, [.nilFunc]⟩) (.nd 88 (⟨.func, 1, [.nilFunc]⟩) .lf .lf) (.nd 90 (⟨.func, 1, [.nilFunc]⟩) .lf .lf)) (.nd 93 (⟨.struct [(0, 1), (1, 1), (2, 1), (3, 2)], 5, [.int .i64 0, .int .i64 0, .int .i64 0, .int .u32 0, .int .i64 0]⟩) (.nd 92 (⟨.struct [(0, 1), (1, 1)], 2, [.int .u32 0, .int .i64 0]⟩) .lf .lf) (.nd 94 (⟨.struct [(0, 1), (1, 1), (2, 1), (3, 2)], 5, [.int .i64 0, .int .i64 0, .int .i64 0, .int .u32 0, .int .i64 0]⟩) .lf .lf)))) (.nd 104 (⟨.slice 107 3 24 [.int .i64 0, .int .i64 0, .int .i64 0], 1, [.slice none 0 0]⟩) (.nd 100 (⟨.func, 1, [.nilFunc]⟩) (.nd 98 (⟨.func, 1, [.nilFunc]⟩) (.nd 97 (⟨.func, 1, [.nilFunc]⟩) (.nd 96 (⟨.func, 1, [.nilFunc]⟩) .lf .lf) .lf) (.nd 99 (⟨.func, 1, [.nilFunc]⟩) .lf .lf)) (.nd 102 (⟨.ptr, 1, [.pointer none]⟩) (.nd 101 (⟨.func, 1, [.nilFunc]⟩) .lf .lf) (.nd 103 (⟨.slice 107 3 24 [.int .i64 0, .int .i64 0, .int .i64 0], 1, [.slice none 0 0]⟩) .lf .lf))) (.nd 108 (⟨.func, 1, [.nilFunc]⟩) (.nd 106 (⟨.struct [(0, 1), (1, 1), (2, 1)], 3, [.int .i64 0, .int .i64 0, .int .i64 0]⟩) (.nd 105 (⟨.func, 1, [.nilFunc]⟩) .lf .lf) (.nd 107 (⟨.struct [(0, 1), (1, 1), (2, 1)], 3, [.int .i64 0, .int .i64 0, .int .i64 0]⟩) .lf .lf)) (.nd 111 (⟨.slice 113 5 40 [.int .i64 0, .int .i64 0, .int .i64 0, .int .i64 0, .int .i64 0], 1, [.slice none 0 0]⟩) (.nd 110 (⟨.func, 1, [.nilFunc]⟩) .lf .lf) (.nd 112 (⟨.struct [(0, 1), (1, 1), (2, 1), (3, 1), (4, 1)], 5, [.int .i64 0, .int .i64 0, .int .i64 0, .int .i64 0, .int .i64 0]⟩) .lf .lf))))) (.nd 131 (⟨.func, 1, [.nilFunc]⟩) (.nd 123 (⟨.func, 1, [.nilFunc]⟩) (.nd 119 (⟨.func, 1, [.nilFunc]⟩) (.nd 117 (⟨.func, 1, [.nilFunc]⟩) (.nd 116 (⟨.func, 1, [.nilFunc]⟩) (.nd 115 (⟨.func, 1, [.nilFunc]⟩) .lf .lf) .lf) (.nd 118 (⟨.func, 1, [.nilFunc]⟩) .lf .lf)) (.nd 121 (⟨.func, 1, [.nilFunc]⟩) (.nd 120 (⟨.func, 1, [.nilFunc]⟩) .lf .lf) (.nd 122 (⟨.func, 1, [.nilFunc]⟩) .lf .lf))) (.nd 127 (⟨.func, 1, [.nilFunc]⟩) (.nd 125 (⟨.func, 1, [.nilFunc]⟩) (.nd 124 (⟨.func, 1, [.nilFunc]⟩) .lf .lf) (.nd 126 (⟨.func, 1, [.nilFunc]⟩) .lf .lf)) (.nd 129 (⟨.iface, 1, [.nilIface]⟩) (.nd 128 (⟨.func, 1, [.nilFunc]⟩) .lf .lf) (.nd 130 (⟨.iface, 1, [.nilIface]⟩) .lf .lf)))) (.nd 139 (⟨.func, 1, [.nilFunc]⟩) (.nd 135 (⟨.func, 1, [.nilFunc]⟩) (.nd 133 (⟨.func, 1, [.nilFunc]⟩) (.nd 132 (⟨.func, 1, [.nilFunc]⟩) .lf .lf) (.nd 134 (⟨.func, 1, [.nilFunc]⟩) .lf .lf)) (.nd 137 (⟨.func, 1, [.nilFunc]⟩) (.nd 136 (⟨.func, 1, [.nilFunc]⟩) .lf .lf) (.nd 138 (⟨.func, 1, [.nilFunc]⟩) .lf .lf))) (.nd 143 (⟨.struct [(0, 1), (1, 1), (2, 1), (3, 1)], 4, [.pointer none, .pointer none, .pointer none, .string .empty]⟩) (.nd 141 (⟨.int .u64, 1, [.int .u64 0]⟩) (.nd 140 (⟨.func, 1, [.nilFunc]⟩) .lf .lf) (.nd 142 (⟨.func, 1, [.nilFunc]⟩) .lf .lf)) (.nd 151 (⟨.ptr, 1, [.pointer none]⟩) (.nd 150 (⟨.func, 1, [.nilFunc]⟩) .lf .lf) (.nd 154 (⟨.struct [(0, 1), (1, 1), (2, 1), (3, 1), (4, 1), (5, 1), (6, 1), (7, 1), (8, 1), (9, 1), (10, 1)], 11, [.int .u64 0, .int .u64 0, .int .u32 0, .int .u8 0, .int .u8 0, .int .u8 0, .int .u8 0, .nilFunc, .pointer none, .int .i32 0, .int .i32 0]⟩) .lf .lf)))))))

def etab : Tr (List EK) := (.nd 92 ([.int .u32, .int .i64]) (.nd 69 ([.int .i64, .int .i64, .string, .int .u64, .int .u32]) (.nd 40 ([.int .i64, .int .i64, .int .i64]) .lf .lf) (.nd 83 ([.int .i64, .int .i64, .int .i64, .int .u64]) .lf .lf)) (.nd 113 ([.int .i64, .int .i64, .int .i64, .int .i64, .int .i64]) (.nd 107 ([.int .i64, .int .i64, .int .i64]) .lf .lf) .lf))

theorem tab_ok : tab.all (fun t i => tiOf Try.prog t = some i) := ⟨ty78, ⟨ty41, ⟨ty23, ⟨ty13, ⟨ty5, ⟨ty3, ⟨ty2, ⟨ty1, trivial, trivial⟩, trivial⟩, ⟨ty4, trivial, trivial⟩⟩, ⟨ty9, ⟨ty7, trivial, trivial⟩, ⟨ty12, trivial, trivial⟩⟩⟩, ⟨ty18, ⟨ty16, ⟨ty15, trivial, trivial⟩, ⟨ty17, trivial, trivial⟩⟩, ⟨ty21, ⟨ty20, trivial, trivial⟩, ⟨ty22, trivial, trivial⟩⟩⟩⟩, ⟨ty32, ⟨ty28, ⟨ty26, ⟨ty25, ⟨ty24, trivial, trivial⟩, trivial⟩, ⟨ty27, trivial, trivial⟩⟩, ⟨ty30, ⟨ty29, trivial, trivial⟩, ⟨ty31, trivial, trivial⟩⟩⟩, ⟨ty37, ⟨ty34, ⟨ty33, trivial, trivial⟩, ⟨ty35, trivial, trivial⟩⟩, ⟨ty39, ⟨ty38, trivial, trivial⟩, ⟨ty40, trivial, trivial⟩⟩⟩⟩⟩, ⟨ty61, ⟨ty52, ⟨ty47, ⟨ty44, ⟨ty43, ⟨ty42, trivial, trivial⟩, trivial⟩, ⟨ty45, trivial, trivial⟩⟩, ⟨ty50, ⟨ty49, trivial, trivial⟩, ⟨ty51, trivial, trivial⟩⟩⟩, ⟨ty56, ⟨ty54, ⟨ty53, trivial, trivial⟩, ⟨ty55, trivial, trivial⟩⟩, ⟨ty58, ⟨ty57, trivial, trivial⟩, ⟨ty60, trivial, trivial⟩⟩⟩⟩, ⟨ty70, ⟨ty66, ⟨ty64, ⟨ty63, ⟨ty62, trivial, trivial⟩, trivial⟩, ⟨ty65, trivial, trivial⟩⟩, ⟨ty68, ⟨ty67, trivial, trivial⟩, ⟨ty69, trivial, trivial⟩⟩⟩, ⟨ty74, ⟨ty72, ⟨ty71, trivial, trivial⟩, ⟨ty73, trivial, trivial⟩⟩, ⟨ty76, ⟨ty75, trivial, trivial⟩, ⟨ty77, trivial, trivial⟩⟩⟩⟩⟩⟩, ⟨ty113, ⟨ty95, ⟨ty87, ⟨ty83, ⟨ty81, ⟨ty80, ⟨ty79, trivial, trivial⟩, trivial⟩, ⟨ty82, trivial, trivial⟩⟩, ⟨ty85, ⟨ty84, trivial, trivial⟩, ⟨ty86, trivial, trivial⟩⟩⟩, ⟨ty91, ⟨ty89, ⟨ty88, trivial, trivial⟩, ⟨ty90, trivial, trivial⟩⟩, ⟨ty93, ⟨ty92, trivial, trivial⟩, ⟨ty94, trivial, trivial⟩⟩⟩⟩, ⟨ty104, ⟨ty100, ⟨ty98, ⟨ty97, ⟨ty96, trivial, trivial⟩, trivial⟩, ⟨ty99, trivial, trivial⟩⟩, ⟨ty102, ⟨ty101, trivial, trivial⟩, ⟨ty103, trivial, trivial⟩⟩⟩, ⟨ty108, ⟨ty106, ⟨ty105, trivial, trivial⟩, ⟨ty107, trivial, trivial⟩⟩, ⟨ty111, ⟨ty110, trivial, trivial⟩, ⟨ty112, trivial, trivial⟩⟩⟩⟩⟩, ⟨ty131, ⟨ty123, ⟨ty119, ⟨ty117, ⟨ty116, ⟨ty115, trivial, trivial⟩, trivial⟩, ⟨ty118, trivial, trivial⟩⟩, ⟨ty121, ⟨ty120, trivial, trivial⟩, ⟨ty122, trivial, trivial⟩⟩⟩, ⟨ty127, ⟨ty125, ⟨ty124, trivial, trivial⟩, ⟨ty126, trivial, trivial⟩⟩, ⟨ty129, ⟨ty128, trivial, trivial⟩, ⟨ty130, trivial, trivial⟩⟩⟩⟩, ⟨ty139, ⟨ty135, ⟨ty133, ⟨ty132, trivial, trivial⟩, ⟨ty134, trivial, trivial⟩⟩, ⟨ty137, ⟨ty136, trivial, trivial⟩, ⟨ty138, trivial, trivial⟩⟩⟩, ⟨ty143, ⟨ty141, ⟨ty140, trivial, trivial⟩, ⟨ty142, trivial, trivial⟩⟩, ⟨ty151, ⟨ty150, trivial, trivial⟩, ⟨ty154, trivial, trivial⟩⟩⟩⟩⟩⟩⟩

theorem etab_ok : etab.all (fun t i => eqsOf Try.prog t = some i) := ⟨tq92, ⟨tq69, ⟨tq40, trivial, trivial⟩, ⟨tq83, trivial, trivial⟩⟩, ⟨tq113, ⟨tq107, trivial, trivial⟩, trivial⟩⟩

def Γ : TyE Try.prog := ⟨⟨fun t => tab.look t, fun _ _ h => tiOf_ok (Tr.look_ok tab_ok h)⟩, fun t => etab.look t, fun _ _ h => eqsOf_ok (Tr.look_ok etab_ok h)⟩

theorem hm : Try.prog.follows .mixedOrders = true := by kernel_rfl

theorem F3 : Fun Try.prog 3 Try.f3 (bodyOf Try.f3) := ⟨Try.func3, rfl, by kernel_rfl⟩  -- paling/palinglaw25.TreeSpans
theorem F4 : Fun Try.prog 4 Try.f4 (bodyOf Try.f4) := ⟨Try.func4, rfl, by kernel_rfl⟩  -- paling/palinglaw25.TreeAlone
theorem F5 : Fun Try.prog 5 Try.f5 (bodyOf Try.f5) := ⟨Try.func5, rfl, by kernel_rfl⟩  -- paling/palinglaw25.TreeCheap
theorem F6 : Fun Try.prog 6 Try.f6 (bodyOf Try.f6) := ⟨Try.func6, rfl, by kernel_rfl⟩  -- paling/palinglaw25.works
theorem F7 : Fun Try.prog 7 Try.f7 (bodyOf Try.f7) := ⟨Try.func7, rfl, by kernel_rfl⟩  -- paling/palinglaw15.Great
theorem F8 : Fun Try.prog 8 Try.f8 (bodyOf Try.f8) := ⟨Try.func8, rfl, by kernel_rfl⟩  -- paling/tree.Forward
theorem F9 : Fun Try.prog 9 Try.f9 (bodyOf Try.f9) := ⟨Try.func9, rfl, by kernel_rfl⟩  -- paling/palinglaw25.places
theorem F10 : Fun Try.prog 10 Try.f10 (bodyOf Try.f10) := ⟨Try.func10, rfl, by kernel_rfl⟩  -- paling/palinglaw25.join
theorem F11 : Fun Try.prog 11 Try.f11 (bodyOf Try.f11) := ⟨Try.func11, rfl, by kernel_rfl⟩  -- paling/tree.Costs
theorem F12 : Fun Try.prog 12 Try.f12 (bodyOf Try.f12) := ⟨Try.func12, rfl, by kernel_rfl⟩  -- paling/tree.Roles
theorem F13 : Fun Try.prog 13 Try.f13 (bodyOf Try.f13) := ⟨Try.func13, rfl, by kernel_rfl⟩  -- paling/palinglaw25.ring
theorem F14 : Fun Try.prog 14 Try.f14 (bodyOf Try.f14) := ⟨Try.func14, rfl, by kernel_rfl⟩  -- paling/tree.open
theorem F15 : Fun Try.prog 15 Try.f15 (bodyOf Try.f15) := ⟨Try.func15, rfl, by kernel_rfl⟩  -- (*paling/tree.span).roles
theorem F16 : Fun Try.prog 16 Try.f16 (bodyOf Try.f16) := ⟨Try.func16, rfl, by kernel_rfl⟩  -- slices.Contains[[]int,int]
theorem F17 : Fun Try.prog 17 Try.f17 (bodyOf Try.f17) := ⟨Try.func17, rfl, by kernel_rfl⟩  -- slices.Index[[]int,int]
theorem F18 : Fun Try.prog 18 Try.f18 (bodyOf Try.f18) := ⟨Try.func18, rfl, by kernel_rfl⟩  -- paling/names.Right
theorem F19 : Fun Try.prog 19 Try.f19 (bodyOf Try.f19) := ⟨Try.func19, rfl, by kernel_rfl⟩  -- paling/vector.Costs
theorem F20 : Fun Try.prog 20 Try.f20 (bodyOf Try.f20) := ⟨Try.func20, rfl, by kernel_rfl⟩  -- paling/vector.Ranks
theorem F21 : Fun Try.prog 21 Try.f21 (bodyOf Try.f21) := ⟨Try.func21, rfl, by kernel_rfl⟩  -- (*paling/tree.span).reach
theorem F22 : Fun Try.prog 22 Try.f22 (bodyOf Try.f22) := ⟨Try.func22, rfl, by kernel_rfl⟩  -- (*paling/tree.span).far
theorem F23 : Fun Try.prog 23 Try.f23 (bodyOf Try.f23) := ⟨Try.func23, rfl, by kernel_rfl⟩  -- (*paling/tree.span).ahead
theorem F24 : Fun Try.prog 24 Try.f24 (bodyOf Try.f24) := ⟨Try.func24, rfl, by kernel_rfl⟩  -- (*paling/tree.span).best
theorem F25 : Fun Try.prog 25 Try.f25 (bodyOf Try.f25) := ⟨Try.func25, rfl, by kernel_rfl⟩  -- (paling/names.judge).few
theorem F26 : Fun Try.prog 26 Try.f26 (bodyOf Try.f26) := ⟨Try.func26, rfl, by kernel_rfl⟩  -- paling/names.all[paling/api.Domain]
theorem F27 : Fun Try.prog 27 Try.f27 (bodyOf Try.f27) := ⟨Try.func27, rfl, by kernel_rfl⟩  -- (paling/names.judge).bare
theorem F28 : Fun Try.prog 28 Try.f28 (bodyOf Try.f28) := ⟨Try.func28, rfl, by kernel_rfl⟩  -- (paling/names.judge).peers
theorem F29 : Fun Try.prog 29 Try.f29 (bodyOf Try.f29) := ⟨Try.func29, rfl, by kernel_rfl⟩  -- paling/names.all[paling/api.Port]
theorem F30 : Fun Try.prog 30 Try.f30 (bodyOf Try.f30) := ⟨Try.func30, rfl, by kernel_rfl⟩  -- (paling/names.judge).port
theorem F31 : Fun Try.prog 31 Try.f31 (bodyOf Try.f31) := ⟨Try.func31, rfl, by kernel_rfl⟩  -- paling/names.all[paling/api.Link]
theorem F32 : Fun Try.prog 32 Try.f32 (bodyOf Try.f32) := ⟨Try.func32, rfl, by kernel_rfl⟩  -- (paling/names.judge).link
theorem F33 : Fun Try.prog 33 Try.f33 (bodyOf Try.f33) := ⟨Try.func33, rfl, by kernel_rfl⟩  -- paling/names.all[paling/api.Static]
theorem F34 : Fun Try.prog 34 Try.f34 (bodyOf Try.f34) := ⟨Try.func34, rfl, by kernel_rfl⟩  -- (paling/names.judge).static
theorem F35 : Fun Try.prog 35 Try.f35 (bodyOf Try.f35) := ⟨Try.func35, rfl, by kernel_rfl⟩  -- paling/names.all[paling/api.Flood]
theorem F36 : Fun Try.prog 36 Try.f36 (bodyOf Try.f36) := ⟨Try.func36, rfl, by kernel_rfl⟩  -- paling/names.Right$1
theorem F37 : Fun Try.prog 37 Try.f37 (bodyOf Try.f37) := ⟨Try.func37, rfl, by kernel_rfl⟩  -- paling/names.place[paling/api.Device]
theorem F38 : Fun Try.prog 38 Try.f38 (bodyOf Try.f38) := ⟨Try.func38, rfl, by kernel_rfl⟩  -- paling/names.all[paling/api.Vrf]
theorem F39 : Fun Try.prog 39 Try.f39 (bodyOf Try.f39) := ⟨Try.func39, rfl, by kernel_rfl⟩  -- paling/names.Right$2
theorem F40 : Fun Try.prog 40 Try.f40 (bodyOf Try.f40) := ⟨Try.func40, rfl, by kernel_rfl⟩  -- paling/names.rising
theorem F41 : Fun Try.prog 41 Try.f41 (bodyOf Try.f41) := ⟨Try.func41, rfl, by kernel_rfl⟩  -- paling/names.all[paling/api.Irb]
theorem F42 : Fun Try.prog 42 Try.f42 (bodyOf Try.f42) := ⟨Try.func42, rfl, by kernel_rfl⟩  -- (paling/names.judge).irb
theorem F43 : Fun Try.prog 43 Try.f43 (bodyOf Try.f43) := ⟨Try.func43, rfl, by kernel_rfl⟩  -- slices.ContainsFunc[[]paling/api.Port,paling/api.Port]
theorem F44 : Fun Try.prog 44 Try.f44 (bodyOf Try.f44) := ⟨Try.func44, rfl, by kernel_rfl⟩  -- paling/vector.Costs$1
theorem F45 : Fun Try.prog 45 Try.f45 (bodyOf Try.f45) := ⟨Try.func45, rfl, by kernel_rfl⟩  -- slices.SortStableFunc[[]int,int]
theorem F46 : Fun Try.prog 46 Try.f46 (bodyOf Try.f46) := ⟨Try.func46, rfl, by kernel_rfl⟩  -- paling/vector.Ranks$1
theorem F47 : Fun Try.prog 47 Try.f47 (bodyOf Try.f47) := ⟨Try.func47, rfl, by kernel_rfl⟩  -- cmp.Or[int]
theorem F48 : Fun Try.prog 48 Try.f48 (bodyOf Try.f48) := ⟨Try.func48, rfl, by kernel_rfl⟩  -- cmp.Compare[int]
theorem F49 : Fun Try.prog 49 Try.f49 (bodyOf Try.f49) := ⟨Try.func49, rfl, by kernel_rfl⟩  -- cmp.Compare[uint64]
theorem F50 : Fun Try.prog 50 Try.f50 (bodyOf Try.f50) := ⟨Try.func50, rfl, by kernel_rfl⟩  -- container/heap.Push
theorem F51 : Fun Try.prog 51 Try.f51 (bodyOf Try.f51) := ⟨Try.func51, rfl, by kernel_rfl⟩  -- (paling/tree.queue).Len
theorem F52 : Fun Try.prog 52 Try.f52 (bodyOf Try.f52) := ⟨Try.func52, rfl, by kernel_rfl⟩  -- container/heap.Pop
theorem F53 : Fun Try.prog 53 Try.f53 (bodyOf Try.f53) := ⟨Try.func53, rfl, by kernel_rfl⟩  -- paling/vector.Least
theorem F54 : Fun Try.prog 54 Try.f54 (bodyOf Try.f54) := ⟨Try.func54, rfl, by kernel_rfl⟩  -- paling/names.place[paling/api.Irb]
theorem F55 : Fun Try.prog 55 Try.f55 (bodyOf Try.f55) := ⟨Try.func55, rfl, by kernel_rfl⟩  -- (paling/names.judge).domain
theorem F56 : Fun Try.prog 56 Try.f56 (bodyOf Try.f56) := ⟨Try.func56, rfl, by kernel_rfl⟩  -- paling/names.all[int]
theorem F57 : Fun Try.prog 57 Try.f57 (bodyOf Try.f57) := ⟨Try.func57, rfl, by kernel_rfl⟩  -- (paling/names.judge).peers$1
theorem F58 : Fun Try.prog 58 Try.f58 (bodyOf Try.f58) := ⟨Try.func58, rfl, by kernel_rfl⟩  -- (paling/names.judge).peer
theorem F59 : Fun Try.prog 59 Try.f59 (bodyOf Try.f59) := ⟨Try.func59, rfl, by kernel_rfl⟩  -- paling/names.place[paling/api.Link]
theorem F60 : Fun Try.prog 60 Try.f60 (bodyOf Try.f60) := ⟨Try.func60, rfl, by kernel_rfl⟩  -- paling/names.place[paling/api.Port]
theorem F61 : Fun Try.prog 61 Try.f61 (bodyOf Try.f61) := ⟨Try.func61, rfl, by kernel_rfl⟩  -- paling/names.place[paling/api.Domain]
theorem F62 : Fun Try.prog 62 Try.f62 (bodyOf Try.f62) := ⟨Try.func62, rfl, by kernel_rfl⟩  -- paling/names.Member
theorem F63 : Fun Try.prog 63 Try.f63 (bodyOf Try.f63) := ⟨Try.func63, rfl, by kernel_rfl⟩  -- paling/num.Rising
theorem F64 : Fun Try.prog 64 Try.f64 (bodyOf Try.f64) := ⟨Try.func64, rfl, by kernel_rfl⟩  -- paling/names.place[paling/api.Vrf]
theorem F65 : Fun Try.prog 65 Try.f65 (bodyOf Try.f65) := ⟨Try.func65, rfl, by kernel_rfl⟩  -- slices.IndexFunc[[]paling/api.Port,paling/api.Port]
theorem F66 : Fun Try.prog 66 Try.f66 (bodyOf Try.f66) := ⟨Try.func66, rfl, by kernel_rfl⟩  -- slices.stableCmpFunc[int]
theorem F67 : Fun Try.prog 67 Try.f67 (bodyOf Try.f67) := ⟨Try.func67, rfl, by kernel_rfl⟩  -- cmp.isNaN[int]
theorem F68 : Fun Try.prog 68 Try.f68 (bodyOf Try.f68) := ⟨Try.func68, rfl, by kernel_rfl⟩  -- cmp.isNaN[uint64]
theorem F69 : Fun Try.prog 69 Try.f69 (bodyOf Try.f69) := ⟨Try.func69, rfl, by kernel_rfl⟩  -- container/heap.up
theorem F70 : Fun Try.prog 70 Try.f70 (bodyOf Try.f70) := ⟨Try.func70, rfl, by kernel_rfl⟩  -- container/heap.down
theorem F71 : Fun Try.prog 71 Try.f71 (bodyOf Try.f71) := ⟨Try.func71, rfl, by kernel_rfl⟩  -- paling/vector.Less
theorem F72 : Fun Try.prog 72 Try.f72 (bodyOf Try.f72) := ⟨Try.func72, rfl, by kernel_rfl⟩  -- slices.IndexFunc[[]paling/api.Domain,paling/api.Domain]
theorem F73 : Fun Try.prog 73 Try.f73 (bodyOf Try.f73) := ⟨Try.func73, rfl, by kernel_rfl⟩  -- (paling/names.judge).domain$1
theorem F74 : Fun Try.prog 74 Try.f74 (bodyOf Try.f74) := ⟨Try.func74, rfl, by kernel_rfl⟩  -- (paling/names.judge).vtep
theorem F75 : Fun Try.prog 75 Try.f75 (bodyOf Try.f75) := ⟨Try.func75, rfl, by kernel_rfl⟩  -- slices.insertionSortCmpFunc[int]
theorem F76 : Fun Try.prog 76 Try.f76 (bodyOf Try.f76) := ⟨Try.func76, rfl, by kernel_rfl⟩  -- slices.symMergeCmpFunc[int]
theorem F77 : Fun Try.prog 77 Try.f77 (bodyOf Try.f77) := ⟨Try.func77, rfl, by kernel_rfl⟩  -- slices.rotateCmpFunc[int]
theorem F78 : Fun Try.prog 78 Try.f78 (bodyOf Try.f78) := ⟨Try.func78, rfl, by kernel_rfl⟩  -- slices.swapRangeCmpFunc[int]
theorem F96 : Fun Try.prog 96 Try.f96 (bodyOf Try.f96) := ⟨Try.func96, rfl, by kernel_rfl⟩  -- (paling/tree.queue).Less
theorem F97 : Fun Try.prog 97 Try.f97 (bodyOf Try.f97) := ⟨Try.func97, rfl, by kernel_rfl⟩  -- (*paling/tree.queue).Pop
theorem F98 : Fun Try.prog 98 Try.f98 (bodyOf Try.f98) := ⟨Try.func98, rfl, by kernel_rfl⟩  -- (*paling/tree.queue).Push
theorem F99 : Fun Try.prog 99 Try.f99 (bodyOf Try.f99) := ⟨Try.func99, rfl, by kernel_rfl⟩  -- (paling/tree.queue).Swap

end Go.Sy.Ytgfgbdbklikckaa

namespace Go.Sy.Ytgfgbdbklikckaa
open Go.Proofs

structure Device where
  (row prio : Int) (name : ByteArray) (mac vtep : Int)
structure Port where
  (row dev native cost link : Int) (name : ByteArray) (tagged : List Int)
structure Link where
  (row a b : Int)
structure Domain where
  (dev vlan vni irb row : Int) (peers : List Int)
structure Static where
  (row domain port mac : Int)
structure Flood where
  (row dev vni : Int) (addrs : List Int)
structure Vrf where
  (row dev : Int) (name : ByteArray) (imports exports : List Int)
structure Irb where
  (row domain vrf addr bits : Int)
structure Net where
  (devices : List Device) (ports : List Port) (links : List Link) (domains : List Domain) (statics : List Static) (floods : List Flood) (vrfs : List Vrf) (irbs : List Irb)

def deviceSV (d : Device) : SV := .agg [intSV d.row, intSV d.prio, strSV d.name, u64SV d.mac, u32SV d.vtep]
def portSV (p : Port) : SV := .agg [intSV p.row, intSV p.dev, intSV p.native, intSV p.cost, intSV p.link, strSV p.name, .sl 1 intSV p.tagged]
def linkSV (l : Link) : SV := .agg [intSV l.row, intSV l.a, intSV l.b]
def domainSV (d : Domain) : SV := .agg [intSV d.dev, intSV d.vlan, intSV d.vni, intSV d.irb, intSV d.row, .sl 1 intSV d.peers]
def staticSV (s : Static) : SV := .agg [intSV s.row, intSV s.domain, intSV s.port, u64SV s.mac]
def floodSV (f : Flood) : SV := .agg [intSV f.row, intSV f.dev, intSV f.vni, .sl 1 u32SV f.addrs]
def vrfSV (v : Vrf) : SV := .agg [intSV v.row, intSV v.dev, strSV v.name, .sl 1 intSV v.imports, .sl 1 intSV v.exports]
def irbSV (i : Irb) : SV := .agg [intSV i.row, intSV i.domain, intSV i.vrf, u32SV i.addr, intSV i.bits]
def netL (n : Net) : List SV := [.sl 5 deviceSV n.devices, .sl 7 portSV n.ports, .sl 3 linkSV n.links, .sl 6 domainSV n.domains, .sl 4 staticSV n.statics, .sl 4 floodSV n.floods, .sl 5 vrfSV n.vrfs, .sl 5 irbSV n.irbs]
def netSV (n : Net) : SV := .agg [.sl 5 deviceSV n.devices, .sl 7 portSV n.ports, .sl 3 linkSV n.links, .sl 6 domainSV n.domains, .sl 4 staticSV n.statics, .sl 4 floodSV n.floods, .sl 5 vrfSV n.vrfs, .sl 5 irbSV n.irbs]

instance : Inhabited Device := ⟨⟨0, 0, .empty, 0, 0⟩⟩
instance : Inhabited Port := ⟨⟨0, 0, 0, 0, 0, .empty, []⟩⟩
instance : Inhabited Link := ⟨⟨0, 0, 0⟩⟩
instance : Inhabited Domain := ⟨⟨0, 0, 0, 0, 0, []⟩⟩
instance : Inhabited Static := ⟨⟨0, 0, 0, 0⟩⟩
instance : Inhabited Flood := ⟨⟨0, 0, 0, []⟩⟩
instance : Inhabited Vrf := ⟨⟨0, 0, .empty, [], []⟩⟩
instance : Inhabited Irb := ⟨⟨0, 0, 0, 0, 0⟩⟩

def placeB (i : Int) (n : Nat) : Bool := decide (0 ≤ i) && decide (i < n)
def inB (l : List Int) (x : Int) : Bool := l.any (· == x)

/-- What stands at a place. -/
def nth {α : Type} [Inhabited α] (l : List α) (i : Int) : α := (l[i.toNat]?).getD default
theorem nth_eq {α : Type} [Inhabited α] {l : List α} {i : Int} (h : i.toNat < l.length) : nth l i = l[i.toNat] := by
  simp [nth, h]

/-- The first place that is so; or -1. -/
def idxI {α : Type} (p : α → Bool) (l : List α) : Int := match l.findIdx? p with | some i => (i : Int) | none => -1

theorem idxI_found {α : Type} {p : α → Bool} {l : List α} {j : Nat} (h : j < l.length) (h1 : ∀ i (hi : i < l.length), i < j → p l[i] = false) (h2 : p l[j] = true) : idxI p l = j := by
  have : l.findIdx? p = some j := by
    rw [List.findIdx?_eq_some_iff_getElem]
    exact ⟨h, h2, fun i hi => by simp [h1 i (by omega) hi]⟩
  simp [idxI, this]

theorem idxI_none {α : Type} {p : α → Bool} {l : List α} (h1 : ∀ i (hi : i < l.length), p l[i] = false) : idxI p l = -1 := by
  have : l.findIdx? p = none := by
    rw [List.findIdx?_eq_none_iff]
    intro x hx
    obtain ⟨i, hi, rfl⟩ := List.mem_iff_getElem.1 hx
    exact h1 i hi
  simp [idxI, this]

theorem idxI_lt {α : Type} (p : α → Bool) (l : List α) : idxI p l < l.length := by
  unfold idxI
  split
  · rename_i i h
    rw [List.findIdx?_eq_some_iff_getElem] at h
    obtain ⟨h, _⟩ := h
    omega
  · omega

theorem idxI_ge {α : Type} (p : α → Bool) (l : List α) : -1 ≤ idxI p l := by
  unfold idxI
  split <;> omega

theorem idxI_any {α : Type} (p : α → Bool) (l : List α) : decide (0 ≤ idxI p l) = l.any p := by
  unfold idxI
  split
  · rename_i i h
    rw [List.findIdx?_eq_some_iff_getElem] at h
    obtain ⟨h, h2, _⟩ := h
    have : l.any p = true := List.any_eq_true.2 ⟨_, List.getElem_mem h, h2⟩
    rw [this]
    simp
  · rename_i h
    rw [List.findIdx?_eq_none_iff] at h
    have : l.any p = false := by
      rw [List.any_eq_false]
      intro x hx
      simp [h x hx]
    rw [this]
    simp

/-- Is each, with its place, so? -/
def allB {α : Type} (p : Nat → α → Bool) (l : List α) : Bool := l.zipIdx.all fun q => p q.2 q.1

theorem allB_iff {α : Type} {p : Nat → α → Bool} {l : List α} : allB p l = true ↔ ∀ i (h : i < l.length), p i l[i] = true := by
  simp only [allB, List.all_eq_true]
  constructor
  · intro h i hi
    exact h (l[i], i) (by rw [List.mk_mem_zipIdx_iff_getElem?]; simp [hi])
  · rintro h ⟨x, i⟩ hx
    rw [List.mk_mem_zipIdx_iff_getElem?] at hx
    obtain ⟨hi, rfl⟩ := List.getElem?_eq_some_iff.1 hx
    exact h i hi

theorem allB_true {α : Type} {p : Nat → α → Bool} {l : List α} (h : ∀ i (h : i < l.length), p i l[i] = true) : allB p l = true := allB_iff.2 h
theorem allB_false {α : Type} {p : Nat → α → Bool} {l : List α} {i : Nat} (h : i < l.length) (h1 : p i l[i] = false) : allB p l = false := by
  cases hh : allB p l with
  | false => rfl
  | true => have := allB_iff.1 hh i h; rw [h1] at this; cases this

/-- The first j are so. -/
def Upto {α : Type} (p : Nat → α → Bool) (l : List α) (j : Nat) : Prop := ∀ i (h : i < l.length), i < j → p i l[i] = true
theorem upto_zero {α : Type} (p : Nat → α → Bool) (l : List α) : Upto p l 0 := fun i h hj => absurd hj (by omega)
theorem upto_next {α : Type} {p : Nat → α → Bool} {l : List α} {j : Nat} (hI : Upto p l j) (hj : j < l.length) (h : p j l[j] = true) : Upto p l (j + 1) := by
  intro i hi hij
  rcases Nat.lt_or_ge i j with h1 | h1
  · exact hI i hi h1
  · have : i = j := by omega
    subst this
    exact h
theorem upto_all {α : Type} {p : Nat → α → Bool} {l : List α} {j : Nat} (hI : Upto p l j) (hj : l.length ≤ j) : allB p l = true := allB_true fun i hi => hI i hi (by omega)

def Short {α : Type} (l : List α) : Prop := l.length < 2147483648

end Go.Sy.Ytgfgbdbklikckaa

namespace Go.Sy.Ytgfgbdbklikckaa
open Go.Proofs
-- SIMP: placeB

attribute [local irreducible] Go.Sy.G Go.Sy.DR
set_option maxRecDepth 20000
set_option maxHeartbeats 4000000

theorem placeS_Device {α : Type} (sz : Nat) (e : α → SV) (l : List α) (i : Int) : Sy.Spec Try.prog 37 [.sl sz e l, intSV i] [] (boolSV (placeB i l.length)) [] := contract Γ hm 100 F37 Try.ntmps37 rfl fun F hF => by
  ((conv => whnf); repeat (first | (refine ⟨fun (h : false = true) => (Bool.false_ne_true h).elim, fun _ => ?_⟩; ((first | (refine run Γ hm 400 ?_) | (refine runD Γ hm 400 (by kernel_rfl) ?_)); (conv => whnf))) | (refine ⟨fun _ => ?_, fun (h : true = false) => (Bool.false_ne_true h.symm).elim⟩; ((first | (refine run Γ hm 400 ?_) | (refine runD Γ hm 400 (by kernel_rfl) ?_)); (conv => whnf)))))
  (repeat' (first | (refine ⟨fun h => ?_, fun h => ?_⟩ <;> (repeat (first | (simp only [placeB] at h) | (simp only [decide_eq_true_eq] at h) | (simp only [decide_eq_false_iff_not] at h) | (simp only [beq_iff_eq] at h) | (simp only [beq_eq_false_iff_ne] at h) | (simp only [bne_iff_ne] at h) | (simp only [bne_eq_false_iff_eq] at h) | (simp only [Bool.and_eq_true] at h) | (simp only [Bool.or_eq_true] at h) | (simp only [Bool.and_eq_false_iff] at h) | (simp only [Bool.or_eq_false_iff] at h) | (simp only [Bool.not_eq_true'] at h) | (simp only [Bool.not_eq_false'] at h) | (simp only [Bool.not_eq_eq_eq_not] at h) | (simp only [Bool.not_true] at h) | (simp only [Bool.not_false] at h))) <;> (((first | (refine run Γ hm 400 ?_) | (refine runD Γ hm 400 (by kernel_rfl) ?_)); (conv => whnf)); repeat (first | (refine ⟨fun (h : false = true) => (Bool.false_ne_true h).elim, fun _ => ?_⟩; ((first | (refine run Γ hm 400 ?_) | (refine runD Γ hm 400 (by kernel_rfl) ?_)); (conv => whnf))) | (refine ⟨fun _ => ?_, fun (h : true = false) => (Bool.false_ne_true h.symm).elim⟩; ((first | (refine run Γ hm 400 ?_) | (refine runD Γ hm 400 (by kernel_rfl) ?_)); (conv => whnf)))))) | (refine done0 rfl (.cons .tmp .nil) ?_ rfl) | (refine ⟨(by kernel_rfl), ?_⟩; ((conv => whnf); repeat (first | (refine ⟨fun (h : false = true) => (Bool.false_ne_true h).elim, fun _ => ?_⟩; ((first | (refine run Γ hm 400 ?_) | (refine runD Γ hm 400 (by kernel_rfl) ?_)); (conv => whnf))) | (refine ⟨fun _ => ?_, fun (h : true = false) => (Bool.false_ne_true h.symm).elim⟩; ((first | (refine run Γ hm 400 ?_) | (refine runD Γ hm 400 (by kernel_rfl) ?_)); (conv => whnf)))))) | (refine ⟨by (first | (unfold I64; omega) | omega | (simp only [Int.toNat_natCast]; omega) | done), by (first | (unfold I64; omega) | omega | (simp only [Int.toNat_natCast]; omega) | done), ?_⟩; ((conv => whnf); repeat (first | (refine ⟨fun (h : false = true) => (Bool.false_ne_true h).elim, fun _ => ?_⟩; ((first | (refine run Γ hm 400 ?_) | (refine runD Γ hm 400 (by kernel_rfl) ?_)); (conv => whnf))) | (refine ⟨fun _ => ?_, fun (h : true = false) => (Bool.false_ne_true h.symm).elim⟩; ((first | (refine run Γ hm 400 ?_) | (refine runD Γ hm 400 (by kernel_rfl) ?_)); (conv => whnf)))))) | (refine ⟨by (first | (unfold I64; omega) | omega | (simp only [Int.toNat_natCast]; omega) | done), ?_⟩; ((conv => whnf); repeat (first | (refine ⟨fun (h : false = true) => (Bool.false_ne_true h).elim, fun _ => ?_⟩; ((first | (refine run Γ hm 400 ?_) | (refine runD Γ hm 400 (by kernel_rfl) ?_)); (conv => whnf))) | (refine ⟨fun _ => ?_, fun (h : true = false) => (Bool.false_ne_true h.symm).elim⟩; ((first | (refine run Γ hm 400 ?_) | (refine runD Γ hm 400 (by kernel_rfl) ?_)); (conv => whnf))))))))
  all_goals (refine congrArg boolSV ?_)
  all_goals grind [placeB]

theorem placeS_Irb {α : Type} (sz : Nat) (e : α → SV) (l : List α) (i : Int) : Sy.Spec Try.prog 54 [.sl sz e l, intSV i] [] (boolSV (placeB i l.length)) [] := contract Γ hm 100 F54 Try.ntmps54 rfl fun F hF => by
  ((conv => whnf); repeat (first | (refine ⟨fun (h : false = true) => (Bool.false_ne_true h).elim, fun _ => ?_⟩; ((first | (refine run Γ hm 400 ?_) | (refine runD Γ hm 400 (by kernel_rfl) ?_)); (conv => whnf))) | (refine ⟨fun _ => ?_, fun (h : true = false) => (Bool.false_ne_true h.symm).elim⟩; ((first | (refine run Γ hm 400 ?_) | (refine runD Γ hm 400 (by kernel_rfl) ?_)); (conv => whnf)))))
  (repeat' (first | (refine ⟨fun h => ?_, fun h => ?_⟩ <;> (repeat (first | (simp only [placeB] at h) | (simp only [decide_eq_true_eq] at h) | (simp only [decide_eq_false_iff_not] at h) | (simp only [beq_iff_eq] at h) | (simp only [beq_eq_false_iff_ne] at h) | (simp only [bne_iff_ne] at h) | (simp only [bne_eq_false_iff_eq] at h) | (simp only [Bool.and_eq_true] at h) | (simp only [Bool.or_eq_true] at h) | (simp only [Bool.and_eq_false_iff] at h) | (simp only [Bool.or_eq_false_iff] at h) | (simp only [Bool.not_eq_true'] at h) | (simp only [Bool.not_eq_false'] at h) | (simp only [Bool.not_eq_eq_eq_not] at h) | (simp only [Bool.not_true] at h) | (simp only [Bool.not_false] at h))) <;> (((first | (refine run Γ hm 400 ?_) | (refine runD Γ hm 400 (by kernel_rfl) ?_)); (conv => whnf)); repeat (first | (refine ⟨fun (h : false = true) => (Bool.false_ne_true h).elim, fun _ => ?_⟩; ((first | (refine run Γ hm 400 ?_) | (refine runD Γ hm 400 (by kernel_rfl) ?_)); (conv => whnf))) | (refine ⟨fun _ => ?_, fun (h : true = false) => (Bool.false_ne_true h.symm).elim⟩; ((first | (refine run Γ hm 400 ?_) | (refine runD Γ hm 400 (by kernel_rfl) ?_)); (conv => whnf)))))) | (refine done0 rfl (.cons .tmp .nil) ?_ rfl) | (refine ⟨(by kernel_rfl), ?_⟩; ((conv => whnf); repeat (first | (refine ⟨fun (h : false = true) => (Bool.false_ne_true h).elim, fun _ => ?_⟩; ((first | (refine run Γ hm 400 ?_) | (refine runD Γ hm 400 (by kernel_rfl) ?_)); (conv => whnf))) | (refine ⟨fun _ => ?_, fun (h : true = false) => (Bool.false_ne_true h.symm).elim⟩; ((first | (refine run Γ hm 400 ?_) | (refine runD Γ hm 400 (by kernel_rfl) ?_)); (conv => whnf)))))) | (refine ⟨by (first | (unfold I64; omega) | omega | (simp only [Int.toNat_natCast]; omega) | done), by (first | (unfold I64; omega) | omega | (simp only [Int.toNat_natCast]; omega) | done), ?_⟩; ((conv => whnf); repeat (first | (refine ⟨fun (h : false = true) => (Bool.false_ne_true h).elim, fun _ => ?_⟩; ((first | (refine run Γ hm 400 ?_) | (refine runD Γ hm 400 (by kernel_rfl) ?_)); (conv => whnf))) | (refine ⟨fun _ => ?_, fun (h : true = false) => (Bool.false_ne_true h.symm).elim⟩; ((first | (refine run Γ hm 400 ?_) | (refine runD Γ hm 400 (by kernel_rfl) ?_)); (conv => whnf)))))) | (refine ⟨by (first | (unfold I64; omega) | omega | (simp only [Int.toNat_natCast]; omega) | done), ?_⟩; ((conv => whnf); repeat (first | (refine ⟨fun (h : false = true) => (Bool.false_ne_true h).elim, fun _ => ?_⟩; ((first | (refine run Γ hm 400 ?_) | (refine runD Γ hm 400 (by kernel_rfl) ?_)); (conv => whnf))) | (refine ⟨fun _ => ?_, fun (h : true = false) => (Bool.false_ne_true h.symm).elim⟩; ((first | (refine run Γ hm 400 ?_) | (refine runD Γ hm 400 (by kernel_rfl) ?_)); (conv => whnf))))))))
  all_goals (refine congrArg boolSV ?_)
  all_goals grind [placeB]

theorem placeS_Link {α : Type} (sz : Nat) (e : α → SV) (l : List α) (i : Int) : Sy.Spec Try.prog 59 [.sl sz e l, intSV i] [] (boolSV (placeB i l.length)) [] := contract Γ hm 100 F59 Try.ntmps59 rfl fun F hF => by
  ((conv => whnf); repeat (first | (refine ⟨fun (h : false = true) => (Bool.false_ne_true h).elim, fun _ => ?_⟩; ((first | (refine run Γ hm 400 ?_) | (refine runD Γ hm 400 (by kernel_rfl) ?_)); (conv => whnf))) | (refine ⟨fun _ => ?_, fun (h : true = false) => (Bool.false_ne_true h.symm).elim⟩; ((first | (refine run Γ hm 400 ?_) | (refine runD Γ hm 400 (by kernel_rfl) ?_)); (conv => whnf)))))
  (repeat' (first | (refine ⟨fun h => ?_, fun h => ?_⟩ <;> (repeat (first | (simp only [placeB] at h) | (simp only [decide_eq_true_eq] at h) | (simp only [decide_eq_false_iff_not] at h) | (simp only [beq_iff_eq] at h) | (simp only [beq_eq_false_iff_ne] at h) | (simp only [bne_iff_ne] at h) | (simp only [bne_eq_false_iff_eq] at h) | (simp only [Bool.and_eq_true] at h) | (simp only [Bool.or_eq_true] at h) | (simp only [Bool.and_eq_false_iff] at h) | (simp only [Bool.or_eq_false_iff] at h) | (simp only [Bool.not_eq_true'] at h) | (simp only [Bool.not_eq_false'] at h) | (simp only [Bool.not_eq_eq_eq_not] at h) | (simp only [Bool.not_true] at h) | (simp only [Bool.not_false] at h))) <;> (((first | (refine run Γ hm 400 ?_) | (refine runD Γ hm 400 (by kernel_rfl) ?_)); (conv => whnf)); repeat (first | (refine ⟨fun (h : false = true) => (Bool.false_ne_true h).elim, fun _ => ?_⟩; ((first | (refine run Γ hm 400 ?_) | (refine runD Γ hm 400 (by kernel_rfl) ?_)); (conv => whnf))) | (refine ⟨fun _ => ?_, fun (h : true = false) => (Bool.false_ne_true h.symm).elim⟩; ((first | (refine run Γ hm 400 ?_) | (refine runD Γ hm 400 (by kernel_rfl) ?_)); (conv => whnf)))))) | (refine done0 rfl (.cons .tmp .nil) ?_ rfl) | (refine ⟨(by kernel_rfl), ?_⟩; ((conv => whnf); repeat (first | (refine ⟨fun (h : false = true) => (Bool.false_ne_true h).elim, fun _ => ?_⟩; ((first | (refine run Γ hm 400 ?_) | (refine runD Γ hm 400 (by kernel_rfl) ?_)); (conv => whnf))) | (refine ⟨fun _ => ?_, fun (h : true = false) => (Bool.false_ne_true h.symm).elim⟩; ((first | (refine run Γ hm 400 ?_) | (refine runD Γ hm 400 (by kernel_rfl) ?_)); (conv => whnf)))))) | (refine ⟨by (first | (unfold I64; omega) | omega | (simp only [Int.toNat_natCast]; omega) | done), by (first | (unfold I64; omega) | omega | (simp only [Int.toNat_natCast]; omega) | done), ?_⟩; ((conv => whnf); repeat (first | (refine ⟨fun (h : false = true) => (Bool.false_ne_true h).elim, fun _ => ?_⟩; ((first | (refine run Γ hm 400 ?_) | (refine runD Γ hm 400 (by kernel_rfl) ?_)); (conv => whnf))) | (refine ⟨fun _ => ?_, fun (h : true = false) => (Bool.false_ne_true h.symm).elim⟩; ((first | (refine run Γ hm 400 ?_) | (refine runD Γ hm 400 (by kernel_rfl) ?_)); (conv => whnf)))))) | (refine ⟨by (first | (unfold I64; omega) | omega | (simp only [Int.toNat_natCast]; omega) | done), ?_⟩; ((conv => whnf); repeat (first | (refine ⟨fun (h : false = true) => (Bool.false_ne_true h).elim, fun _ => ?_⟩; ((first | (refine run Γ hm 400 ?_) | (refine runD Γ hm 400 (by kernel_rfl) ?_)); (conv => whnf))) | (refine ⟨fun _ => ?_, fun (h : true = false) => (Bool.false_ne_true h.symm).elim⟩; ((first | (refine run Γ hm 400 ?_) | (refine runD Γ hm 400 (by kernel_rfl) ?_)); (conv => whnf))))))))
  all_goals (refine congrArg boolSV ?_)
  all_goals grind [placeB]

theorem placeS_Port {α : Type} (sz : Nat) (e : α → SV) (l : List α) (i : Int) : Sy.Spec Try.prog 60 [.sl sz e l, intSV i] [] (boolSV (placeB i l.length)) [] := contract Γ hm 100 F60 Try.ntmps60 rfl fun F hF => by
  ((conv => whnf); repeat (first | (refine ⟨fun (h : false = true) => (Bool.false_ne_true h).elim, fun _ => ?_⟩; ((first | (refine run Γ hm 400 ?_) | (refine runD Γ hm 400 (by kernel_rfl) ?_)); (conv => whnf))) | (refine ⟨fun _ => ?_, fun (h : true = false) => (Bool.false_ne_true h.symm).elim⟩; ((first | (refine run Γ hm 400 ?_) | (refine runD Γ hm 400 (by kernel_rfl) ?_)); (conv => whnf)))))
  (repeat' (first | (refine ⟨fun h => ?_, fun h => ?_⟩ <;> (repeat (first | (simp only [placeB] at h) | (simp only [decide_eq_true_eq] at h) | (simp only [decide_eq_false_iff_not] at h) | (simp only [beq_iff_eq] at h) | (simp only [beq_eq_false_iff_ne] at h) | (simp only [bne_iff_ne] at h) | (simp only [bne_eq_false_iff_eq] at h) | (simp only [Bool.and_eq_true] at h) | (simp only [Bool.or_eq_true] at h) | (simp only [Bool.and_eq_false_iff] at h) | (simp only [Bool.or_eq_false_iff] at h) | (simp only [Bool.not_eq_true'] at h) | (simp only [Bool.not_eq_false'] at h) | (simp only [Bool.not_eq_eq_eq_not] at h) | (simp only [Bool.not_true] at h) | (simp only [Bool.not_false] at h))) <;> (((first | (refine run Γ hm 400 ?_) | (refine runD Γ hm 400 (by kernel_rfl) ?_)); (conv => whnf)); repeat (first | (refine ⟨fun (h : false = true) => (Bool.false_ne_true h).elim, fun _ => ?_⟩; ((first | (refine run Γ hm 400 ?_) | (refine runD Γ hm 400 (by kernel_rfl) ?_)); (conv => whnf))) | (refine ⟨fun _ => ?_, fun (h : true = false) => (Bool.false_ne_true h.symm).elim⟩; ((first | (refine run Γ hm 400 ?_) | (refine runD Γ hm 400 (by kernel_rfl) ?_)); (conv => whnf)))))) | (refine done0 rfl (.cons .tmp .nil) ?_ rfl) | (refine ⟨(by kernel_rfl), ?_⟩; ((conv => whnf); repeat (first | (refine ⟨fun (h : false = true) => (Bool.false_ne_true h).elim, fun _ => ?_⟩; ((first | (refine run Γ hm 400 ?_) | (refine runD Γ hm 400 (by kernel_rfl) ?_)); (conv => whnf))) | (refine ⟨fun _ => ?_, fun (h : true = false) => (Bool.false_ne_true h.symm).elim⟩; ((first | (refine run Γ hm 400 ?_) | (refine runD Γ hm 400 (by kernel_rfl) ?_)); (conv => whnf)))))) | (refine ⟨by (first | (unfold I64; omega) | omega | (simp only [Int.toNat_natCast]; omega) | done), by (first | (unfold I64; omega) | omega | (simp only [Int.toNat_natCast]; omega) | done), ?_⟩; ((conv => whnf); repeat (first | (refine ⟨fun (h : false = true) => (Bool.false_ne_true h).elim, fun _ => ?_⟩; ((first | (refine run Γ hm 400 ?_) | (refine runD Γ hm 400 (by kernel_rfl) ?_)); (conv => whnf))) | (refine ⟨fun _ => ?_, fun (h : true = false) => (Bool.false_ne_true h.symm).elim⟩; ((first | (refine run Γ hm 400 ?_) | (refine runD Γ hm 400 (by kernel_rfl) ?_)); (conv => whnf)))))) | (refine ⟨by (first | (unfold I64; omega) | omega | (simp only [Int.toNat_natCast]; omega) | done), ?_⟩; ((conv => whnf); repeat (first | (refine ⟨fun (h : false = true) => (Bool.false_ne_true h).elim, fun _ => ?_⟩; ((first | (refine run Γ hm 400 ?_) | (refine runD Γ hm 400 (by kernel_rfl) ?_)); (conv => whnf))) | (refine ⟨fun _ => ?_, fun (h : true = false) => (Bool.false_ne_true h.symm).elim⟩; ((first | (refine run Γ hm 400 ?_) | (refine runD Γ hm 400 (by kernel_rfl) ?_)); (conv => whnf))))))))
  all_goals (refine congrArg boolSV ?_)
  all_goals grind [placeB]

theorem placeS_Domain {α : Type} (sz : Nat) (e : α → SV) (l : List α) (i : Int) : Sy.Spec Try.prog 61 [.sl sz e l, intSV i] [] (boolSV (placeB i l.length)) [] := contract Γ hm 100 F61 Try.ntmps61 rfl fun F hF => by
  ((conv => whnf); repeat (first | (refine ⟨fun (h : false = true) => (Bool.false_ne_true h).elim, fun _ => ?_⟩; ((first | (refine run Γ hm 400 ?_) | (refine runD Γ hm 400 (by kernel_rfl) ?_)); (conv => whnf))) | (refine ⟨fun _ => ?_, fun (h : true = false) => (Bool.false_ne_true h.symm).elim⟩; ((first | (refine run Γ hm 400 ?_) | (refine runD Γ hm 400 (by kernel_rfl) ?_)); (conv => whnf)))))
  (repeat' (first | (refine ⟨fun h => ?_, fun h => ?_⟩ <;> (repeat (first | (simp only [placeB] at h) | (simp only [decide_eq_true_eq] at h) | (simp only [decide_eq_false_iff_not] at h) | (simp only [beq_iff_eq] at h) | (simp only [beq_eq_false_iff_ne] at h) | (simp only [bne_iff_ne] at h) | (simp only [bne_eq_false_iff_eq] at h) | (simp only [Bool.and_eq_true] at h) | (simp only [Bool.or_eq_true] at h) | (simp only [Bool.and_eq_false_iff] at h) | (simp only [Bool.or_eq_false_iff] at h) | (simp only [Bool.not_eq_true'] at h) | (simp only [Bool.not_eq_false'] at h) | (simp only [Bool.not_eq_eq_eq_not] at h) | (simp only [Bool.not_true] at h) | (simp only [Bool.not_false] at h))) <;> (((first | (refine run Γ hm 400 ?_) | (refine runD Γ hm 400 (by kernel_rfl) ?_)); (conv => whnf)); repeat (first | (refine ⟨fun (h : false = true) => (Bool.false_ne_true h).elim, fun _ => ?_⟩; ((first | (refine run Γ hm 400 ?_) | (refine runD Γ hm 400 (by kernel_rfl) ?_)); (conv => whnf))) | (refine ⟨fun _ => ?_, fun (h : true = false) => (Bool.false_ne_true h.symm).elim⟩; ((first | (refine run Γ hm 400 ?_) | (refine runD Γ hm 400 (by kernel_rfl) ?_)); (conv => whnf)))))) | (refine done0 rfl (.cons .tmp .nil) ?_ rfl) | (refine ⟨(by kernel_rfl), ?_⟩; ((conv => whnf); repeat (first | (refine ⟨fun (h : false = true) => (Bool.false_ne_true h).elim, fun _ => ?_⟩; ((first | (refine run Γ hm 400 ?_) | (refine runD Γ hm 400 (by kernel_rfl) ?_)); (conv => whnf))) | (refine ⟨fun _ => ?_, fun (h : true = false) => (Bool.false_ne_true h.symm).elim⟩; ((first | (refine run Γ hm 400 ?_) | (refine runD Γ hm 400 (by kernel_rfl) ?_)); (conv => whnf)))))) | (refine ⟨by (first | (unfold I64; omega) | omega | (simp only [Int.toNat_natCast]; omega) | done), by (first | (unfold I64; omega) | omega | (simp only [Int.toNat_natCast]; omega) | done), ?_⟩; ((conv => whnf); repeat (first | (refine ⟨fun (h : false = true) => (Bool.false_ne_true h).elim, fun _ => ?_⟩; ((first | (refine run Γ hm 400 ?_) | (refine runD Γ hm 400 (by kernel_rfl) ?_)); (conv => whnf))) | (refine ⟨fun _ => ?_, fun (h : true = false) => (Bool.false_ne_true h.symm).elim⟩; ((first | (refine run Γ hm 400 ?_) | (refine runD Γ hm 400 (by kernel_rfl) ?_)); (conv => whnf)))))) | (refine ⟨by (first | (unfold I64; omega) | omega | (simp only [Int.toNat_natCast]; omega) | done), ?_⟩; ((conv => whnf); repeat (first | (refine ⟨fun (h : false = true) => (Bool.false_ne_true h).elim, fun _ => ?_⟩; ((first | (refine run Γ hm 400 ?_) | (refine runD Γ hm 400 (by kernel_rfl) ?_)); (conv => whnf))) | (refine ⟨fun _ => ?_, fun (h : true = false) => (Bool.false_ne_true h.symm).elim⟩; ((first | (refine run Γ hm 400 ?_) | (refine runD Γ hm 400 (by kernel_rfl) ?_)); (conv => whnf))))))))
  all_goals (refine congrArg boolSV ?_)
  all_goals grind [placeB]

theorem placeS_Vrf {α : Type} (sz : Nat) (e : α → SV) (l : List α) (i : Int) : Sy.Spec Try.prog 64 [.sl sz e l, intSV i] [] (boolSV (placeB i l.length)) [] := contract Γ hm 100 F64 Try.ntmps64 rfl fun F hF => by
  ((conv => whnf); repeat (first | (refine ⟨fun (h : false = true) => (Bool.false_ne_true h).elim, fun _ => ?_⟩; ((first | (refine run Γ hm 400 ?_) | (refine runD Γ hm 400 (by kernel_rfl) ?_)); (conv => whnf))) | (refine ⟨fun _ => ?_, fun (h : true = false) => (Bool.false_ne_true h.symm).elim⟩; ((first | (refine run Γ hm 400 ?_) | (refine runD Γ hm 400 (by kernel_rfl) ?_)); (conv => whnf)))))
  (repeat' (first | (refine ⟨fun h => ?_, fun h => ?_⟩ <;> (repeat (first | (simp only [placeB] at h) | (simp only [decide_eq_true_eq] at h) | (simp only [decide_eq_false_iff_not] at h) | (simp only [beq_iff_eq] at h) | (simp only [beq_eq_false_iff_ne] at h) | (simp only [bne_iff_ne] at h) | (simp only [bne_eq_false_iff_eq] at h) | (simp only [Bool.and_eq_true] at h) | (simp only [Bool.or_eq_true] at h) | (simp only [Bool.and_eq_false_iff] at h) | (simp only [Bool.or_eq_false_iff] at h) | (simp only [Bool.not_eq_true'] at h) | (simp only [Bool.not_eq_false'] at h) | (simp only [Bool.not_eq_eq_eq_not] at h) | (simp only [Bool.not_true] at h) | (simp only [Bool.not_false] at h))) <;> (((first | (refine run Γ hm 400 ?_) | (refine runD Γ hm 400 (by kernel_rfl) ?_)); (conv => whnf)); repeat (first | (refine ⟨fun (h : false = true) => (Bool.false_ne_true h).elim, fun _ => ?_⟩; ((first | (refine run Γ hm 400 ?_) | (refine runD Γ hm 400 (by kernel_rfl) ?_)); (conv => whnf))) | (refine ⟨fun _ => ?_, fun (h : true = false) => (Bool.false_ne_true h.symm).elim⟩; ((first | (refine run Γ hm 400 ?_) | (refine runD Γ hm 400 (by kernel_rfl) ?_)); (conv => whnf)))))) | (refine done0 rfl (.cons .tmp .nil) ?_ rfl) | (refine ⟨(by kernel_rfl), ?_⟩; ((conv => whnf); repeat (first | (refine ⟨fun (h : false = true) => (Bool.false_ne_true h).elim, fun _ => ?_⟩; ((first | (refine run Γ hm 400 ?_) | (refine runD Γ hm 400 (by kernel_rfl) ?_)); (conv => whnf))) | (refine ⟨fun _ => ?_, fun (h : true = false) => (Bool.false_ne_true h.symm).elim⟩; ((first | (refine run Γ hm 400 ?_) | (refine runD Γ hm 400 (by kernel_rfl) ?_)); (conv => whnf)))))) | (refine ⟨by (first | (unfold I64; omega) | omega | (simp only [Int.toNat_natCast]; omega) | done), by (first | (unfold I64; omega) | omega | (simp only [Int.toNat_natCast]; omega) | done), ?_⟩; ((conv => whnf); repeat (first | (refine ⟨fun (h : false = true) => (Bool.false_ne_true h).elim, fun _ => ?_⟩; ((first | (refine run Γ hm 400 ?_) | (refine runD Γ hm 400 (by kernel_rfl) ?_)); (conv => whnf))) | (refine ⟨fun _ => ?_, fun (h : true = false) => (Bool.false_ne_true h.symm).elim⟩; ((first | (refine run Γ hm 400 ?_) | (refine runD Γ hm 400 (by kernel_rfl) ?_)); (conv => whnf)))))) | (refine ⟨by (first | (unfold I64; omega) | omega | (simp only [Int.toNat_natCast]; omega) | done), ?_⟩; ((conv => whnf); repeat (first | (refine ⟨fun (h : false = true) => (Bool.false_ne_true h).elim, fun _ => ?_⟩; ((first | (refine run Γ hm 400 ?_) | (refine runD Γ hm 400 (by kernel_rfl) ?_)); (conv => whnf))) | (refine ⟨fun _ => ?_, fun (h : true = false) => (Bool.false_ne_true h.symm).elim⟩; ((first | (refine run Γ hm 400 ?_) | (refine runD Γ hm 400 (by kernel_rfl) ?_)); (conv => whnf))))))))
  all_goals (refine congrArg boolSV ?_)
  all_goals grind [placeB]

theorem indexS (l : List Int) (x : Int) (hl : Short l) : Sy.Spec Try.prog 17 [.sl 1 intSV l, intSV x] [] (intSV (idxI (· == x) l)) [] := contract Γ hm 100 F17 Try.ntmps17 rfl fun F hF => by
  unfold Short at hl
  ((conv => whnf); repeat (first | (refine ⟨fun (h : false = true) => (Bool.false_ne_true h).elim, fun _ => ?_⟩; ((first | (refine run Γ hm 400 ?_) | (refine runD Γ hm 400 (by kernel_rfl) ?_)); (conv => whnf))) | (refine ⟨fun _ => ?_, fun (h : true = false) => (Bool.false_ne_true h.symm).elim⟩; ((first | (refine run Γ hm 400 ?_) | (refine runD Γ hm 400 (by kernel_rfl) ?_)); (conv => whnf)))))
  refine G_countP l.length (fun j => ∀ i (h : i < l.length), i < j → (l[i] == x) = false) (fun j => [(0, .sl 1 intSV l), (1, intSV x), (7, intSV l.length), (8, intSV j)]) (fun _ => []) [] (fun i h hj => absurd hj (by omega)) ⟨⟨rfl, rfl, rfl, rfl, rfl, rfl, rfl, rfl, trivial⟩, trivial, rfl, rfl⟩ ?_
  intro j hj hI
  (((first | (refine run Γ hm 400 ?_) | (refine runD Γ hm 400 (by kernel_rfl) ?_)); (conv => whnf)); repeat (first | (refine ⟨fun (h : false = true) => (Bool.false_ne_true h).elim, fun _ => ?_⟩; ((first | (refine run Γ hm 400 ?_) | (refine runD Γ hm 400 (by kernel_rfl) ?_)); (conv => whnf))) | (refine ⟨fun _ => ?_, fun (h : true = false) => (Bool.false_ne_true h.symm).elim⟩; ((first | (refine run Γ hm 400 ?_) | (refine runD Γ hm 400 (by kernel_rfl) ?_)); (conv => whnf)))))
  (repeat' (first | (refine ⟨fun h => ?_, fun h => ?_⟩ <;> (repeat (first | (simp only [placeB] at h) | (simp only [decide_eq_true_eq] at h) | (simp only [decide_eq_false_iff_not] at h) | (simp only [beq_iff_eq] at h) | (simp only [beq_eq_false_iff_ne] at h) | (simp only [bne_iff_ne] at h) | (simp only [bne_eq_false_iff_eq] at h) | (simp only [Bool.and_eq_true] at h) | (simp only [Bool.or_eq_true] at h) | (simp only [Bool.and_eq_false_iff] at h) | (simp only [Bool.or_eq_false_iff] at h) | (simp only [Bool.not_eq_true'] at h) | (simp only [Bool.not_eq_false'] at h) | (simp only [Bool.not_eq_eq_eq_not] at h) | (simp only [Bool.not_true] at h) | (simp only [Bool.not_false] at h))) <;> (((first | (refine run Γ hm 400 ?_) | (refine runD Γ hm 400 (by kernel_rfl) ?_)); (conv => whnf)); repeat (first | (refine ⟨fun (h : false = true) => (Bool.false_ne_true h).elim, fun _ => ?_⟩; ((first | (refine run Γ hm 400 ?_) | (refine runD Γ hm 400 (by kernel_rfl) ?_)); (conv => whnf))) | (refine ⟨fun _ => ?_, fun (h : true = false) => (Bool.false_ne_true h.symm).elim⟩; ((first | (refine run Γ hm 400 ?_) | (refine runD Γ hm 400 (by kernel_rfl) ?_)); (conv => whnf)))))) | (refine done0 rfl (.cons .tmp .nil) ?_ rfl) | (refine ⟨(by kernel_rfl), ?_⟩; ((conv => whnf); repeat (first | (refine ⟨fun (h : false = true) => (Bool.false_ne_true h).elim, fun _ => ?_⟩; ((first | (refine run Γ hm 400 ?_) | (refine runD Γ hm 400 (by kernel_rfl) ?_)); (conv => whnf))) | (refine ⟨fun _ => ?_, fun (h : true = false) => (Bool.false_ne_true h.symm).elim⟩; ((first | (refine run Γ hm 400 ?_) | (refine runD Γ hm 400 (by kernel_rfl) ?_)); (conv => whnf)))))) | (refine ⟨by (first | (unfold I64; omega) | omega | (simp only [Int.toNat_natCast]; omega) | done), by (first | (unfold I64; omega) | omega | (simp only [Int.toNat_natCast]; omega) | done), ?_⟩; ((conv => whnf); repeat (first | (refine ⟨fun (h : false = true) => (Bool.false_ne_true h).elim, fun _ => ?_⟩; ((first | (refine run Γ hm 400 ?_) | (refine runD Γ hm 400 (by kernel_rfl) ?_)); (conv => whnf))) | (refine ⟨fun _ => ?_, fun (h : true = false) => (Bool.false_ne_true h.symm).elim⟩; ((first | (refine run Γ hm 400 ?_) | (refine runD Γ hm 400 (by kernel_rfl) ?_)); (conv => whnf)))))) | (refine ⟨by (first | (unfold I64; omega) | omega | (simp only [Int.toNat_natCast]; omega) | done), ?_⟩; ((conv => whnf); repeat (first | (refine ⟨fun (h : false = true) => (Bool.false_ne_true h).elim, fun _ => ?_⟩; ((first | (refine run Γ hm 400 ?_) | (refine runD Γ hm 400 (by kernel_rfl) ?_)); (conv => whnf))) | (refine ⟨fun _ => ?_, fun (h : true = false) => (Bool.false_ne_true h.symm).elim⟩; ((first | (refine run Γ hm 400 ?_) | (refine runD Γ hm 400 (by kernel_rfl) ?_)); (conv => whnf)))))) | (refine G_nextP [] hI (by omega) ?_ ⟨⟨rfl, rfl, rfl, rfl, rfl, rfl, rfl, rfl, trivial⟩, trivial, rfl, rfl⟩)))
  all_goals try (refine congrArg intSV ?_)
  · exact idxI_found (by omega) hI (by simpa using h.symm)
  · intro i hi hij
    rcases Nat.lt_or_ge i j with h1 | h1
    · exact hI i hi h1
    · have : i = j := by omega
      subst this
      simpa using Ne.symm h
  · exact idxI_none (fun i hi => hI i hi (by omega))

theorem containsS (l : List Int) (x : Int) (hl : Short l) : Sy.Spec Try.prog 16 [.sl 1 intSV l, intSV x] [] (boolSV (inB l x)) [] := contract Γ hm 100 F16 Try.ntmps16 rfl fun F hF => by
  ((conv => whnf); repeat (first | (refine ⟨fun (h : false = true) => (Bool.false_ne_true h).elim, fun _ => ?_⟩; ((first | (refine run Γ hm 400 ?_) | (refine runD Γ hm 400 (by kernel_rfl) ?_)); (conv => whnf))) | (refine ⟨fun _ => ?_, fun (h : true = false) => (Bool.false_ne_true h.symm).elim⟩; ((first | (refine run Γ hm 400 ?_) | (refine runD Γ hm 400 (by kernel_rfl) ?_)); (conv => whnf)))))
  (repeat' (first | (refine ⟨fun h => ?_, fun h => ?_⟩ <;> (repeat (first | (simp only [placeB] at h) | (simp only [decide_eq_true_eq] at h) | (simp only [decide_eq_false_iff_not] at h) | (simp only [beq_iff_eq] at h) | (simp only [beq_eq_false_iff_ne] at h) | (simp only [bne_iff_ne] at h) | (simp only [bne_eq_false_iff_eq] at h) | (simp only [Bool.and_eq_true] at h) | (simp only [Bool.or_eq_true] at h) | (simp only [Bool.and_eq_false_iff] at h) | (simp only [Bool.or_eq_false_iff] at h) | (simp only [Bool.not_eq_true'] at h) | (simp only [Bool.not_eq_false'] at h) | (simp only [Bool.not_eq_eq_eq_not] at h) | (simp only [Bool.not_true] at h) | (simp only [Bool.not_false] at h))) <;> (((first | (refine run Γ hm 400 ?_) | (refine runD Γ hm 400 (by kernel_rfl) ?_)); (conv => whnf)); repeat (first | (refine ⟨fun (h : false = true) => (Bool.false_ne_true h).elim, fun _ => ?_⟩; ((first | (refine run Γ hm 400 ?_) | (refine runD Γ hm 400 (by kernel_rfl) ?_)); (conv => whnf))) | (refine ⟨fun _ => ?_, fun (h : true = false) => (Bool.false_ne_true h.symm).elim⟩; ((first | (refine run Γ hm 400 ?_) | (refine runD Γ hm 400 (by kernel_rfl) ?_)); (conv => whnf)))))) | (refine done0 rfl (.cons .tmp .nil) ?_ rfl) | (refine ⟨(by kernel_rfl), ?_⟩; ((conv => whnf); repeat (first | (refine ⟨fun (h : false = true) => (Bool.false_ne_true h).elim, fun _ => ?_⟩; ((first | (refine run Γ hm 400 ?_) | (refine runD Γ hm 400 (by kernel_rfl) ?_)); (conv => whnf))) | (refine ⟨fun _ => ?_, fun (h : true = false) => (Bool.false_ne_true h.symm).elim⟩; ((first | (refine run Γ hm 400 ?_) | (refine runD Γ hm 400 (by kernel_rfl) ?_)); (conv => whnf)))))) | (refine ⟨by (first | (unfold I64; omega) | omega | (simp only [Int.toNat_natCast]; omega) | done), by (first | (unfold I64; omega) | omega | (simp only [Int.toNat_natCast]; omega) | done), ?_⟩; ((conv => whnf); repeat (first | (refine ⟨fun (h : false = true) => (Bool.false_ne_true h).elim, fun _ => ?_⟩; ((first | (refine run Γ hm 400 ?_) | (refine runD Γ hm 400 (by kernel_rfl) ?_)); (conv => whnf))) | (refine ⟨fun _ => ?_, fun (h : true = false) => (Bool.false_ne_true h.symm).elim⟩; ((first | (refine run Γ hm 400 ?_) | (refine runD Γ hm 400 (by kernel_rfl) ?_)); (conv => whnf)))))) | (refine ⟨by (first | (unfold I64; omega) | omega | (simp only [Int.toNat_natCast]; omega) | done), ?_⟩; ((conv => whnf); repeat (first | (refine ⟨fun (h : false = true) => (Bool.false_ne_true h).elim, fun _ => ?_⟩; ((first | (refine run Γ hm 400 ?_) | (refine runD Γ hm 400 (by kernel_rfl) ?_)); (conv => whnf))) | (refine ⟨fun _ => ?_, fun (h : true = false) => (Bool.false_ne_true h.symm).elim⟩; ((first | (refine run Γ hm 400 ?_) | (refine runD Γ hm 400 (by kernel_rfl) ?_)); (conv => whnf)))))) | (refine call0 (indexS _ _ hl) F17 rfl rfl rfl rfl rfl ?_; (((first | (refine run Γ hm 400 ?_) | (refine runD Γ hm 400 (by kernel_rfl) ?_)); (conv => whnf)); repeat (first | (refine ⟨fun (h : false = true) => (Bool.false_ne_true h).elim, fun _ => ?_⟩; ((first | (refine run Γ hm 400 ?_) | (refine runD Γ hm 400 (by kernel_rfl) ?_)); (conv => whnf))) | (refine ⟨fun _ => ?_, fun (h : true = false) => (Bool.false_ne_true h.symm).elim⟩; ((first | (refine run Γ hm 400 ?_) | (refine runD Γ hm 400 (by kernel_rfl) ?_)); (conv => whnf)))))) | (refine callD0 (indexS _ _ hl) F17 rfl rfl rfl (by kernel_rfl) rfl ?_; (((first | (refine run Γ hm 400 ?_) | (refine runD Γ hm 400 (by kernel_rfl) ?_)); (conv => whnf)); repeat (first | (refine ⟨fun (h : false = true) => (Bool.false_ne_true h).elim, fun _ => ?_⟩; ((first | (refine run Γ hm 400 ?_) | (refine runD Γ hm 400 (by kernel_rfl) ?_)); (conv => whnf))) | (refine ⟨fun _ => ?_, fun (h : true = false) => (Bool.false_ne_true h.symm).elim⟩; ((first | (refine run Γ hm 400 ?_) | (refine runD Γ hm 400 (by kernel_rfl) ?_)); (conv => whnf))))))))
  exact congrArg boolSV (idxI_any _ _).symm

def memberB (p : Port) (v : Int) : Bool := v != 0 && (v == p.native || inB p.tagged v)

theorem memberS (p : Port) (v : Int) (hl : Short p.tagged) : Sy.Spec Try.prog 62 [portSV p, intSV v] [] (boolSV (memberB p v)) [] := contract Γ hm 100 F62 Try.ntmps62 rfl fun F hF => by
  ((conv => whnf); repeat (first | (refine ⟨fun (h : false = true) => (Bool.false_ne_true h).elim, fun _ => ?_⟩; ((first | (refine run Γ hm 400 ?_) | (refine runD Γ hm 400 (by kernel_rfl) ?_)); (conv => whnf))) | (refine ⟨fun _ => ?_, fun (h : true = false) => (Bool.false_ne_true h.symm).elim⟩; ((first | (refine run Γ hm 400 ?_) | (refine runD Γ hm 400 (by kernel_rfl) ?_)); (conv => whnf)))))
  (repeat' (first | (refine ⟨fun h => ?_, fun h => ?_⟩ <;> (repeat (first | (simp only [placeB] at h) | (simp only [decide_eq_true_eq] at h) | (simp only [decide_eq_false_iff_not] at h) | (simp only [beq_iff_eq] at h) | (simp only [beq_eq_false_iff_ne] at h) | (simp only [bne_iff_ne] at h) | (simp only [bne_eq_false_iff_eq] at h) | (simp only [Bool.and_eq_true] at h) | (simp only [Bool.or_eq_true] at h) | (simp only [Bool.and_eq_false_iff] at h) | (simp only [Bool.or_eq_false_iff] at h) | (simp only [Bool.not_eq_true'] at h) | (simp only [Bool.not_eq_false'] at h) | (simp only [Bool.not_eq_eq_eq_not] at h) | (simp only [Bool.not_true] at h) | (simp only [Bool.not_false] at h))) <;> (((first | (refine run Γ hm 400 ?_) | (refine runD Γ hm 400 (by kernel_rfl) ?_)); (conv => whnf)); repeat (first | (refine ⟨fun (h : false = true) => (Bool.false_ne_true h).elim, fun _ => ?_⟩; ((first | (refine run Γ hm 400 ?_) | (refine runD Γ hm 400 (by kernel_rfl) ?_)); (conv => whnf))) | (refine ⟨fun _ => ?_, fun (h : true = false) => (Bool.false_ne_true h.symm).elim⟩; ((first | (refine run Γ hm 400 ?_) | (refine runD Γ hm 400 (by kernel_rfl) ?_)); (conv => whnf)))))) | (refine done0 rfl (.cons .tmp .nil) ?_ rfl) | (refine ⟨(by kernel_rfl), ?_⟩; ((conv => whnf); repeat (first | (refine ⟨fun (h : false = true) => (Bool.false_ne_true h).elim, fun _ => ?_⟩; ((first | (refine run Γ hm 400 ?_) | (refine runD Γ hm 400 (by kernel_rfl) ?_)); (conv => whnf))) | (refine ⟨fun _ => ?_, fun (h : true = false) => (Bool.false_ne_true h.symm).elim⟩; ((first | (refine run Γ hm 400 ?_) | (refine runD Γ hm 400 (by kernel_rfl) ?_)); (conv => whnf)))))) | (refine ⟨by (first | (unfold I64; omega) | omega | (simp only [Int.toNat_natCast]; omega) | done), by (first | (unfold I64; omega) | omega | (simp only [Int.toNat_natCast]; omega) | done), ?_⟩; ((conv => whnf); repeat (first | (refine ⟨fun (h : false = true) => (Bool.false_ne_true h).elim, fun _ => ?_⟩; ((first | (refine run Γ hm 400 ?_) | (refine runD Γ hm 400 (by kernel_rfl) ?_)); (conv => whnf))) | (refine ⟨fun _ => ?_, fun (h : true = false) => (Bool.false_ne_true h.symm).elim⟩; ((first | (refine run Γ hm 400 ?_) | (refine runD Γ hm 400 (by kernel_rfl) ?_)); (conv => whnf)))))) | (refine ⟨by (first | (unfold I64; omega) | omega | (simp only [Int.toNat_natCast]; omega) | done), ?_⟩; ((conv => whnf); repeat (first | (refine ⟨fun (h : false = true) => (Bool.false_ne_true h).elim, fun _ => ?_⟩; ((first | (refine run Γ hm 400 ?_) | (refine runD Γ hm 400 (by kernel_rfl) ?_)); (conv => whnf))) | (refine ⟨fun _ => ?_, fun (h : true = false) => (Bool.false_ne_true h.symm).elim⟩; ((first | (refine run Γ hm 400 ?_) | (refine runD Γ hm 400 (by kernel_rfl) ?_)); (conv => whnf)))))) | (refine call0 (containsS _ _ hl) F16 rfl rfl rfl rfl rfl ?_; (((first | (refine run Γ hm 400 ?_) | (refine runD Γ hm 400 (by kernel_rfl) ?_)); (conv => whnf)); repeat (first | (refine ⟨fun (h : false = true) => (Bool.false_ne_true h).elim, fun _ => ?_⟩; ((first | (refine run Γ hm 400 ?_) | (refine runD Γ hm 400 (by kernel_rfl) ?_)); (conv => whnf))) | (refine ⟨fun _ => ?_, fun (h : true = false) => (Bool.false_ne_true h.symm).elim⟩; ((first | (refine run Γ hm 400 ?_) | (refine runD Γ hm 400 (by kernel_rfl) ?_)); (conv => whnf)))))) | (refine callD0 (containsS _ _ hl) F16 rfl rfl rfl (by kernel_rfl) rfl ?_; (((first | (refine run Γ hm 400 ?_) | (refine runD Γ hm 400 (by kernel_rfl) ?_)); (conv => whnf)); repeat (first | (refine ⟨fun (h : false = true) => (Bool.false_ne_true h).elim, fun _ => ?_⟩; ((first | (refine run Γ hm 400 ?_) | (refine runD Γ hm 400 (by kernel_rfl) ?_)); (conv => whnf))) | (refine ⟨fun _ => ?_, fun (h : true = false) => (Bool.false_ne_true h.symm).elim⟩; ((first | (refine run Γ hm 400 ?_) | (refine runD Γ hm 400 (by kernel_rfl) ?_)); (conv => whnf))))))))
  all_goals (refine congrArg boolSV ?_)
  all_goals grind [memberB]

/-- num.Rising. -/
def riseP (l : List Int) (least most : Int) (i : Nat) (x : Int) : Bool := decide (least ≤ x) && decide (x ≤ most) && (i == 0 || decide (nth l ((i : Int) - 1) < x))
def risingB (l : List Int) (least most : Int) : Bool := decide (0 < l.length) && decide (l.length ≤ 16) && allB (riseP l least most) l

theorem numRisingS (l : List Int) (least most : Int) (hl : Short l) : Sy.Spec Try.prog 63 [.sl 1 intSV l, intSV least, intSV most] [] (boolSV (risingB l least most)) [] := contract Γ hm 100 F63 Try.ntmps63 rfl fun F hF => by
  unfold Short at hl
  ((conv => whnf); repeat (first | (refine ⟨fun (h : false = true) => (Bool.false_ne_true h).elim, fun _ => ?_⟩; ((first | (refine run Γ hm 400 ?_) | (refine runD Γ hm 400 (by kernel_rfl) ?_)); (conv => whnf))) | (refine ⟨fun _ => ?_, fun (h : true = false) => (Bool.false_ne_true h.symm).elim⟩; ((first | (refine run Γ hm 400 ?_) | (refine runD Γ hm 400 (by kernel_rfl) ?_)); (conv => whnf)))))
  refine G_countP l.length (fun j => Upto (riseP l least most) l j) (fun j => [(0, .sl 1 intSV l), (1, intSV least), (2, intSV most), (9, .sl 1 intSV l), (10, intSV l.length), (11, intSV j)]) (fun _ => []) [] (upto_zero _ _) ⟨⟨rfl, rfl, rfl, rfl, rfl, rfl, rfl, rfl, rfl, rfl, rfl, rfl, trivial⟩, trivial, rfl, rfl⟩ ?_
  intro j hj hI
  (((first | (refine run Γ hm 400 ?_) | (refine runD Γ hm 400 (by kernel_rfl) ?_)); (conv => whnf)); repeat (first | (refine ⟨fun (h : false = true) => (Bool.false_ne_true h).elim, fun _ => ?_⟩; ((first | (refine run Γ hm 400 ?_) | (refine runD Γ hm 400 (by kernel_rfl) ?_)); (conv => whnf))) | (refine ⟨fun _ => ?_, fun (h : true = false) => (Bool.false_ne_true h.symm).elim⟩; ((first | (refine run Γ hm 400 ?_) | (refine runD Γ hm 400 (by kernel_rfl) ?_)); (conv => whnf)))))
  (repeat' (first | (refine ⟨fun h => ?_, fun h => ?_⟩ <;> (repeat (first | (simp only [placeB] at h) | (simp only [decide_eq_true_eq] at h) | (simp only [decide_eq_false_iff_not] at h) | (simp only [beq_iff_eq] at h) | (simp only [beq_eq_false_iff_ne] at h) | (simp only [bne_iff_ne] at h) | (simp only [bne_eq_false_iff_eq] at h) | (simp only [Bool.and_eq_true] at h) | (simp only [Bool.or_eq_true] at h) | (simp only [Bool.and_eq_false_iff] at h) | (simp only [Bool.or_eq_false_iff] at h) | (simp only [Bool.not_eq_true'] at h) | (simp only [Bool.not_eq_false'] at h) | (simp only [Bool.not_eq_eq_eq_not] at h) | (simp only [Bool.not_true] at h) | (simp only [Bool.not_false] at h))) <;> (((first | (refine run Γ hm 400 ?_) | (refine runD Γ hm 400 (by kernel_rfl) ?_)); (conv => whnf)); repeat (first | (refine ⟨fun (h : false = true) => (Bool.false_ne_true h).elim, fun _ => ?_⟩; ((first | (refine run Γ hm 400 ?_) | (refine runD Γ hm 400 (by kernel_rfl) ?_)); (conv => whnf))) | (refine ⟨fun _ => ?_, fun (h : true = false) => (Bool.false_ne_true h.symm).elim⟩; ((first | (refine run Γ hm 400 ?_) | (refine runD Γ hm 400 (by kernel_rfl) ?_)); (conv => whnf)))))) | (refine done0 rfl (.cons .tmp .nil) ?_ rfl) | (refine ⟨(by kernel_rfl), ?_⟩; ((conv => whnf); repeat (first | (refine ⟨fun (h : false = true) => (Bool.false_ne_true h).elim, fun _ => ?_⟩; ((first | (refine run Γ hm 400 ?_) | (refine runD Γ hm 400 (by kernel_rfl) ?_)); (conv => whnf))) | (refine ⟨fun _ => ?_, fun (h : true = false) => (Bool.false_ne_true h.symm).elim⟩; ((first | (refine run Γ hm 400 ?_) | (refine runD Γ hm 400 (by kernel_rfl) ?_)); (conv => whnf)))))) | (refine ⟨by (first | (unfold I64; omega) | omega | (simp only [Int.toNat_natCast]; omega) | done), by (first | (unfold I64; omega) | omega | (simp only [Int.toNat_natCast]; omega) | done), ?_⟩; ((conv => whnf); repeat (first | (refine ⟨fun (h : false = true) => (Bool.false_ne_true h).elim, fun _ => ?_⟩; ((first | (refine run Γ hm 400 ?_) | (refine runD Γ hm 400 (by kernel_rfl) ?_)); (conv => whnf))) | (refine ⟨fun _ => ?_, fun (h : true = false) => (Bool.false_ne_true h.symm).elim⟩; ((first | (refine run Γ hm 400 ?_) | (refine runD Γ hm 400 (by kernel_rfl) ?_)); (conv => whnf)))))) | (refine ⟨by (first | (unfold I64; omega) | omega | (simp only [Int.toNat_natCast]; omega) | done), ?_⟩; ((conv => whnf); repeat (first | (refine ⟨fun (h : false = true) => (Bool.false_ne_true h).elim, fun _ => ?_⟩; ((first | (refine run Γ hm 400 ?_) | (refine runD Γ hm 400 (by kernel_rfl) ?_)); (conv => whnf))) | (refine ⟨fun _ => ?_, fun (h : true = false) => (Bool.false_ne_true h.symm).elim⟩; ((first | (refine run Γ hm 400 ?_) | (refine runD Γ hm 400 (by kernel_rfl) ?_)); (conv => whnf)))))) | (refine G_nextP [] hI (by omega) ?_ ⟨⟨rfl, rfl, rfl, rfl, rfl, rfl, rfl, rfl, rfl, rfl, rfl, rfl, trivial⟩, trivial, rfl, rfl⟩)))
  all_goals try (refine congrArg boolSV ?_)
  all_goals try simp only [Int.toNat_natCast, Int.pred_toNat] at *
  · rw [risingB, allB_false (i := j) (by omega) (by simp [riseP]; omega)]; simp
  · rw [risingB, allB_false (i := j) (by omega) (by simp [riseP]; omega)]; simp
  · rw [risingB, allB_false (i := j) (by omega) (by simp only [riseP, nth_eq (show ((j : Int) - 1).toNat < l.length by omega), Int.pred_toNat, Int.toNat_natCast]; simp; omega)]; simp
  · exact upto_next hI (by omega) (by simp only [riseP, nth_eq (show ((j : Int) - 1).toNat < l.length by omega), Int.pred_toNat, Int.toNat_natCast]; simp; omega)
  · exact upto_next hI (by omega) (by simp [riseP]; omega)
  · rw [risingB, upto_all hI (by omega), Bool.eq_iff_iff]; simp; omega
  · rw [risingB]; simp; omega

theorem risingS (l : List Int) (most : Int) (hl : Short l) : Sy.Spec Try.prog 40 [.sl 1 intSV l, intSV most] [] (boolSV (decide (l.length = 0) || risingB l 1 most)) [] := contract Γ hm 100 F40 Try.ntmps40 rfl fun F hF => by
  ((conv => whnf); repeat (first | (refine ⟨fun (h : false = true) => (Bool.false_ne_true h).elim, fun _ => ?_⟩; ((first | (refine run Γ hm 400 ?_) | (refine runD Γ hm 400 (by kernel_rfl) ?_)); (conv => whnf))) | (refine ⟨fun _ => ?_, fun (h : true = false) => (Bool.false_ne_true h.symm).elim⟩; ((first | (refine run Γ hm 400 ?_) | (refine runD Γ hm 400 (by kernel_rfl) ?_)); (conv => whnf)))))
  (repeat' (first | (refine ⟨fun h => ?_, fun h => ?_⟩ <;> (repeat (first | (simp only [placeB] at h) | (simp only [decide_eq_true_eq] at h) | (simp only [decide_eq_false_iff_not] at h) | (simp only [beq_iff_eq] at h) | (simp only [beq_eq_false_iff_ne] at h) | (simp only [bne_iff_ne] at h) | (simp only [bne_eq_false_iff_eq] at h) | (simp only [Bool.and_eq_true] at h) | (simp only [Bool.or_eq_true] at h) | (simp only [Bool.and_eq_false_iff] at h) | (simp only [Bool.or_eq_false_iff] at h) | (simp only [Bool.not_eq_true'] at h) | (simp only [Bool.not_eq_false'] at h) | (simp only [Bool.not_eq_eq_eq_not] at h) | (simp only [Bool.not_true] at h) | (simp only [Bool.not_false] at h))) <;> (((first | (refine run Γ hm 400 ?_) | (refine runD Γ hm 400 (by kernel_rfl) ?_)); (conv => whnf)); repeat (first | (refine ⟨fun (h : false = true) => (Bool.false_ne_true h).elim, fun _ => ?_⟩; ((first | (refine run Γ hm 400 ?_) | (refine runD Γ hm 400 (by kernel_rfl) ?_)); (conv => whnf))) | (refine ⟨fun _ => ?_, fun (h : true = false) => (Bool.false_ne_true h.symm).elim⟩; ((first | (refine run Γ hm 400 ?_) | (refine runD Γ hm 400 (by kernel_rfl) ?_)); (conv => whnf)))))) | (refine done0 rfl (.cons .tmp .nil) ?_ rfl) | (refine ⟨(by kernel_rfl), ?_⟩; ((conv => whnf); repeat (first | (refine ⟨fun (h : false = true) => (Bool.false_ne_true h).elim, fun _ => ?_⟩; ((first | (refine run Γ hm 400 ?_) | (refine runD Γ hm 400 (by kernel_rfl) ?_)); (conv => whnf))) | (refine ⟨fun _ => ?_, fun (h : true = false) => (Bool.false_ne_true h.symm).elim⟩; ((first | (refine run Γ hm 400 ?_) | (refine runD Γ hm 400 (by kernel_rfl) ?_)); (conv => whnf)))))) | (refine ⟨by (first | (unfold I64; omega) | omega | (simp only [Int.toNat_natCast]; omega) | done), by (first | (unfold I64; omega) | omega | (simp only [Int.toNat_natCast]; omega) | done), ?_⟩; ((conv => whnf); repeat (first | (refine ⟨fun (h : false = true) => (Bool.false_ne_true h).elim, fun _ => ?_⟩; ((first | (refine run Γ hm 400 ?_) | (refine runD Γ hm 400 (by kernel_rfl) ?_)); (conv => whnf))) | (refine ⟨fun _ => ?_, fun (h : true = false) => (Bool.false_ne_true h.symm).elim⟩; ((first | (refine run Γ hm 400 ?_) | (refine runD Γ hm 400 (by kernel_rfl) ?_)); (conv => whnf)))))) | (refine ⟨by (first | (unfold I64; omega) | omega | (simp only [Int.toNat_natCast]; omega) | done), ?_⟩; ((conv => whnf); repeat (first | (refine ⟨fun (h : false = true) => (Bool.false_ne_true h).elim, fun _ => ?_⟩; ((first | (refine run Γ hm 400 ?_) | (refine runD Γ hm 400 (by kernel_rfl) ?_)); (conv => whnf))) | (refine ⟨fun _ => ?_, fun (h : true = false) => (Bool.false_ne_true h.symm).elim⟩; ((first | (refine run Γ hm 400 ?_) | (refine runD Γ hm 400 (by kernel_rfl) ?_)); (conv => whnf)))))) | (refine call0 (numRisingS l 1 most hl) F63 rfl rfl rfl rfl rfl ?_; (((first | (refine run Γ hm 400 ?_) | (refine runD Γ hm 400 (by kernel_rfl) ?_)); (conv => whnf)); repeat (first | (refine ⟨fun (h : false = true) => (Bool.false_ne_true h).elim, fun _ => ?_⟩; ((first | (refine run Γ hm 400 ?_) | (refine runD Γ hm 400 (by kernel_rfl) ?_)); (conv => whnf))) | (refine ⟨fun _ => ?_, fun (h : true = false) => (Bool.false_ne_true h.symm).elim⟩; ((first | (refine run Γ hm 400 ?_) | (refine runD Γ hm 400 (by kernel_rfl) ?_)); (conv => whnf)))))) | (refine callD0 (numRisingS l 1 most hl) F63 rfl rfl rfl (by kernel_rfl) rfl ?_; (((first | (refine run Γ hm 400 ?_) | (refine runD Γ hm 400 (by kernel_rfl) ?_)); (conv => whnf)); repeat (first | (refine ⟨fun (h : false = true) => (Bool.false_ne_true h).elim, fun _ => ?_⟩; ((first | (refine run Γ hm 400 ?_) | (refine runD Γ hm 400 (by kernel_rfl) ?_)); (conv => whnf))) | (refine ⟨fun _ => ?_, fun (h : true = false) => (Bool.false_ne_true h.symm).elim⟩; ((first | (refine run Γ hm 400 ?_) | (refine runD Γ hm 400 (by kernel_rfl) ?_)); (conv => whnf))))))))
  all_goals (refine congrArg boolSV ?_)
  all_goals grind

end Go.Sy.Ytgfgbdbklikckaa

namespace Go.Sy.Ytgfgbdbklikckaa
open Go.Proofs
-- SIMP: placeB

attribute [local irreducible] Go.Sy.G Go.Sy.DR
set_option maxRecDepth 20000
set_option maxHeartbeats 4000000

theorem innL_append {K : List Nat} : ∀ (a b : List SV), innL K (a ++ b) = (innL K a && innL K b)
  | [], b => by simp [innL]
  | x :: a, b => by simp [innL, innL_append a b, Bool.and_assoc]

theorem clo_inn {f : FuncId} {first cap xs : List SV} (hc : (SV.clo (.func f) first cap).inn [] = true) (hx : innL [] xs = true) : innL [] (first ++ xs ++ cap) = true := by
  simp only [SV.inn, Bool.and_eq_true] at hc
  rw [innL_append, innL_append, hc.1, hc.2, hx]
  rfl

theorem indexFuncS_Domain (l : List Domain) (p : Domain → Bool) (f : FuncId) (first cap : List SV) (hc : (SV.clo (.func f) first cap).inn [] = true) (hf : ∀ x ∈ l, FunS Try.prog f (first ++ [domainSV x] ++ cap) (boolSV (p x))) (hl : Short l) :
    Sy.Spec Try.prog 72 [.sl 6 domainSV l, .clo (.func f) first cap] [] (intSV (idxI p l)) [] := contract Γ hm 100 F72 Try.ntmps72 rfl fun F hF => by
  unfold Short at hl
  have hin : ∀ x : Domain, innL [] (first ++ [domainSV x] ++ cap) = true := fun x => clo_inn hc rfl
  ((conv => whnf); repeat (first | (refine ⟨fun (h : false = true) => (Bool.false_ne_true h).elim, fun _ => ?_⟩; ((first | (refine run Γ hm 400 ?_) | (refine runD Γ hm 400 (by kernel_rfl) ?_)); (conv => whnf))) | (refine ⟨fun _ => ?_, fun (h : true = false) => (Bool.false_ne_true h.symm).elim⟩; ((first | (refine run Γ hm 400 ?_) | (refine runD Γ hm 400 (by kernel_rfl) ?_)); (conv => whnf)))))
  refine G_countP l.length (fun j => Upto (fun _ x => !(p x)) l j) (fun j => [(0, .sl 6 domainSV l), (1, .clo (.func f) first cap), (7, intSV l.length), (8, intSV j)]) (fun _ => []) [] (upto_zero _ _) ⟨⟨rfl, rfl, ren_id _, hc, rfl, rfl, rfl, rfl, trivial⟩, trivial, rfl, rfl⟩ ?_
  intro j hj hI
  (((first | (refine run Γ hm 400 ?_) | (refine runD Γ hm 400 (by kernel_rfl) ?_)); (conv => whnf)); repeat (first | (refine ⟨fun (h : false = true) => (Bool.false_ne_true h).elim, fun _ => ?_⟩; ((first | (refine run Γ hm 400 ?_) | (refine runD Γ hm 400 (by kernel_rfl) ?_)); (conv => whnf))) | (refine ⟨fun _ => ?_, fun (h : true = false) => (Bool.false_ne_true h.symm).elim⟩; ((first | (refine run Γ hm 400 ?_) | (refine runD Γ hm 400 (by kernel_rfl) ?_)); (conv => whnf)))))
  refine ⟨fun h => ?_, fun h => ?_⟩
  · have h := of_decide_eq_true h
    have hj2 : j < l.length := by omega
    (((first | (refine run Γ hm 400 ?_) | (refine runD Γ hm 400 (by kernel_rfl) ?_)); (conv => whnf)); repeat (first | (refine ⟨fun (h : false = true) => (Bool.false_ne_true h).elim, fun _ => ?_⟩; ((first | (refine run Γ hm 400 ?_) | (refine runD Γ hm 400 (by kernel_rfl) ?_)); (conv => whnf))) | (refine ⟨fun _ => ?_, fun (h : true = false) => (Bool.false_ne_true h.symm).elim⟩; ((first | (refine run Γ hm 400 ?_) | (refine runD Γ hm 400 (by kernel_rfl) ?_)); (conv => whnf)))))
    refine ⟨rfl, by omega, by omega, ?_⟩
    ((conv => whnf); repeat (first | (refine ⟨fun (h : false = true) => (Bool.false_ne_true h).elim, fun _ => ?_⟩; ((first | (refine run Γ hm 400 ?_) | (refine runD Γ hm 400 (by kernel_rfl) ?_)); (conv => whnf))) | (refine ⟨fun _ => ?_, fun (h : true = false) => (Bool.false_ne_true h.symm).elim⟩; ((first | (refine run Γ hm 400 ?_) | (refine runD Γ hm 400 (by kernel_rfl) ?_)); (conv => whnf)))))
    refine callC (hf l[j] (List.getElem_mem hj2)) rfl rfl rfl (by simp only [hin]; rfl) rfl rfl ?_
    (((first | (refine run Γ hm 400 ?_) | (refine runD Γ hm 400 (by kernel_rfl) ?_)); (conv => whnf)); repeat (first | (refine ⟨fun (h : false = true) => (Bool.false_ne_true h).elim, fun _ => ?_⟩; ((first | (refine run Γ hm 400 ?_) | (refine runD Γ hm 400 (by kernel_rfl) ?_)); (conv => whnf))) | (refine ⟨fun _ => ?_, fun (h : true = false) => (Bool.false_ne_true h.symm).elim⟩; ((first | (refine run Γ hm 400 ?_) | (refine runD Γ hm 400 (by kernel_rfl) ?_)); (conv => whnf)))))
    refine ⟨fun h2 => ?_, fun h2 => ?_⟩
    · (((first | (refine run Γ hm 400 ?_) | (refine runD Γ hm 400 (by kernel_rfl) ?_)); (conv => whnf)); repeat (first | (refine ⟨fun (h : false = true) => (Bool.false_ne_true h).elim, fun _ => ?_⟩; ((first | (refine run Γ hm 400 ?_) | (refine runD Γ hm 400 (by kernel_rfl) ?_)); (conv => whnf))) | (refine ⟨fun _ => ?_, fun (h : true = false) => (Bool.false_ne_true h.symm).elim⟩; ((first | (refine run Γ hm 400 ?_) | (refine runD Γ hm 400 (by kernel_rfl) ?_)); (conv => whnf)))))
      refine done0 rfl (.cons .tmp .nil) (congrArg intSV ?_) rfl
      exact idxI_found hj2 (fun i hi hij => by simpa using hI i hi hij) h2
    · (((first | (refine run Γ hm 400 ?_) | (refine runD Γ hm 400 (by kernel_rfl) ?_)); (conv => whnf)); repeat (first | (refine ⟨fun (h : false = true) => (Bool.false_ne_true h).elim, fun _ => ?_⟩; ((first | (refine run Γ hm 400 ?_) | (refine runD Γ hm 400 (by kernel_rfl) ?_)); (conv => whnf))) | (refine ⟨fun _ => ?_, fun (h : true = false) => (Bool.false_ne_true h.symm).elim⟩; ((first | (refine run Γ hm 400 ?_) | (refine runD Γ hm 400 (by kernel_rfl) ?_)); (conv => whnf)))))
      refine ⟨by unfold I64; omega, ?_⟩
      ((conv => whnf); repeat (first | (refine ⟨fun (h : false = true) => (Bool.false_ne_true h).elim, fun _ => ?_⟩; ((first | (refine run Γ hm 400 ?_) | (refine runD Γ hm 400 (by kernel_rfl) ?_)); (conv => whnf))) | (refine ⟨fun _ => ?_, fun (h : true = false) => (Bool.false_ne_true h.symm).elim⟩; ((first | (refine run Γ hm 400 ?_) | (refine runD Γ hm 400 (by kernel_rfl) ?_)); (conv => whnf)))))
      exact G_nextP [] hI hj2 (upto_next hI hj2 (by simp [h2])) ⟨⟨rfl, rfl, ren_id _, hc, rfl, rfl, rfl, rfl, trivial⟩, trivial, rfl, rfl⟩
  · have h := of_decide_eq_false h
    (((first | (refine run Γ hm 400 ?_) | (refine runD Γ hm 400 (by kernel_rfl) ?_)); (conv => whnf)); repeat (first | (refine ⟨fun (h : false = true) => (Bool.false_ne_true h).elim, fun _ => ?_⟩; ((first | (refine run Γ hm 400 ?_) | (refine runD Γ hm 400 (by kernel_rfl) ?_)); (conv => whnf))) | (refine ⟨fun _ => ?_, fun (h : true = false) => (Bool.false_ne_true h.symm).elim⟩; ((first | (refine run Γ hm 400 ?_) | (refine runD Γ hm 400 (by kernel_rfl) ?_)); (conv => whnf)))))
    refine done0 rfl (.cons .tmp .nil) (congrArg intSV ?_) rfl
    exact idxI_none (fun i hi => by simpa using hI i hi (by omega))

theorem indexFuncS_Port (l : List Port) (p : Port → Bool) (f : FuncId) (first cap : List SV) (hc : (SV.clo (.func f) first cap).inn [] = true) (hf : ∀ x ∈ l, FunS Try.prog f (first ++ [portSV x] ++ cap) (boolSV (p x))) (hl : Short l) :
    Sy.Spec Try.prog 65 [.sl 7 portSV l, .clo (.func f) first cap] [] (intSV (idxI p l)) [] := contract Γ hm 100 F65 Try.ntmps65 rfl fun F hF => by
  unfold Short at hl
  have hin : ∀ x : Port, innL [] (first ++ [portSV x] ++ cap) = true := fun x => clo_inn hc rfl
  ((conv => whnf); repeat (first | (refine ⟨fun (h : false = true) => (Bool.false_ne_true h).elim, fun _ => ?_⟩; ((first | (refine run Γ hm 400 ?_) | (refine runD Γ hm 400 (by kernel_rfl) ?_)); (conv => whnf))) | (refine ⟨fun _ => ?_, fun (h : true = false) => (Bool.false_ne_true h.symm).elim⟩; ((first | (refine run Γ hm 400 ?_) | (refine runD Γ hm 400 (by kernel_rfl) ?_)); (conv => whnf)))))
  refine G_countP l.length (fun j => Upto (fun _ x => !(p x)) l j) (fun j => [(0, .sl 7 portSV l), (1, .clo (.func f) first cap), (7, intSV l.length), (8, intSV j)]) (fun _ => []) [] (upto_zero _ _) ⟨⟨rfl, rfl, ren_id _, hc, rfl, rfl, rfl, rfl, trivial⟩, trivial, rfl, rfl⟩ ?_
  intro j hj hI
  (((first | (refine run Γ hm 400 ?_) | (refine runD Γ hm 400 (by kernel_rfl) ?_)); (conv => whnf)); repeat (first | (refine ⟨fun (h : false = true) => (Bool.false_ne_true h).elim, fun _ => ?_⟩; ((first | (refine run Γ hm 400 ?_) | (refine runD Γ hm 400 (by kernel_rfl) ?_)); (conv => whnf))) | (refine ⟨fun _ => ?_, fun (h : true = false) => (Bool.false_ne_true h.symm).elim⟩; ((first | (refine run Γ hm 400 ?_) | (refine runD Γ hm 400 (by kernel_rfl) ?_)); (conv => whnf)))))
  refine ⟨fun h => ?_, fun h => ?_⟩
  · have h := of_decide_eq_true h
    have hj2 : j < l.length := by omega
    (((first | (refine run Γ hm 400 ?_) | (refine runD Γ hm 400 (by kernel_rfl) ?_)); (conv => whnf)); repeat (first | (refine ⟨fun (h : false = true) => (Bool.false_ne_true h).elim, fun _ => ?_⟩; ((first | (refine run Γ hm 400 ?_) | (refine runD Γ hm 400 (by kernel_rfl) ?_)); (conv => whnf))) | (refine ⟨fun _ => ?_, fun (h : true = false) => (Bool.false_ne_true h.symm).elim⟩; ((first | (refine run Γ hm 400 ?_) | (refine runD Γ hm 400 (by kernel_rfl) ?_)); (conv => whnf)))))
    refine ⟨rfl, by omega, by omega, ?_⟩
    ((conv => whnf); repeat (first | (refine ⟨fun (h : false = true) => (Bool.false_ne_true h).elim, fun _ => ?_⟩; ((first | (refine run Γ hm 400 ?_) | (refine runD Γ hm 400 (by kernel_rfl) ?_)); (conv => whnf))) | (refine ⟨fun _ => ?_, fun (h : true = false) => (Bool.false_ne_true h.symm).elim⟩; ((first | (refine run Γ hm 400 ?_) | (refine runD Γ hm 400 (by kernel_rfl) ?_)); (conv => whnf)))))
    refine callC (hf l[j] (List.getElem_mem hj2)) rfl rfl rfl (by simp only [hin]; rfl) rfl rfl ?_
    (((first | (refine run Γ hm 400 ?_) | (refine runD Γ hm 400 (by kernel_rfl) ?_)); (conv => whnf)); repeat (first | (refine ⟨fun (h : false = true) => (Bool.false_ne_true h).elim, fun _ => ?_⟩; ((first | (refine run Γ hm 400 ?_) | (refine runD Γ hm 400 (by kernel_rfl) ?_)); (conv => whnf))) | (refine ⟨fun _ => ?_, fun (h : true = false) => (Bool.false_ne_true h.symm).elim⟩; ((first | (refine run Γ hm 400 ?_) | (refine runD Γ hm 400 (by kernel_rfl) ?_)); (conv => whnf)))))
    refine ⟨fun h2 => ?_, fun h2 => ?_⟩
    · (((first | (refine run Γ hm 400 ?_) | (refine runD Γ hm 400 (by kernel_rfl) ?_)); (conv => whnf)); repeat (first | (refine ⟨fun (h : false = true) => (Bool.false_ne_true h).elim, fun _ => ?_⟩; ((first | (refine run Γ hm 400 ?_) | (refine runD Γ hm 400 (by kernel_rfl) ?_)); (conv => whnf))) | (refine ⟨fun _ => ?_, fun (h : true = false) => (Bool.false_ne_true h.symm).elim⟩; ((first | (refine run Γ hm 400 ?_) | (refine runD Γ hm 400 (by kernel_rfl) ?_)); (conv => whnf)))))
      refine done0 rfl (.cons .tmp .nil) (congrArg intSV ?_) rfl
      exact idxI_found hj2 (fun i hi hij => by simpa using hI i hi hij) h2
    · (((first | (refine run Γ hm 400 ?_) | (refine runD Γ hm 400 (by kernel_rfl) ?_)); (conv => whnf)); repeat (first | (refine ⟨fun (h : false = true) => (Bool.false_ne_true h).elim, fun _ => ?_⟩; ((first | (refine run Γ hm 400 ?_) | (refine runD Γ hm 400 (by kernel_rfl) ?_)); (conv => whnf))) | (refine ⟨fun _ => ?_, fun (h : true = false) => (Bool.false_ne_true h.symm).elim⟩; ((first | (refine run Γ hm 400 ?_) | (refine runD Γ hm 400 (by kernel_rfl) ?_)); (conv => whnf)))))
      refine ⟨by unfold I64; omega, ?_⟩
      ((conv => whnf); repeat (first | (refine ⟨fun (h : false = true) => (Bool.false_ne_true h).elim, fun _ => ?_⟩; ((first | (refine run Γ hm 400 ?_) | (refine runD Γ hm 400 (by kernel_rfl) ?_)); (conv => whnf))) | (refine ⟨fun _ => ?_, fun (h : true = false) => (Bool.false_ne_true h.symm).elim⟩; ((first | (refine run Γ hm 400 ?_) | (refine runD Γ hm 400 (by kernel_rfl) ?_)); (conv => whnf)))))
      exact G_nextP [] hI hj2 (upto_next hI hj2 (by simp [h2])) ⟨⟨rfl, rfl, ren_id _, hc, rfl, rfl, rfl, rfl, trivial⟩, trivial, rfl, rfl⟩
  · have h := of_decide_eq_false h
    (((first | (refine run Γ hm 400 ?_) | (refine runD Γ hm 400 (by kernel_rfl) ?_)); (conv => whnf)); repeat (first | (refine ⟨fun (h : false = true) => (Bool.false_ne_true h).elim, fun _ => ?_⟩; ((first | (refine run Γ hm 400 ?_) | (refine runD Γ hm 400 (by kernel_rfl) ?_)); (conv => whnf))) | (refine ⟨fun _ => ?_, fun (h : true = false) => (Bool.false_ne_true h.symm).elim⟩; ((first | (refine run Γ hm 400 ?_) | (refine runD Γ hm 400 (by kernel_rfl) ?_)); (conv => whnf)))))
    refine done0 rfl (.cons .tmp .nil) (congrArg intSV ?_) rfl
    exact idxI_none (fun i hi => by simpa using hI i hi (by omega))

theorem allS_Port (l : List Port) (p : Nat → Port → Bool) (f : FuncId) (first cap : List SV) (hc : (SV.clo (.func f) first cap).inn [] = true) (hf : ∀ i (h : i < l.length), FunS Try.prog f (first ++ [intSV i, portSV l[i]] ++ cap) (boolSV (p i l[i]))) (hl : Short l) :
    Sy.Spec Try.prog 29 [.sl 7 portSV l, .clo (.func f) first cap] [] (boolSV (allB p l)) [] := contract Γ hm 100 F29 Try.ntmps29 rfl fun F hF => by
  unfold Short at hl
  have hin : ∀ (i : Nat) (x : Port), innL [] (first ++ [intSV i, portSV x] ++ cap) = true := fun i x => clo_inn hc rfl
  ((conv => whnf); repeat (first | (refine ⟨fun (h : false = true) => (Bool.false_ne_true h).elim, fun _ => ?_⟩; ((first | (refine run Γ hm 400 ?_) | (refine runD Γ hm 400 (by kernel_rfl) ?_)); (conv => whnf))) | (refine ⟨fun _ => ?_, fun (h : true = false) => (Bool.false_ne_true h.symm).elim⟩; ((first | (refine run Γ hm 400 ?_) | (refine runD Γ hm 400 (by kernel_rfl) ?_)); (conv => whnf)))))
  refine G_countP l.length (fun j => Upto p l j) (fun j => [(0, .sl 7 portSV l), (1, .clo (.func f) first cap), (7, .sl 7 portSV l), (8, intSV l.length), (9, intSV j)]) (fun _ => []) [] (upto_zero _ _) ⟨⟨rfl, rfl, ren_id _, hc, rfl, rfl, rfl, rfl, rfl, rfl, trivial⟩, trivial, rfl, rfl⟩ ?_
  intro j hj hI
  (((first | (refine run Γ hm 400 ?_) | (refine runD Γ hm 400 (by kernel_rfl) ?_)); (conv => whnf)); repeat (first | (refine ⟨fun (h : false = true) => (Bool.false_ne_true h).elim, fun _ => ?_⟩; ((first | (refine run Γ hm 400 ?_) | (refine runD Γ hm 400 (by kernel_rfl) ?_)); (conv => whnf))) | (refine ⟨fun _ => ?_, fun (h : true = false) => (Bool.false_ne_true h.symm).elim⟩; ((first | (refine run Γ hm 400 ?_) | (refine runD Γ hm 400 (by kernel_rfl) ?_)); (conv => whnf)))))
  refine ⟨fun h => ?_, fun h => ?_⟩
  · have h := of_decide_eq_true h
    have hj2 : j < l.length := by omega
    (((first | (refine run Γ hm 400 ?_) | (refine runD Γ hm 400 (by kernel_rfl) ?_)); (conv => whnf)); repeat (first | (refine ⟨fun (h : false = true) => (Bool.false_ne_true h).elim, fun _ => ?_⟩; ((first | (refine run Γ hm 400 ?_) | (refine runD Γ hm 400 (by kernel_rfl) ?_)); (conv => whnf))) | (refine ⟨fun _ => ?_, fun (h : true = false) => (Bool.false_ne_true h.symm).elim⟩; ((first | (refine run Γ hm 400 ?_) | (refine runD Γ hm 400 (by kernel_rfl) ?_)); (conv => whnf)))))
    refine ⟨rfl, by omega, by omega, ?_⟩
    ((conv => whnf); repeat (first | (refine ⟨fun (h : false = true) => (Bool.false_ne_true h).elim, fun _ => ?_⟩; ((first | (refine run Γ hm 400 ?_) | (refine runD Γ hm 400 (by kernel_rfl) ?_)); (conv => whnf))) | (refine ⟨fun _ => ?_, fun (h : true = false) => (Bool.false_ne_true h.symm).elim⟩; ((first | (refine run Γ hm 400 ?_) | (refine runD Γ hm 400 (by kernel_rfl) ?_)); (conv => whnf)))))
    refine callC (hf j hj2) rfl rfl rfl (by simp only [hin]; rfl) rfl rfl ?_
    (((first | (refine run Γ hm 400 ?_) | (refine runD Γ hm 400 (by kernel_rfl) ?_)); (conv => whnf)); repeat (first | (refine ⟨fun (h : false = true) => (Bool.false_ne_true h).elim, fun _ => ?_⟩; ((first | (refine run Γ hm 400 ?_) | (refine runD Γ hm 400 (by kernel_rfl) ?_)); (conv => whnf))) | (refine ⟨fun _ => ?_, fun (h : true = false) => (Bool.false_ne_true h.symm).elim⟩; ((first | (refine run Γ hm 400 ?_) | (refine runD Γ hm 400 (by kernel_rfl) ?_)); (conv => whnf)))))
    refine ⟨fun h2 => ?_, fun h2 => ?_⟩
    · (((first | (refine run Γ hm 400 ?_) | (refine runD Γ hm 400 (by kernel_rfl) ?_)); (conv => whnf)); repeat (first | (refine ⟨fun (h : false = true) => (Bool.false_ne_true h).elim, fun _ => ?_⟩; ((first | (refine run Γ hm 400 ?_) | (refine runD Γ hm 400 (by kernel_rfl) ?_)); (conv => whnf))) | (refine ⟨fun _ => ?_, fun (h : true = false) => (Bool.false_ne_true h.symm).elim⟩; ((first | (refine run Γ hm 400 ?_) | (refine runD Γ hm 400 (by kernel_rfl) ?_)); (conv => whnf)))))
      refine done0 rfl (.cons .tmp .nil) (congrArg boolSV ?_) rfl
      exact allB_false hj2 (by simpa using h2)
    · (((first | (refine run Γ hm 400 ?_) | (refine runD Γ hm 400 (by kernel_rfl) ?_)); (conv => whnf)); repeat (first | (refine ⟨fun (h : false = true) => (Bool.false_ne_true h).elim, fun _ => ?_⟩; ((first | (refine run Γ hm 400 ?_) | (refine runD Γ hm 400 (by kernel_rfl) ?_)); (conv => whnf))) | (refine ⟨fun _ => ?_, fun (h : true = false) => (Bool.false_ne_true h.symm).elim⟩; ((first | (refine run Γ hm 400 ?_) | (refine runD Γ hm 400 (by kernel_rfl) ?_)); (conv => whnf)))))
      refine ⟨by unfold I64; omega, ?_⟩
      ((conv => whnf); repeat (first | (refine ⟨fun (h : false = true) => (Bool.false_ne_true h).elim, fun _ => ?_⟩; ((first | (refine run Γ hm 400 ?_) | (refine runD Γ hm 400 (by kernel_rfl) ?_)); (conv => whnf))) | (refine ⟨fun _ => ?_, fun (h : true = false) => (Bool.false_ne_true h.symm).elim⟩; ((first | (refine run Γ hm 400 ?_) | (refine runD Γ hm 400 (by kernel_rfl) ?_)); (conv => whnf)))))
      exact G_nextP [] hI hj2 (upto_next hI hj2 (by simpa using h2)) ⟨⟨rfl, rfl, ren_id _, hc, rfl, rfl, rfl, rfl, rfl, rfl, trivial⟩, trivial, rfl, rfl⟩
  · have h := of_decide_eq_false h
    (((first | (refine run Γ hm 400 ?_) | (refine runD Γ hm 400 (by kernel_rfl) ?_)); (conv => whnf)); repeat (first | (refine ⟨fun (h : false = true) => (Bool.false_ne_true h).elim, fun _ => ?_⟩; ((first | (refine run Γ hm 400 ?_) | (refine runD Γ hm 400 (by kernel_rfl) ?_)); (conv => whnf))) | (refine ⟨fun _ => ?_, fun (h : true = false) => (Bool.false_ne_true h.symm).elim⟩; ((first | (refine run Γ hm 400 ?_) | (refine runD Γ hm 400 (by kernel_rfl) ?_)); (conv => whnf)))))
    refine done0 rfl (.cons .tmp .nil) (congrArg boolSV ?_) rfl
    exact upto_all hI (by omega)

theorem allS_Link (l : List Link) (p : Nat → Link → Bool) (f : FuncId) (first cap : List SV) (hc : (SV.clo (.func f) first cap).inn [] = true) (hf : ∀ i (h : i < l.length), FunS Try.prog f (first ++ [intSV i, linkSV l[i]] ++ cap) (boolSV (p i l[i]))) (hl : Short l) :
    Sy.Spec Try.prog 31 [.sl 3 linkSV l, .clo (.func f) first cap] [] (boolSV (allB p l)) [] := contract Γ hm 100 F31 Try.ntmps31 rfl fun F hF => by
  unfold Short at hl
  have hin : ∀ (i : Nat) (x : Link), innL [] (first ++ [intSV i, linkSV x] ++ cap) = true := fun i x => clo_inn hc rfl
  ((conv => whnf); repeat (first | (refine ⟨fun (h : false = true) => (Bool.false_ne_true h).elim, fun _ => ?_⟩; ((first | (refine run Γ hm 400 ?_) | (refine runD Γ hm 400 (by kernel_rfl) ?_)); (conv => whnf))) | (refine ⟨fun _ => ?_, fun (h : true = false) => (Bool.false_ne_true h.symm).elim⟩; ((first | (refine run Γ hm 400 ?_) | (refine runD Γ hm 400 (by kernel_rfl) ?_)); (conv => whnf)))))
  refine G_countP l.length (fun j => Upto p l j) (fun j => [(0, .sl 3 linkSV l), (1, .clo (.func f) first cap), (7, .sl 3 linkSV l), (8, intSV l.length), (9, intSV j)]) (fun _ => []) [] (upto_zero _ _) ⟨⟨rfl, rfl, ren_id _, hc, rfl, rfl, rfl, rfl, rfl, rfl, trivial⟩, trivial, rfl, rfl⟩ ?_
  intro j hj hI
  (((first | (refine run Γ hm 400 ?_) | (refine runD Γ hm 400 (by kernel_rfl) ?_)); (conv => whnf)); repeat (first | (refine ⟨fun (h : false = true) => (Bool.false_ne_true h).elim, fun _ => ?_⟩; ((first | (refine run Γ hm 400 ?_) | (refine runD Γ hm 400 (by kernel_rfl) ?_)); (conv => whnf))) | (refine ⟨fun _ => ?_, fun (h : true = false) => (Bool.false_ne_true h.symm).elim⟩; ((first | (refine run Γ hm 400 ?_) | (refine runD Γ hm 400 (by kernel_rfl) ?_)); (conv => whnf)))))
  refine ⟨fun h => ?_, fun h => ?_⟩
  · have h := of_decide_eq_true h
    have hj2 : j < l.length := by omega
    (((first | (refine run Γ hm 400 ?_) | (refine runD Γ hm 400 (by kernel_rfl) ?_)); (conv => whnf)); repeat (first | (refine ⟨fun (h : false = true) => (Bool.false_ne_true h).elim, fun _ => ?_⟩; ((first | (refine run Γ hm 400 ?_) | (refine runD Γ hm 400 (by kernel_rfl) ?_)); (conv => whnf))) | (refine ⟨fun _ => ?_, fun (h : true = false) => (Bool.false_ne_true h.symm).elim⟩; ((first | (refine run Γ hm 400 ?_) | (refine runD Γ hm 400 (by kernel_rfl) ?_)); (conv => whnf)))))
    refine ⟨rfl, by omega, by omega, ?_⟩
    ((conv => whnf); repeat (first | (refine ⟨fun (h : false = true) => (Bool.false_ne_true h).elim, fun _ => ?_⟩; ((first | (refine run Γ hm 400 ?_) | (refine runD Γ hm 400 (by kernel_rfl) ?_)); (conv => whnf))) | (refine ⟨fun _ => ?_, fun (h : true = false) => (Bool.false_ne_true h.symm).elim⟩; ((first | (refine run Γ hm 400 ?_) | (refine runD Γ hm 400 (by kernel_rfl) ?_)); (conv => whnf)))))
    refine callC (hf j hj2) rfl rfl rfl (by simp only [hin]; rfl) rfl rfl ?_
    (((first | (refine run Γ hm 400 ?_) | (refine runD Γ hm 400 (by kernel_rfl) ?_)); (conv => whnf)); repeat (first | (refine ⟨fun (h : false = true) => (Bool.false_ne_true h).elim, fun _ => ?_⟩; ((first | (refine run Γ hm 400 ?_) | (refine runD Γ hm 400 (by kernel_rfl) ?_)); (conv => whnf))) | (refine ⟨fun _ => ?_, fun (h : true = false) => (Bool.false_ne_true h.symm).elim⟩; ((first | (refine run Γ hm 400 ?_) | (refine runD Γ hm 400 (by kernel_rfl) ?_)); (conv => whnf)))))
    refine ⟨fun h2 => ?_, fun h2 => ?_⟩
    · (((first | (refine run Γ hm 400 ?_) | (refine runD Γ hm 400 (by kernel_rfl) ?_)); (conv => whnf)); repeat (first | (refine ⟨fun (h : false = true) => (Bool.false_ne_true h).elim, fun _ => ?_⟩; ((first | (refine run Γ hm 400 ?_) | (refine runD Γ hm 400 (by kernel_rfl) ?_)); (conv => whnf))) | (refine ⟨fun _ => ?_, fun (h : true = false) => (Bool.false_ne_true h.symm).elim⟩; ((first | (refine run Γ hm 400 ?_) | (refine runD Γ hm 400 (by kernel_rfl) ?_)); (conv => whnf)))))
      refine done0 rfl (.cons .tmp .nil) (congrArg boolSV ?_) rfl
      exact allB_false hj2 (by simpa using h2)
    · (((first | (refine run Γ hm 400 ?_) | (refine runD Γ hm 400 (by kernel_rfl) ?_)); (conv => whnf)); repeat (first | (refine ⟨fun (h : false = true) => (Bool.false_ne_true h).elim, fun _ => ?_⟩; ((first | (refine run Γ hm 400 ?_) | (refine runD Γ hm 400 (by kernel_rfl) ?_)); (conv => whnf))) | (refine ⟨fun _ => ?_, fun (h : true = false) => (Bool.false_ne_true h.symm).elim⟩; ((first | (refine run Γ hm 400 ?_) | (refine runD Γ hm 400 (by kernel_rfl) ?_)); (conv => whnf)))))
      refine ⟨by unfold I64; omega, ?_⟩
      ((conv => whnf); repeat (first | (refine ⟨fun (h : false = true) => (Bool.false_ne_true h).elim, fun _ => ?_⟩; ((first | (refine run Γ hm 400 ?_) | (refine runD Γ hm 400 (by kernel_rfl) ?_)); (conv => whnf))) | (refine ⟨fun _ => ?_, fun (h : true = false) => (Bool.false_ne_true h.symm).elim⟩; ((first | (refine run Γ hm 400 ?_) | (refine runD Γ hm 400 (by kernel_rfl) ?_)); (conv => whnf)))))
      exact G_nextP [] hI hj2 (upto_next hI hj2 (by simpa using h2)) ⟨⟨rfl, rfl, ren_id _, hc, rfl, rfl, rfl, rfl, rfl, rfl, trivial⟩, trivial, rfl, rfl⟩
  · have h := of_decide_eq_false h
    (((first | (refine run Γ hm 400 ?_) | (refine runD Γ hm 400 (by kernel_rfl) ?_)); (conv => whnf)); repeat (first | (refine ⟨fun (h : false = true) => (Bool.false_ne_true h).elim, fun _ => ?_⟩; ((first | (refine run Γ hm 400 ?_) | (refine runD Γ hm 400 (by kernel_rfl) ?_)); (conv => whnf))) | (refine ⟨fun _ => ?_, fun (h : true = false) => (Bool.false_ne_true h.symm).elim⟩; ((first | (refine run Γ hm 400 ?_) | (refine runD Γ hm 400 (by kernel_rfl) ?_)); (conv => whnf)))))
    refine done0 rfl (.cons .tmp .nil) (congrArg boolSV ?_) rfl
    exact upto_all hI (by omega)

theorem allS_Domain (l : List Domain) (p : Nat → Domain → Bool) (f : FuncId) (first cap : List SV) (hc : (SV.clo (.func f) first cap).inn [] = true) (hf : ∀ i (h : i < l.length), FunS Try.prog f (first ++ [intSV i, domainSV l[i]] ++ cap) (boolSV (p i l[i]))) (hl : Short l) :
    Sy.Spec Try.prog 26 [.sl 6 domainSV l, .clo (.func f) first cap] [] (boolSV (allB p l)) [] := contract Γ hm 100 F26 Try.ntmps26 rfl fun F hF => by
  unfold Short at hl
  have hin : ∀ (i : Nat) (x : Domain), innL [] (first ++ [intSV i, domainSV x] ++ cap) = true := fun i x => clo_inn hc rfl
  ((conv => whnf); repeat (first | (refine ⟨fun (h : false = true) => (Bool.false_ne_true h).elim, fun _ => ?_⟩; ((first | (refine run Γ hm 400 ?_) | (refine runD Γ hm 400 (by kernel_rfl) ?_)); (conv => whnf))) | (refine ⟨fun _ => ?_, fun (h : true = false) => (Bool.false_ne_true h.symm).elim⟩; ((first | (refine run Γ hm 400 ?_) | (refine runD Γ hm 400 (by kernel_rfl) ?_)); (conv => whnf)))))
  refine G_countP l.length (fun j => Upto p l j) (fun j => [(0, .sl 6 domainSV l), (1, .clo (.func f) first cap), (7, .sl 6 domainSV l), (8, intSV l.length), (9, intSV j)]) (fun _ => []) [] (upto_zero _ _) ⟨⟨rfl, rfl, ren_id _, hc, rfl, rfl, rfl, rfl, rfl, rfl, trivial⟩, trivial, rfl, rfl⟩ ?_
  intro j hj hI
  (((first | (refine run Γ hm 400 ?_) | (refine runD Γ hm 400 (by kernel_rfl) ?_)); (conv => whnf)); repeat (first | (refine ⟨fun (h : false = true) => (Bool.false_ne_true h).elim, fun _ => ?_⟩; ((first | (refine run Γ hm 400 ?_) | (refine runD Γ hm 400 (by kernel_rfl) ?_)); (conv => whnf))) | (refine ⟨fun _ => ?_, fun (h : true = false) => (Bool.false_ne_true h.symm).elim⟩; ((first | (refine run Γ hm 400 ?_) | (refine runD Γ hm 400 (by kernel_rfl) ?_)); (conv => whnf)))))
  refine ⟨fun h => ?_, fun h => ?_⟩
  · have h := of_decide_eq_true h
    have hj2 : j < l.length := by omega
    (((first | (refine run Γ hm 400 ?_) | (refine runD Γ hm 400 (by kernel_rfl) ?_)); (conv => whnf)); repeat (first | (refine ⟨fun (h : false = true) => (Bool.false_ne_true h).elim, fun _ => ?_⟩; ((first | (refine run Γ hm 400 ?_) | (refine runD Γ hm 400 (by kernel_rfl) ?_)); (conv => whnf))) | (refine ⟨fun _ => ?_, fun (h : true = false) => (Bool.false_ne_true h.symm).elim⟩; ((first | (refine run Γ hm 400 ?_) | (refine runD Γ hm 400 (by kernel_rfl) ?_)); (conv => whnf)))))
    refine ⟨rfl, by omega, by omega, ?_⟩
    ((conv => whnf); repeat (first | (refine ⟨fun (h : false = true) => (Bool.false_ne_true h).elim, fun _ => ?_⟩; ((first | (refine run Γ hm 400 ?_) | (refine runD Γ hm 400 (by kernel_rfl) ?_)); (conv => whnf))) | (refine ⟨fun _ => ?_, fun (h : true = false) => (Bool.false_ne_true h.symm).elim⟩; ((first | (refine run Γ hm 400 ?_) | (refine runD Γ hm 400 (by kernel_rfl) ?_)); (conv => whnf)))))
    refine callC (hf j hj2) rfl rfl rfl (by simp only [hin]; rfl) rfl rfl ?_
    (((first | (refine run Γ hm 400 ?_) | (refine runD Γ hm 400 (by kernel_rfl) ?_)); (conv => whnf)); repeat (first | (refine ⟨fun (h : false = true) => (Bool.false_ne_true h).elim, fun _ => ?_⟩; ((first | (refine run Γ hm 400 ?_) | (refine runD Γ hm 400 (by kernel_rfl) ?_)); (conv => whnf))) | (refine ⟨fun _ => ?_, fun (h : true = false) => (Bool.false_ne_true h.symm).elim⟩; ((first | (refine run Γ hm 400 ?_) | (refine runD Γ hm 400 (by kernel_rfl) ?_)); (conv => whnf)))))
    refine ⟨fun h2 => ?_, fun h2 => ?_⟩
    · (((first | (refine run Γ hm 400 ?_) | (refine runD Γ hm 400 (by kernel_rfl) ?_)); (conv => whnf)); repeat (first | (refine ⟨fun (h : false = true) => (Bool.false_ne_true h).elim, fun _ => ?_⟩; ((first | (refine run Γ hm 400 ?_) | (refine runD Γ hm 400 (by kernel_rfl) ?_)); (conv => whnf))) | (refine ⟨fun _ => ?_, fun (h : true = false) => (Bool.false_ne_true h.symm).elim⟩; ((first | (refine run Γ hm 400 ?_) | (refine runD Γ hm 400 (by kernel_rfl) ?_)); (conv => whnf)))))
      refine done0 rfl (.cons .tmp .nil) (congrArg boolSV ?_) rfl
      exact allB_false hj2 (by simpa using h2)
    · (((first | (refine run Γ hm 400 ?_) | (refine runD Γ hm 400 (by kernel_rfl) ?_)); (conv => whnf)); repeat (first | (refine ⟨fun (h : false = true) => (Bool.false_ne_true h).elim, fun _ => ?_⟩; ((first | (refine run Γ hm 400 ?_) | (refine runD Γ hm 400 (by kernel_rfl) ?_)); (conv => whnf))) | (refine ⟨fun _ => ?_, fun (h : true = false) => (Bool.false_ne_true h.symm).elim⟩; ((first | (refine run Γ hm 400 ?_) | (refine runD Γ hm 400 (by kernel_rfl) ?_)); (conv => whnf)))))
      refine ⟨by unfold I64; omega, ?_⟩
      ((conv => whnf); repeat (first | (refine ⟨fun (h : false = true) => (Bool.false_ne_true h).elim, fun _ => ?_⟩; ((first | (refine run Γ hm 400 ?_) | (refine runD Γ hm 400 (by kernel_rfl) ?_)); (conv => whnf))) | (refine ⟨fun _ => ?_, fun (h : true = false) => (Bool.false_ne_true h.symm).elim⟩; ((first | (refine run Γ hm 400 ?_) | (refine runD Γ hm 400 (by kernel_rfl) ?_)); (conv => whnf)))))
      exact G_nextP [] hI hj2 (upto_next hI hj2 (by simpa using h2)) ⟨⟨rfl, rfl, ren_id _, hc, rfl, rfl, rfl, rfl, rfl, rfl, trivial⟩, trivial, rfl, rfl⟩
  · have h := of_decide_eq_false h
    (((first | (refine run Γ hm 400 ?_) | (refine runD Γ hm 400 (by kernel_rfl) ?_)); (conv => whnf)); repeat (first | (refine ⟨fun (h : false = true) => (Bool.false_ne_true h).elim, fun _ => ?_⟩; ((first | (refine run Γ hm 400 ?_) | (refine runD Γ hm 400 (by kernel_rfl) ?_)); (conv => whnf))) | (refine ⟨fun _ => ?_, fun (h : true = false) => (Bool.false_ne_true h.symm).elim⟩; ((first | (refine run Γ hm 400 ?_) | (refine runD Γ hm 400 (by kernel_rfl) ?_)); (conv => whnf)))))
    refine done0 rfl (.cons .tmp .nil) (congrArg boolSV ?_) rfl
    exact upto_all hI (by omega)

theorem allS_Static (l : List Static) (p : Nat → Static → Bool) (f : FuncId) (first cap : List SV) (hc : (SV.clo (.func f) first cap).inn [] = true) (hf : ∀ i (h : i < l.length), FunS Try.prog f (first ++ [intSV i, staticSV l[i]] ++ cap) (boolSV (p i l[i]))) (hl : Short l) :
    Sy.Spec Try.prog 33 [.sl 4 staticSV l, .clo (.func f) first cap] [] (boolSV (allB p l)) [] := contract Γ hm 100 F33 Try.ntmps33 rfl fun F hF => by
  unfold Short at hl
  have hin : ∀ (i : Nat) (x : Static), innL [] (first ++ [intSV i, staticSV x] ++ cap) = true := fun i x => clo_inn hc rfl
  ((conv => whnf); repeat (first | (refine ⟨fun (h : false = true) => (Bool.false_ne_true h).elim, fun _ => ?_⟩; ((first | (refine run Γ hm 400 ?_) | (refine runD Γ hm 400 (by kernel_rfl) ?_)); (conv => whnf))) | (refine ⟨fun _ => ?_, fun (h : true = false) => (Bool.false_ne_true h.symm).elim⟩; ((first | (refine run Γ hm 400 ?_) | (refine runD Γ hm 400 (by kernel_rfl) ?_)); (conv => whnf)))))
  refine G_countP l.length (fun j => Upto p l j) (fun j => [(0, .sl 4 staticSV l), (1, .clo (.func f) first cap), (7, .sl 4 staticSV l), (8, intSV l.length), (9, intSV j)]) (fun _ => []) [] (upto_zero _ _) ⟨⟨rfl, rfl, ren_id _, hc, rfl, rfl, rfl, rfl, rfl, rfl, trivial⟩, trivial, rfl, rfl⟩ ?_
  intro j hj hI
  (((first | (refine run Γ hm 400 ?_) | (refine runD Γ hm 400 (by kernel_rfl) ?_)); (conv => whnf)); repeat (first | (refine ⟨fun (h : false = true) => (Bool.false_ne_true h).elim, fun _ => ?_⟩; ((first | (refine run Γ hm 400 ?_) | (refine runD Γ hm 400 (by kernel_rfl) ?_)); (conv => whnf))) | (refine ⟨fun _ => ?_, fun (h : true = false) => (Bool.false_ne_true h.symm).elim⟩; ((first | (refine run Γ hm 400 ?_) | (refine runD Γ hm 400 (by kernel_rfl) ?_)); (conv => whnf)))))
  refine ⟨fun h => ?_, fun h => ?_⟩
  · have h := of_decide_eq_true h
    have hj2 : j < l.length := by omega
    (((first | (refine run Γ hm 400 ?_) | (refine runD Γ hm 400 (by kernel_rfl) ?_)); (conv => whnf)); repeat (first | (refine ⟨fun (h : false = true) => (Bool.false_ne_true h).elim, fun _ => ?_⟩; ((first | (refine run Γ hm 400 ?_) | (refine runD Γ hm 400 (by kernel_rfl) ?_)); (conv => whnf))) | (refine ⟨fun _ => ?_, fun (h : true = false) => (Bool.false_ne_true h.symm).elim⟩; ((first | (refine run Γ hm 400 ?_) | (refine runD Γ hm 400 (by kernel_rfl) ?_)); (conv => whnf)))))
    refine ⟨rfl, by omega, by omega, ?_⟩
    ((conv => whnf); repeat (first | (refine ⟨fun (h : false = true) => (Bool.false_ne_true h).elim, fun _ => ?_⟩; ((first | (refine run Γ hm 400 ?_) | (refine runD Γ hm 400 (by kernel_rfl) ?_)); (conv => whnf))) | (refine ⟨fun _ => ?_, fun (h : true = false) => (Bool.false_ne_true h.symm).elim⟩; ((first | (refine run Γ hm 400 ?_) | (refine runD Γ hm 400 (by kernel_rfl) ?_)); (conv => whnf)))))
    refine callC (hf j hj2) rfl rfl rfl (by simp only [hin]; rfl) rfl rfl ?_
    (((first | (refine run Γ hm 400 ?_) | (refine runD Γ hm 400 (by kernel_rfl) ?_)); (conv => whnf)); repeat (first | (refine ⟨fun (h : false = true) => (Bool.false_ne_true h).elim, fun _ => ?_⟩; ((first | (refine run Γ hm 400 ?_) | (refine runD Γ hm 400 (by kernel_rfl) ?_)); (conv => whnf))) | (refine ⟨fun _ => ?_, fun (h : true = false) => (Bool.false_ne_true h.symm).elim⟩; ((first | (refine run Γ hm 400 ?_) | (refine runD Γ hm 400 (by kernel_rfl) ?_)); (conv => whnf)))))
    refine ⟨fun h2 => ?_, fun h2 => ?_⟩
    · (((first | (refine run Γ hm 400 ?_) | (refine runD Γ hm 400 (by kernel_rfl) ?_)); (conv => whnf)); repeat (first | (refine ⟨fun (h : false = true) => (Bool.false_ne_true h).elim, fun _ => ?_⟩; ((first | (refine run Γ hm 400 ?_) | (refine runD Γ hm 400 (by kernel_rfl) ?_)); (conv => whnf))) | (refine ⟨fun _ => ?_, fun (h : true = false) => (Bool.false_ne_true h.symm).elim⟩; ((first | (refine run Γ hm 400 ?_) | (refine runD Γ hm 400 (by kernel_rfl) ?_)); (conv => whnf)))))
      refine done0 rfl (.cons .tmp .nil) (congrArg boolSV ?_) rfl
      exact allB_false hj2 (by simpa using h2)
    · (((first | (refine run Γ hm 400 ?_) | (refine runD Γ hm 400 (by kernel_rfl) ?_)); (conv => whnf)); repeat (first | (refine ⟨fun (h : false = true) => (Bool.false_ne_true h).elim, fun _ => ?_⟩; ((first | (refine run Γ hm 400 ?_) | (refine runD Γ hm 400 (by kernel_rfl) ?_)); (conv => whnf))) | (refine ⟨fun _ => ?_, fun (h : true = false) => (Bool.false_ne_true h.symm).elim⟩; ((first | (refine run Γ hm 400 ?_) | (refine runD Γ hm 400 (by kernel_rfl) ?_)); (conv => whnf)))))
      refine ⟨by unfold I64; omega, ?_⟩
      ((conv => whnf); repeat (first | (refine ⟨fun (h : false = true) => (Bool.false_ne_true h).elim, fun _ => ?_⟩; ((first | (refine run Γ hm 400 ?_) | (refine runD Γ hm 400 (by kernel_rfl) ?_)); (conv => whnf))) | (refine ⟨fun _ => ?_, fun (h : true = false) => (Bool.false_ne_true h.symm).elim⟩; ((first | (refine run Γ hm 400 ?_) | (refine runD Γ hm 400 (by kernel_rfl) ?_)); (conv => whnf)))))
      exact G_nextP [] hI hj2 (upto_next hI hj2 (by simpa using h2)) ⟨⟨rfl, rfl, ren_id _, hc, rfl, rfl, rfl, rfl, rfl, rfl, trivial⟩, trivial, rfl, rfl⟩
  · have h := of_decide_eq_false h
    (((first | (refine run Γ hm 400 ?_) | (refine runD Γ hm 400 (by kernel_rfl) ?_)); (conv => whnf)); repeat (first | (refine ⟨fun (h : false = true) => (Bool.false_ne_true h).elim, fun _ => ?_⟩; ((first | (refine run Γ hm 400 ?_) | (refine runD Γ hm 400 (by kernel_rfl) ?_)); (conv => whnf))) | (refine ⟨fun _ => ?_, fun (h : true = false) => (Bool.false_ne_true h.symm).elim⟩; ((first | (refine run Γ hm 400 ?_) | (refine runD Γ hm 400 (by kernel_rfl) ?_)); (conv => whnf)))))
    refine done0 rfl (.cons .tmp .nil) (congrArg boolSV ?_) rfl
    exact upto_all hI (by omega)

theorem allS_Flood (l : List Flood) (p : Nat → Flood → Bool) (f : FuncId) (first cap : List SV) (hc : (SV.clo (.func f) first cap).inn [] = true) (hf : ∀ i (h : i < l.length), FunS Try.prog f (first ++ [intSV i, floodSV l[i]] ++ cap) (boolSV (p i l[i]))) (hl : Short l) :
    Sy.Spec Try.prog 35 [.sl 4 floodSV l, .clo (.func f) first cap] [] (boolSV (allB p l)) [] := contract Γ hm 100 F35 Try.ntmps35 rfl fun F hF => by
  unfold Short at hl
  have hin : ∀ (i : Nat) (x : Flood), innL [] (first ++ [intSV i, floodSV x] ++ cap) = true := fun i x => clo_inn hc rfl
  ((conv => whnf); repeat (first | (refine ⟨fun (h : false = true) => (Bool.false_ne_true h).elim, fun _ => ?_⟩; ((first | (refine run Γ hm 400 ?_) | (refine runD Γ hm 400 (by kernel_rfl) ?_)); (conv => whnf))) | (refine ⟨fun _ => ?_, fun (h : true = false) => (Bool.false_ne_true h.symm).elim⟩; ((first | (refine run Γ hm 400 ?_) | (refine runD Γ hm 400 (by kernel_rfl) ?_)); (conv => whnf)))))
  refine G_countP l.length (fun j => Upto p l j) (fun j => [(0, .sl 4 floodSV l), (1, .clo (.func f) first cap), (7, .sl 4 floodSV l), (8, intSV l.length), (9, intSV j)]) (fun _ => []) [] (upto_zero _ _) ⟨⟨rfl, rfl, ren_id _, hc, rfl, rfl, rfl, rfl, rfl, rfl, trivial⟩, trivial, rfl, rfl⟩ ?_
  intro j hj hI
  (((first | (refine run Γ hm 400 ?_) | (refine runD Γ hm 400 (by kernel_rfl) ?_)); (conv => whnf)); repeat (first | (refine ⟨fun (h : false = true) => (Bool.false_ne_true h).elim, fun _ => ?_⟩; ((first | (refine run Γ hm 400 ?_) | (refine runD Γ hm 400 (by kernel_rfl) ?_)); (conv => whnf))) | (refine ⟨fun _ => ?_, fun (h : true = false) => (Bool.false_ne_true h.symm).elim⟩; ((first | (refine run Γ hm 400 ?_) | (refine runD Γ hm 400 (by kernel_rfl) ?_)); (conv => whnf)))))
  refine ⟨fun h => ?_, fun h => ?_⟩
  · have h := of_decide_eq_true h
    have hj2 : j < l.length := by omega
    (((first | (refine run Γ hm 400 ?_) | (refine runD Γ hm 400 (by kernel_rfl) ?_)); (conv => whnf)); repeat (first | (refine ⟨fun (h : false = true) => (Bool.false_ne_true h).elim, fun _ => ?_⟩; ((first | (refine run Γ hm 400 ?_) | (refine runD Γ hm 400 (by kernel_rfl) ?_)); (conv => whnf))) | (refine ⟨fun _ => ?_, fun (h : true = false) => (Bool.false_ne_true h.symm).elim⟩; ((first | (refine run Γ hm 400 ?_) | (refine runD Γ hm 400 (by kernel_rfl) ?_)); (conv => whnf)))))
    refine ⟨rfl, by omega, by omega, ?_⟩
    ((conv => whnf); repeat (first | (refine ⟨fun (h : false = true) => (Bool.false_ne_true h).elim, fun _ => ?_⟩; ((first | (refine run Γ hm 400 ?_) | (refine runD Γ hm 400 (by kernel_rfl) ?_)); (conv => whnf))) | (refine ⟨fun _ => ?_, fun (h : true = false) => (Bool.false_ne_true h.symm).elim⟩; ((first | (refine run Γ hm 400 ?_) | (refine runD Γ hm 400 (by kernel_rfl) ?_)); (conv => whnf)))))
    refine callC (hf j hj2) rfl rfl rfl (by simp only [hin]; rfl) rfl rfl ?_
    (((first | (refine run Γ hm 400 ?_) | (refine runD Γ hm 400 (by kernel_rfl) ?_)); (conv => whnf)); repeat (first | (refine ⟨fun (h : false = true) => (Bool.false_ne_true h).elim, fun _ => ?_⟩; ((first | (refine run Γ hm 400 ?_) | (refine runD Γ hm 400 (by kernel_rfl) ?_)); (conv => whnf))) | (refine ⟨fun _ => ?_, fun (h : true = false) => (Bool.false_ne_true h.symm).elim⟩; ((first | (refine run Γ hm 400 ?_) | (refine runD Γ hm 400 (by kernel_rfl) ?_)); (conv => whnf)))))
    refine ⟨fun h2 => ?_, fun h2 => ?_⟩
    · (((first | (refine run Γ hm 400 ?_) | (refine runD Γ hm 400 (by kernel_rfl) ?_)); (conv => whnf)); repeat (first | (refine ⟨fun (h : false = true) => (Bool.false_ne_true h).elim, fun _ => ?_⟩; ((first | (refine run Γ hm 400 ?_) | (refine runD Γ hm 400 (by kernel_rfl) ?_)); (conv => whnf))) | (refine ⟨fun _ => ?_, fun (h : true = false) => (Bool.false_ne_true h.symm).elim⟩; ((first | (refine run Γ hm 400 ?_) | (refine runD Γ hm 400 (by kernel_rfl) ?_)); (conv => whnf)))))
      refine done0 rfl (.cons .tmp .nil) (congrArg boolSV ?_) rfl
      exact allB_false hj2 (by simpa using h2)
    · (((first | (refine run Γ hm 400 ?_) | (refine runD Γ hm 400 (by kernel_rfl) ?_)); (conv => whnf)); repeat (first | (refine ⟨fun (h : false = true) => (Bool.false_ne_true h).elim, fun _ => ?_⟩; ((first | (refine run Γ hm 400 ?_) | (refine runD Γ hm 400 (by kernel_rfl) ?_)); (conv => whnf))) | (refine ⟨fun _ => ?_, fun (h : true = false) => (Bool.false_ne_true h.symm).elim⟩; ((first | (refine run Γ hm 400 ?_) | (refine runD Γ hm 400 (by kernel_rfl) ?_)); (conv => whnf)))))
      refine ⟨by unfold I64; omega, ?_⟩
      ((conv => whnf); repeat (first | (refine ⟨fun (h : false = true) => (Bool.false_ne_true h).elim, fun _ => ?_⟩; ((first | (refine run Γ hm 400 ?_) | (refine runD Γ hm 400 (by kernel_rfl) ?_)); (conv => whnf))) | (refine ⟨fun _ => ?_, fun (h : true = false) => (Bool.false_ne_true h.symm).elim⟩; ((first | (refine run Γ hm 400 ?_) | (refine runD Γ hm 400 (by kernel_rfl) ?_)); (conv => whnf)))))
      exact G_nextP [] hI hj2 (upto_next hI hj2 (by simpa using h2)) ⟨⟨rfl, rfl, ren_id _, hc, rfl, rfl, rfl, rfl, rfl, rfl, trivial⟩, trivial, rfl, rfl⟩
  · have h := of_decide_eq_false h
    (((first | (refine run Γ hm 400 ?_) | (refine runD Γ hm 400 (by kernel_rfl) ?_)); (conv => whnf)); repeat (first | (refine ⟨fun (h : false = true) => (Bool.false_ne_true h).elim, fun _ => ?_⟩; ((first | (refine run Γ hm 400 ?_) | (refine runD Γ hm 400 (by kernel_rfl) ?_)); (conv => whnf))) | (refine ⟨fun _ => ?_, fun (h : true = false) => (Bool.false_ne_true h.symm).elim⟩; ((first | (refine run Γ hm 400 ?_) | (refine runD Γ hm 400 (by kernel_rfl) ?_)); (conv => whnf)))))
    refine done0 rfl (.cons .tmp .nil) (congrArg boolSV ?_) rfl
    exact upto_all hI (by omega)

theorem allS_Vrf (l : List Vrf) (p : Nat → Vrf → Bool) (f : FuncId) (first cap : List SV) (hc : (SV.clo (.func f) first cap).inn [] = true) (hf : ∀ i (h : i < l.length), FunS Try.prog f (first ++ [intSV i, vrfSV l[i]] ++ cap) (boolSV (p i l[i]))) (hl : Short l) :
    Sy.Spec Try.prog 38 [.sl 5 vrfSV l, .clo (.func f) first cap] [] (boolSV (allB p l)) [] := contract Γ hm 100 F38 Try.ntmps38 rfl fun F hF => by
  unfold Short at hl
  have hin : ∀ (i : Nat) (x : Vrf), innL [] (first ++ [intSV i, vrfSV x] ++ cap) = true := fun i x => clo_inn hc rfl
  ((conv => whnf); repeat (first | (refine ⟨fun (h : false = true) => (Bool.false_ne_true h).elim, fun _ => ?_⟩; ((first | (refine run Γ hm 400 ?_) | (refine runD Γ hm 400 (by kernel_rfl) ?_)); (conv => whnf))) | (refine ⟨fun _ => ?_, fun (h : true = false) => (Bool.false_ne_true h.symm).elim⟩; ((first | (refine run Γ hm 400 ?_) | (refine runD Γ hm 400 (by kernel_rfl) ?_)); (conv => whnf)))))
  refine G_countP l.length (fun j => Upto p l j) (fun j => [(0, .sl 5 vrfSV l), (1, .clo (.func f) first cap), (7, .sl 5 vrfSV l), (8, intSV l.length), (9, intSV j)]) (fun _ => []) [] (upto_zero _ _) ⟨⟨rfl, rfl, ren_id _, hc, rfl, rfl, rfl, rfl, rfl, rfl, trivial⟩, trivial, rfl, rfl⟩ ?_
  intro j hj hI
  (((first | (refine run Γ hm 400 ?_) | (refine runD Γ hm 400 (by kernel_rfl) ?_)); (conv => whnf)); repeat (first | (refine ⟨fun (h : false = true) => (Bool.false_ne_true h).elim, fun _ => ?_⟩; ((first | (refine run Γ hm 400 ?_) | (refine runD Γ hm 400 (by kernel_rfl) ?_)); (conv => whnf))) | (refine ⟨fun _ => ?_, fun (h : true = false) => (Bool.false_ne_true h.symm).elim⟩; ((first | (refine run Γ hm 400 ?_) | (refine runD Γ hm 400 (by kernel_rfl) ?_)); (conv => whnf)))))
  refine ⟨fun h => ?_, fun h => ?_⟩
  · have h := of_decide_eq_true h
    have hj2 : j < l.length := by omega
    (((first | (refine run Γ hm 400 ?_) | (refine runD Γ hm 400 (by kernel_rfl) ?_)); (conv => whnf)); repeat (first | (refine ⟨fun (h : false = true) => (Bool.false_ne_true h).elim, fun _ => ?_⟩; ((first | (refine run Γ hm 400 ?_) | (refine runD Γ hm 400 (by kernel_rfl) ?_)); (conv => whnf))) | (refine ⟨fun _ => ?_, fun (h : true = false) => (Bool.false_ne_true h.symm).elim⟩; ((first | (refine run Γ hm 400 ?_) | (refine runD Γ hm 400 (by kernel_rfl) ?_)); (conv => whnf)))))
    refine ⟨rfl, by omega, by omega, ?_⟩
    ((conv => whnf); repeat (first | (refine ⟨fun (h : false = true) => (Bool.false_ne_true h).elim, fun _ => ?_⟩; ((first | (refine run Γ hm 400 ?_) | (refine runD Γ hm 400 (by kernel_rfl) ?_)); (conv => whnf))) | (refine ⟨fun _ => ?_, fun (h : true = false) => (Bool.false_ne_true h.symm).elim⟩; ((first | (refine run Γ hm 400 ?_) | (refine runD Γ hm 400 (by kernel_rfl) ?_)); (conv => whnf)))))
    refine callC (hf j hj2) rfl rfl rfl (by simp only [hin]; rfl) rfl rfl ?_
    (((first | (refine run Γ hm 400 ?_) | (refine runD Γ hm 400 (by kernel_rfl) ?_)); (conv => whnf)); repeat (first | (refine ⟨fun (h : false = true) => (Bool.false_ne_true h).elim, fun _ => ?_⟩; ((first | (refine run Γ hm 400 ?_) | (refine runD Γ hm 400 (by kernel_rfl) ?_)); (conv => whnf))) | (refine ⟨fun _ => ?_, fun (h : true = false) => (Bool.false_ne_true h.symm).elim⟩; ((first | (refine run Γ hm 400 ?_) | (refine runD Γ hm 400 (by kernel_rfl) ?_)); (conv => whnf)))))
    refine ⟨fun h2 => ?_, fun h2 => ?_⟩
    · (((first | (refine run Γ hm 400 ?_) | (refine runD Γ hm 400 (by kernel_rfl) ?_)); (conv => whnf)); repeat (first | (refine ⟨fun (h : false = true) => (Bool.false_ne_true h).elim, fun _ => ?_⟩; ((first | (refine run Γ hm 400 ?_) | (refine runD Γ hm 400 (by kernel_rfl) ?_)); (conv => whnf))) | (refine ⟨fun _ => ?_, fun (h : true = false) => (Bool.false_ne_true h.symm).elim⟩; ((first | (refine run Γ hm 400 ?_) | (refine runD Γ hm 400 (by kernel_rfl) ?_)); (conv => whnf)))))
      refine done0 rfl (.cons .tmp .nil) (congrArg boolSV ?_) rfl
      exact allB_false hj2 (by simpa using h2)
    · (((first | (refine run Γ hm 400 ?_) | (refine runD Γ hm 400 (by kernel_rfl) ?_)); (conv => whnf)); repeat (first | (refine ⟨fun (h : false = true) => (Bool.false_ne_true h).elim, fun _ => ?_⟩; ((first | (refine run Γ hm 400 ?_) | (refine runD Γ hm 400 (by kernel_rfl) ?_)); (conv => whnf))) | (refine ⟨fun _ => ?_, fun (h : true = false) => (Bool.false_ne_true h.symm).elim⟩; ((first | (refine run Γ hm 400 ?_) | (refine runD Γ hm 400 (by kernel_rfl) ?_)); (conv => whnf)))))
      refine ⟨by unfold I64; omega, ?_⟩
      ((conv => whnf); repeat (first | (refine ⟨fun (h : false = true) => (Bool.false_ne_true h).elim, fun _ => ?_⟩; ((first | (refine run Γ hm 400 ?_) | (refine runD Γ hm 400 (by kernel_rfl) ?_)); (conv => whnf))) | (refine ⟨fun _ => ?_, fun (h : true = false) => (Bool.false_ne_true h.symm).elim⟩; ((first | (refine run Γ hm 400 ?_) | (refine runD Γ hm 400 (by kernel_rfl) ?_)); (conv => whnf)))))
      exact G_nextP [] hI hj2 (upto_next hI hj2 (by simpa using h2)) ⟨⟨rfl, rfl, ren_id _, hc, rfl, rfl, rfl, rfl, rfl, rfl, trivial⟩, trivial, rfl, rfl⟩
  · have h := of_decide_eq_false h
    (((first | (refine run Γ hm 400 ?_) | (refine runD Γ hm 400 (by kernel_rfl) ?_)); (conv => whnf)); repeat (first | (refine ⟨fun (h : false = true) => (Bool.false_ne_true h).elim, fun _ => ?_⟩; ((first | (refine run Γ hm 400 ?_) | (refine runD Γ hm 400 (by kernel_rfl) ?_)); (conv => whnf))) | (refine ⟨fun _ => ?_, fun (h : true = false) => (Bool.false_ne_true h.symm).elim⟩; ((first | (refine run Γ hm 400 ?_) | (refine runD Γ hm 400 (by kernel_rfl) ?_)); (conv => whnf)))))
    refine done0 rfl (.cons .tmp .nil) (congrArg boolSV ?_) rfl
    exact upto_all hI (by omega)

theorem allS_Irb (l : List Irb) (p : Nat → Irb → Bool) (f : FuncId) (first cap : List SV) (hc : (SV.clo (.func f) first cap).inn [] = true) (hf : ∀ i (h : i < l.length), FunS Try.prog f (first ++ [intSV i, irbSV l[i]] ++ cap) (boolSV (p i l[i]))) (hl : Short l) :
    Sy.Spec Try.prog 41 [.sl 5 irbSV l, .clo (.func f) first cap] [] (boolSV (allB p l)) [] := contract Γ hm 100 F41 Try.ntmps41 rfl fun F hF => by
  unfold Short at hl
  have hin : ∀ (i : Nat) (x : Irb), innL [] (first ++ [intSV i, irbSV x] ++ cap) = true := fun i x => clo_inn hc rfl
  ((conv => whnf); repeat (first | (refine ⟨fun (h : false = true) => (Bool.false_ne_true h).elim, fun _ => ?_⟩; ((first | (refine run Γ hm 400 ?_) | (refine runD Γ hm 400 (by kernel_rfl) ?_)); (conv => whnf))) | (refine ⟨fun _ => ?_, fun (h : true = false) => (Bool.false_ne_true h.symm).elim⟩; ((first | (refine run Γ hm 400 ?_) | (refine runD Γ hm 400 (by kernel_rfl) ?_)); (conv => whnf)))))
  refine G_countP l.length (fun j => Upto p l j) (fun j => [(0, .sl 5 irbSV l), (1, .clo (.func f) first cap), (7, .sl 5 irbSV l), (8, intSV l.length), (9, intSV j)]) (fun _ => []) [] (upto_zero _ _) ⟨⟨rfl, rfl, ren_id _, hc, rfl, rfl, rfl, rfl, rfl, rfl, trivial⟩, trivial, rfl, rfl⟩ ?_
  intro j hj hI
  (((first | (refine run Γ hm 400 ?_) | (refine runD Γ hm 400 (by kernel_rfl) ?_)); (conv => whnf)); repeat (first | (refine ⟨fun (h : false = true) => (Bool.false_ne_true h).elim, fun _ => ?_⟩; ((first | (refine run Γ hm 400 ?_) | (refine runD Γ hm 400 (by kernel_rfl) ?_)); (conv => whnf))) | (refine ⟨fun _ => ?_, fun (h : true = false) => (Bool.false_ne_true h.symm).elim⟩; ((first | (refine run Γ hm 400 ?_) | (refine runD Γ hm 400 (by kernel_rfl) ?_)); (conv => whnf)))))
  refine ⟨fun h => ?_, fun h => ?_⟩
  · have h := of_decide_eq_true h
    have hj2 : j < l.length := by omega
    (((first | (refine run Γ hm 400 ?_) | (refine runD Γ hm 400 (by kernel_rfl) ?_)); (conv => whnf)); repeat (first | (refine ⟨fun (h : false = true) => (Bool.false_ne_true h).elim, fun _ => ?_⟩; ((first | (refine run Γ hm 400 ?_) | (refine runD Γ hm 400 (by kernel_rfl) ?_)); (conv => whnf))) | (refine ⟨fun _ => ?_, fun (h : true = false) => (Bool.false_ne_true h.symm).elim⟩; ((first | (refine run Γ hm 400 ?_) | (refine runD Γ hm 400 (by kernel_rfl) ?_)); (conv => whnf)))))
    refine ⟨rfl, by omega, by omega, ?_⟩
    ((conv => whnf); repeat (first | (refine ⟨fun (h : false = true) => (Bool.false_ne_true h).elim, fun _ => ?_⟩; ((first | (refine run Γ hm 400 ?_) | (refine runD Γ hm 400 (by kernel_rfl) ?_)); (conv => whnf))) | (refine ⟨fun _ => ?_, fun (h : true = false) => (Bool.false_ne_true h.symm).elim⟩; ((first | (refine run Γ hm 400 ?_) | (refine runD Γ hm 400 (by kernel_rfl) ?_)); (conv => whnf)))))
    refine callC (hf j hj2) rfl rfl rfl (by simp only [hin]; rfl) rfl rfl ?_
    (((first | (refine run Γ hm 400 ?_) | (refine runD Γ hm 400 (by kernel_rfl) ?_)); (conv => whnf)); repeat (first | (refine ⟨fun (h : false = true) => (Bool.false_ne_true h).elim, fun _ => ?_⟩; ((first | (refine run Γ hm 400 ?_) | (refine runD Γ hm 400 (by kernel_rfl) ?_)); (conv => whnf))) | (refine ⟨fun _ => ?_, fun (h : true = false) => (Bool.false_ne_true h.symm).elim⟩; ((first | (refine run Γ hm 400 ?_) | (refine runD Γ hm 400 (by kernel_rfl) ?_)); (conv => whnf)))))
    refine ⟨fun h2 => ?_, fun h2 => ?_⟩
    · (((first | (refine run Γ hm 400 ?_) | (refine runD Γ hm 400 (by kernel_rfl) ?_)); (conv => whnf)); repeat (first | (refine ⟨fun (h : false = true) => (Bool.false_ne_true h).elim, fun _ => ?_⟩; ((first | (refine run Γ hm 400 ?_) | (refine runD Γ hm 400 (by kernel_rfl) ?_)); (conv => whnf))) | (refine ⟨fun _ => ?_, fun (h : true = false) => (Bool.false_ne_true h.symm).elim⟩; ((first | (refine run Γ hm 400 ?_) | (refine runD Γ hm 400 (by kernel_rfl) ?_)); (conv => whnf)))))
      refine done0 rfl (.cons .tmp .nil) (congrArg boolSV ?_) rfl
      exact allB_false hj2 (by simpa using h2)
    · (((first | (refine run Γ hm 400 ?_) | (refine runD Γ hm 400 (by kernel_rfl) ?_)); (conv => whnf)); repeat (first | (refine ⟨fun (h : false = true) => (Bool.false_ne_true h).elim, fun _ => ?_⟩; ((first | (refine run Γ hm 400 ?_) | (refine runD Γ hm 400 (by kernel_rfl) ?_)); (conv => whnf))) | (refine ⟨fun _ => ?_, fun (h : true = false) => (Bool.false_ne_true h.symm).elim⟩; ((first | (refine run Γ hm 400 ?_) | (refine runD Γ hm 400 (by kernel_rfl) ?_)); (conv => whnf)))))
      refine ⟨by unfold I64; omega, ?_⟩
      ((conv => whnf); repeat (first | (refine ⟨fun (h : false = true) => (Bool.false_ne_true h).elim, fun _ => ?_⟩; ((first | (refine run Γ hm 400 ?_) | (refine runD Γ hm 400 (by kernel_rfl) ?_)); (conv => whnf))) | (refine ⟨fun _ => ?_, fun (h : true = false) => (Bool.false_ne_true h.symm).elim⟩; ((first | (refine run Γ hm 400 ?_) | (refine runD Γ hm 400 (by kernel_rfl) ?_)); (conv => whnf)))))
      exact G_nextP [] hI hj2 (upto_next hI hj2 (by simpa using h2)) ⟨⟨rfl, rfl, ren_id _, hc, rfl, rfl, rfl, rfl, rfl, rfl, trivial⟩, trivial, rfl, rfl⟩
  · have h := of_decide_eq_false h
    (((first | (refine run Γ hm 400 ?_) | (refine runD Γ hm 400 (by kernel_rfl) ?_)); (conv => whnf)); repeat (first | (refine ⟨fun (h : false = true) => (Bool.false_ne_true h).elim, fun _ => ?_⟩; ((first | (refine run Γ hm 400 ?_) | (refine runD Γ hm 400 (by kernel_rfl) ?_)); (conv => whnf))) | (refine ⟨fun _ => ?_, fun (h : true = false) => (Bool.false_ne_true h.symm).elim⟩; ((first | (refine run Γ hm 400 ?_) | (refine runD Γ hm 400 (by kernel_rfl) ?_)); (conv => whnf)))))
    refine done0 rfl (.cons .tmp .nil) (congrArg boolSV ?_) rfl
    exact upto_all hI (by omega)

theorem allS_int (l : List Int) (p : Nat → Int → Bool) (f : FuncId) (first cap : List SV) (hc : (SV.clo (.func f) first cap).inn [] = true) (hf : ∀ i (h : i < l.length), FunS Try.prog f (first ++ [intSV i, intSV l[i]] ++ cap) (boolSV (p i l[i]))) (hl : Short l) :
    Sy.Spec Try.prog 56 [.sl 1 intSV l, .clo (.func f) first cap] [] (boolSV (allB p l)) [] := contract Γ hm 100 F56 Try.ntmps56 rfl fun F hF => by
  unfold Short at hl
  have hin : ∀ (i : Nat) (x : Int), innL [] (first ++ [intSV i, intSV x] ++ cap) = true := fun i x => clo_inn hc rfl
  ((conv => whnf); repeat (first | (refine ⟨fun (h : false = true) => (Bool.false_ne_true h).elim, fun _ => ?_⟩; ((first | (refine run Γ hm 400 ?_) | (refine runD Γ hm 400 (by kernel_rfl) ?_)); (conv => whnf))) | (refine ⟨fun _ => ?_, fun (h : true = false) => (Bool.false_ne_true h.symm).elim⟩; ((first | (refine run Γ hm 400 ?_) | (refine runD Γ hm 400 (by kernel_rfl) ?_)); (conv => whnf)))))
  refine G_countP l.length (fun j => Upto p l j) (fun j => [(0, .sl 1 intSV l), (1, .clo (.func f) first cap), (7, .sl 1 intSV l), (8, intSV l.length), (9, intSV j)]) (fun _ => []) [] (upto_zero _ _) ⟨⟨rfl, rfl, ren_id _, hc, rfl, rfl, rfl, rfl, rfl, rfl, trivial⟩, trivial, rfl, rfl⟩ ?_
  intro j hj hI
  (((first | (refine run Γ hm 400 ?_) | (refine runD Γ hm 400 (by kernel_rfl) ?_)); (conv => whnf)); repeat (first | (refine ⟨fun (h : false = true) => (Bool.false_ne_true h).elim, fun _ => ?_⟩; ((first | (refine run Γ hm 400 ?_) | (refine runD Γ hm 400 (by kernel_rfl) ?_)); (conv => whnf))) | (refine ⟨fun _ => ?_, fun (h : true = false) => (Bool.false_ne_true h.symm).elim⟩; ((first | (refine run Γ hm 400 ?_) | (refine runD Γ hm 400 (by kernel_rfl) ?_)); (conv => whnf)))))
  refine ⟨fun h => ?_, fun h => ?_⟩
  · have h := of_decide_eq_true h
    have hj2 : j < l.length := by omega
    (((first | (refine run Γ hm 400 ?_) | (refine runD Γ hm 400 (by kernel_rfl) ?_)); (conv => whnf)); repeat (first | (refine ⟨fun (h : false = true) => (Bool.false_ne_true h).elim, fun _ => ?_⟩; ((first | (refine run Γ hm 400 ?_) | (refine runD Γ hm 400 (by kernel_rfl) ?_)); (conv => whnf))) | (refine ⟨fun _ => ?_, fun (h : true = false) => (Bool.false_ne_true h.symm).elim⟩; ((first | (refine run Γ hm 400 ?_) | (refine runD Γ hm 400 (by kernel_rfl) ?_)); (conv => whnf)))))
    refine ⟨rfl, by omega, by omega, ?_⟩
    ((conv => whnf); repeat (first | (refine ⟨fun (h : false = true) => (Bool.false_ne_true h).elim, fun _ => ?_⟩; ((first | (refine run Γ hm 400 ?_) | (refine runD Γ hm 400 (by kernel_rfl) ?_)); (conv => whnf))) | (refine ⟨fun _ => ?_, fun (h : true = false) => (Bool.false_ne_true h.symm).elim⟩; ((first | (refine run Γ hm 400 ?_) | (refine runD Γ hm 400 (by kernel_rfl) ?_)); (conv => whnf)))))
    refine callC (hf j hj2) rfl rfl rfl (by simp only [hin]; rfl) rfl rfl ?_
    (((first | (refine run Γ hm 400 ?_) | (refine runD Γ hm 400 (by kernel_rfl) ?_)); (conv => whnf)); repeat (first | (refine ⟨fun (h : false = true) => (Bool.false_ne_true h).elim, fun _ => ?_⟩; ((first | (refine run Γ hm 400 ?_) | (refine runD Γ hm 400 (by kernel_rfl) ?_)); (conv => whnf))) | (refine ⟨fun _ => ?_, fun (h : true = false) => (Bool.false_ne_true h.symm).elim⟩; ((first | (refine run Γ hm 400 ?_) | (refine runD Γ hm 400 (by kernel_rfl) ?_)); (conv => whnf)))))
    refine ⟨fun h2 => ?_, fun h2 => ?_⟩
    · (((first | (refine run Γ hm 400 ?_) | (refine runD Γ hm 400 (by kernel_rfl) ?_)); (conv => whnf)); repeat (first | (refine ⟨fun (h : false = true) => (Bool.false_ne_true h).elim, fun _ => ?_⟩; ((first | (refine run Γ hm 400 ?_) | (refine runD Γ hm 400 (by kernel_rfl) ?_)); (conv => whnf))) | (refine ⟨fun _ => ?_, fun (h : true = false) => (Bool.false_ne_true h.symm).elim⟩; ((first | (refine run Γ hm 400 ?_) | (refine runD Γ hm 400 (by kernel_rfl) ?_)); (conv => whnf)))))
      refine done0 rfl (.cons .tmp .nil) (congrArg boolSV ?_) rfl
      exact allB_false hj2 (by simpa using h2)
    · (((first | (refine run Γ hm 400 ?_) | (refine runD Γ hm 400 (by kernel_rfl) ?_)); (conv => whnf)); repeat (first | (refine ⟨fun (h : false = true) => (Bool.false_ne_true h).elim, fun _ => ?_⟩; ((first | (refine run Γ hm 400 ?_) | (refine runD Γ hm 400 (by kernel_rfl) ?_)); (conv => whnf))) | (refine ⟨fun _ => ?_, fun (h : true = false) => (Bool.false_ne_true h.symm).elim⟩; ((first | (refine run Γ hm 400 ?_) | (refine runD Γ hm 400 (by kernel_rfl) ?_)); (conv => whnf)))))
      refine ⟨by unfold I64; omega, ?_⟩
      ((conv => whnf); repeat (first | (refine ⟨fun (h : false = true) => (Bool.false_ne_true h).elim, fun _ => ?_⟩; ((first | (refine run Γ hm 400 ?_) | (refine runD Γ hm 400 (by kernel_rfl) ?_)); (conv => whnf))) | (refine ⟨fun _ => ?_, fun (h : true = false) => (Bool.false_ne_true h.symm).elim⟩; ((first | (refine run Γ hm 400 ?_) | (refine runD Γ hm 400 (by kernel_rfl) ?_)); (conv => whnf)))))
      exact G_nextP [] hI hj2 (upto_next hI hj2 (by simpa using h2)) ⟨⟨rfl, rfl, ren_id _, hc, rfl, rfl, rfl, rfl, rfl, rfl, trivial⟩, trivial, rfl, rfl⟩
  · have h := of_decide_eq_false h
    (((first | (refine run Γ hm 400 ?_) | (refine runD Γ hm 400 (by kernel_rfl) ?_)); (conv => whnf)); repeat (first | (refine ⟨fun (h : false = true) => (Bool.false_ne_true h).elim, fun _ => ?_⟩; ((first | (refine run Γ hm 400 ?_) | (refine runD Γ hm 400 (by kernel_rfl) ?_)); (conv => whnf))) | (refine ⟨fun _ => ?_, fun (h : true = false) => (Bool.false_ne_true h.symm).elim⟩; ((first | (refine run Γ hm 400 ?_) | (refine runD Γ hm 400 (by kernel_rfl) ?_)); (conv => whnf)))))
    refine done0 rfl (.cons .tmp .nil) (congrArg boolSV ?_) rfl
    exact upto_all hI (by omega)

end Go.Sy.Ytgfgbdbklikckaa
