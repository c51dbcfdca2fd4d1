/-
  Ty N1 N2 N3 N4 N5 N6 N7 N8 N9 N10 N11 V1 I5 Sy25 Sy26 Sy27 Sy28 Sh E1 E2 A2 E3 E4 Sy29 B0 D1 E36 E37 E5 E6: parts of a proof, joined by program.
-/
import Derived.Test.YtjenpnjajjplkaaGreatDoorXP2
import Derived.Test.YtjenpnjajjplkaaGreatDoorProg
import Derived.Test.YtjenpnjajjplkaaGreatDoorXP1
import Derived.ChangeKeysEq
import Derived.Below
import Derived.Lib.Join
import Derived.Shelf.Strings.OnBuilder
import Derived.Shelf.Small.Strs
import Derived.Shelf.Strings.Search1
import Derived.Shelf.Strings.Search2
import Derived.Shelf.Strings.Search3
import Derived.Shelf.Strings.Cut
import Derived.Shelf.Strings.Count
import Derived.Shelf.Strings.Prefix
set_option linter.all false
set_option linter.unusedVariables false
set_option linter.unusedSimpArgs false
set_option linter.deprecated false
namespace Go.Sy.YtjenpnjajjplkaaGreatDoor
open Go.Proofs
set_option maxRecDepth 100000
theorem ty1:Bf Tryz.prog 1=some ⟨.func,1,[.nilFunc]⟩:=by kernel_rfl
theorem ty2:Bf Tryz.prog 2=some ⟨.int .i64,1,[.int .i64 0]⟩:=by kernel_rfl
theorem ty3:Bf Tryz.prog 3=some ⟨.int .i64,1,[.int .i64 0]⟩:=by kernel_rfl
theorem ty4:Bf Tryz.prog 4=some ⟨.bool,1,[.bool false]⟩:=by kernel_rfl
theorem ty5:Bf Tryz.prog 5=some ⟨.int .u8,1,[.int .u8 0]⟩:=by kernel_rfl
theorem ty9:Bf Tryz.prog 9=some ⟨.string,1,[.string .empty]⟩:=by kernel_rfl
theorem ty22:Bf Tryz.prog 22=some ⟨.slice 66 17 240 [.int .i64 0,.int .i64 0,.string .empty,.string .empty,.string .empty,.string .empty,.string .empty,.int .u64 0,.int .u32 0,.int .i64 0,.int .i64 0,.int .i64 0,.int .i64 0,.slice none 0 0,.slice none 0 0,.slice none 0 0,.slice none 0 0],1,[.slice none 0 0]⟩:=by kernel_rfl
theorem ty23:Bf Tryz.prog 23=some ⟨.slice 30 6 80 [.int .i64 0,.int .i64 0,.int .i64 0,.int .i64 0,.slice none 0 0,.slice none 0 0],1,[.slice none 0 0]⟩:=by kernel_rfl
theorem ty24:Bf Tryz.prog 24=some ⟨.slice 5 1 1 [.int .u8 0],1,[.slice none 0 0]⟩:=by kernel_rfl
theorem ty25:Bf Tryz.prog 25=some ⟨.func,1,[.nilFunc]⟩:=by kernel_rfl
theorem ty28:Bf Tryz.prog 28=some ⟨.slice 4 1 1 [.bool false],1,[.slice none 0 0]⟩:=by kernel_rfl
theorem ty30:Bf Tryz.prog 30=some ⟨.struct [(0,1),(1,1),(2,1),(3,1),(4,1),(5,1)],6,[.int .i64 0,.int .i64 0,.int .i64 0,.int .i64 0,.slice none 0 0,.slice none 0 0]⟩:=by kernel_rfl
theorem ty31:Bf Tryz.prog 31=some ⟨.slice 80 5 48 [.int .i64 0,.int .i64 0,.string .empty,.int .u64 0,.int .u32 0],1,[.slice none 0 0]⟩:=by kernel_rfl
theorem ty32:Bf Tryz.prog 32=some ⟨.slice 82 7 80 [.int .i64 0,.int .i64 0,.int .i64 0,.int .i64 0,.int .i64 0,.string .empty,.slice none 0 0],1,[.slice none 0 0]⟩:=by kernel_rfl
theorem ty33:Bf Tryz.prog 33=some ⟨.slice 124 3 24 [.int .i64 0,.int .i64 0,.int .i64 0],1,[.slice none 0 0]⟩:=by kernel_rfl
theorem ty34:Bf Tryz.prog 34=some ⟨.slice 84 6 64 [.int .i64 0,.int .i64 0,.int .i64 0,.int .i64 0,.int .i64 0,.slice none 0 0],1,[.slice none 0 0]⟩:=by kernel_rfl
theorem ty35:Bf Tryz.prog 35=some ⟨.slice 127 4 32 [.int .i64 0,.int .i64 0,.int .i64 0,.int .u64 0],1,[.slice none 0 0]⟩:=by kernel_rfl
theorem ty36:Bf Tryz.prog 36=some ⟨.slice 113 4 48 [.int .i64 0,.int .i64 0,.int .i64 0,.slice none 0 0],1,[.slice none 0 0]⟩:=by kernel_rfl
theorem ty37:Bf Tryz.prog 37=some ⟨.slice 116 5 80 [.int .i64 0,.int .i64 0,.string .empty,.slice none 0 0,.slice none 0 0],1,[.slice none 0 0]⟩:=by kernel_rfl
theorem ty38:Bf Tryz.prog 38=some ⟨.slice 132 5 40 [.int .i64 0,.int .i64 0,.int .i64 0,.int .u32 0,.int .i64 0],1,[.slice none 0 0]⟩:=by kernel_rfl
theorem ty40:Bf Tryz.prog 40=some ⟨.struct [(0,1),(1,1),(2,1),(3,1),(4,1),(5,1),(6,1),(7,1)],8,[.slice none 0 0,.slice none 0 0,.slice none 0 0,.slice none 0 0,.slice none 0 0,.slice none 0 0,.slice none 0 0,.slice none 0 0]⟩:=by kernel_rfl
theorem ty41:Bf Tryz.prog 41=some ⟨.int .i64,1,[.int .i64 0]⟩:=by kernel_rfl
theorem ty61:Bf Tryz.prog 61=some ⟨.int .u64,1,[.int .u64 0]⟩:=by kernel_rfl
theorem ty62:Bf Tryz.prog 62=some ⟨.int .u32,1,[.int .u32 0]⟩:=by kernel_rfl
theorem ty63:Bf Tryz.prog 63=some ⟨.slice 3 1 8 [.int .i64 0],1,[.slice none 0 0]⟩:=by kernel_rfl
theorem ty64:Bf Tryz.prog 64=some ⟨.slice 62 1 4 [.int .u32 0],1,[.slice none 0 0]⟩:=by kernel_rfl
theorem ty66:Bf Tryz.prog 66=some ⟨.struct [(0,1),(1,1),(2,1),(3,1),(4,1),(5,1),(6,1),(7,1),(8,1),(9,1),(10,1),(11,1),(12,1),(13,1),(14,1),(15,1),(16,1)],17,[.int .i64 0,.int .i64 0,.string .empty,.string .empty,.string .empty,.string .empty,.string .empty,.int .u64 0,.int .u32 0,.int .i64 0,.int .i64 0,.int .i64 0,.int .i64 0,.slice none 0 0,.slice none 0 0,.slice none 0 0,.slice none 0 0]⟩:=by kernel_rfl
theorem ty68:Bf Tryz.prog 68=some ⟨.slice 9 1 16 [.string .empty],1,[.slice none 0 0]⟩:=by kernel_rfl
theorem ty80:Bf Tryz.prog 80=some ⟨.struct [(0,1),(1,1),(2,1),(3,1),(4,1)],5,[.int .i64 0,.int .i64 0,.string .empty,.int .u64 0,.int .u32 0]⟩:=by kernel_rfl
theorem ty82:Bf Tryz.prog 82=some ⟨.struct [(0,1),(1,1),(2,1),(3,1),(4,1),(5,1),(6,1)],7,[.int .i64 0,.int .i64 0,.int .i64 0,.int .i64 0,.int .i64 0,.string .empty,.slice none 0 0]⟩:=by kernel_rfl
theorem ty84:Bf Tryz.prog 84=some ⟨.struct [(0,1),(1,1),(2,1),(3,1),(4,1),(5,1)],6,[.int .i64 0,.int .i64 0,.int .i64 0,.int .i64 0,.int .i64 0,.slice none 0 0]⟩:=by kernel_rfl
theorem ty85:Bf Tryz.prog 85=some ⟨.ptr,1,[.pointer none]⟩:=by kernel_rfl
theorem ty90:Bf Tryz.prog 90=some ⟨.struct [(0,0),(0,1)],1,[.int .u32 0]⟩:=by kernel_rfl
theorem ty94:Bf Tryz.prog 94=some ⟨.struct [(0,0),(0,2)],2,[.int .i32 0,.int .u32 0]⟩:=by kernel_rfl
theorem ty96:Bf Tryz.prog 96=some ⟨.struct [(0,0),(0,1),(1,2)],3,[.int .u32 0,.int .i32 0,.int .u32 0]⟩:=by kernel_rfl
theorem ty98:Bf Tryz.prog 98=some ⟨.struct [(0,3),(3,1),(4,8),(12,1),(13,1)],14,[.int .u32 0,.int .i32 0,.int .u32 0,.slice none 0 0,.slice none 0 0,.slice none 0 0,.slice none 0 0,.slice none 0 0,.slice none 0 0,.slice none 0 0,.slice none 0 0,.slice none 0 0,.int .i64 0,.int .i64 0]⟩:=by kernel_rfl
theorem ty102:Bf Tryz.prog 102=some ⟨.struct [(0,8)],8,[.slice none 0 0,.slice none 0 0,.slice none 0 0,.slice none 0 0,.slice none 0 0,.slice none 0 0,.slice none 0 0,.slice none 0 0]⟩:=by kernel_rfl
theorem ty113:Bf Tryz.prog 113=some ⟨.struct [(0,1),(1,1),(2,1),(3,1)],4,[.int .i64 0,.int .i64 0,.int .i64 0,.slice none 0 0]⟩:=by kernel_rfl
theorem ty116:Bf Tryz.prog 116=some ⟨.struct [(0,1),(1,1),(2,1),(3,1),(4,1)],5,[.int .i64 0,.int .i64 0,.string .empty,.slice none 0 0,.slice none 0 0]⟩:=by kernel_rfl
theorem ty124:Bf Tryz.prog 124=some ⟨.struct [(0,1),(1,1),(2,1)],3,[.int .i64 0,.int .i64 0,.int .i64 0]⟩:=by kernel_rfl
theorem ty127:Bf Tryz.prog 127=some ⟨.struct [(0,1),(1,1),(2,1),(3,1)],4,[.int .i64 0,.int .i64 0,.int .i64 0,.int .u64 0]⟩:=by kernel_rfl
theorem ty130:Bf Tryz.prog 130=some ⟨.struct [(0,1),(1,1)],2,[.int .u32 0,.int .i64 0]⟩:=by kernel_rfl
theorem ty132:Bf Tryz.prog 132=some ⟨.struct [(0,1),(1,1),(2,1),(3,2)],5,[.int .i64 0,.int .i64 0,.int .i64 0,.int .u32 0,.int .i64 0]⟩:=by kernel_rfl
theorem ty145:Bf Tryz.prog 145=some ⟨.slice 3 1 8 [.int .i64 0],1,[.slice none 0 0]⟩:=by kernel_rfl
theorem ty149:Bf Tryz.prog 149=some ⟨.func,1,[.nilFunc]⟩:=by kernel_rfl
theorem ty151:Bf Tryz.prog 151=some ⟨.struct [(0,8)],8,[.slice none 0 0,.slice none 0 0,.slice none 0 0,.slice none 0 0,.slice none 0 0,.slice none 0 0,.slice none 0 0,.slice none 0 0]⟩:=by kernel_rfl
theorem ty153:Bf Tryz.prog 153=some ⟨.func,1,[.nilFunc]⟩:=by kernel_rfl
theorem ty155:Bf Tryz.prog 155=some ⟨.func,1,[.nilFunc]⟩:=by kernel_rfl
theorem ty157:Bf Tryz.prog 157=some ⟨.func,1,[.nilFunc]⟩:=by kernel_rfl
theorem ty159:Bf Tryz.prog 159=some ⟨.func,1,[.nilFunc]⟩:=by kernel_rfl
theorem ty162:Bf Tryz.prog 162=some ⟨.func,1,[.nilFunc]⟩:=by kernel_rfl
theorem ty165:Bf Tryz.prog 165=some ⟨.func,1,[.nilFunc]⟩:=by kernel_rfl
theorem ty167:Bf Tryz.prog 167=some ⟨.func,1,[.nilFunc]⟩:=by kernel_rfl
theorem ty201:Bf Tryz.prog 201=some ⟨.array 9 6 1,6,[.string .empty,.string .empty,.string .empty,.string .empty,.string .empty,.string .empty]⟩:=by kernel_rfl
theorem ty207:Bf Tryz.prog 207=some ⟨.array 3 6 1,6,[.int .i64 0,.int .i64 0,.int .i64 0,.int .i64 0,.int .i64 0,.int .i64 0]⟩:=by kernel_rfl
theorem ty209:Bf Tryz.prog 209=some ⟨.func,1,[.nilFunc]⟩:=by kernel_rfl
theorem ty239:Bf Tryz.prog 239=some ⟨.func,1,[.nilFunc]⟩:=by kernel_rfl
theorem ty241:Bf Tryz.prog 241=some ⟨.func,1,[.nilFunc]⟩:=by kernel_rfl
theorem ty243:Bf Tryz.prog 243=some ⟨.func,1,[.nilFunc]⟩:=by kernel_rfl
theorem ty272:Bf Tryz.prog 272=some ⟨.ptr,1,[.pointer none]⟩:=by kernel_rfl
theorem ty275:Bf Tryz.prog 275=some ⟨.int .u64,1,[.int .u64 0]⟩:=by kernel_rfl
theorem ty313:Bf Tryz.prog 313=some ⟨.struct [(0,1),(1,1)],2,[.pointer none,.slice none 0 0]⟩:=by kernel_rfl
theorem ty323:Bf Tryz.prog 323=some ⟨.func,1,[.nilFunc]⟩:=by kernel_rfl
theorem ty333:Bf Tryz.prog 333=some ⟨.ptr,1,[.pointer none]⟩:=by kernel_rfl
theorem ty335:Bf Tryz.prog 335=some ⟨.ptr,1,[.pointer none]⟩:=by kernel_rfl
theorem ty362:Bf Tryz.prog 362=some ⟨.ptr,1,[.pointer none]⟩:=by kernel_rfl
theorem ty366:Bf Tryz.prog 366=some ⟨.struct [(0,8)],8,[.slice none 0 0,.slice none 0 0,.slice none 0 0,.slice none 0 0,.slice none 0 0,.slice none 0 0,.slice none 0 0,.slice none 0 0]⟩:=by kernel_rfl
theorem ty369:Bf Tryz.prog 369=some ⟨.array 3 2 1,2,[.int .i64 0,.int .i64 0]⟩:=by kernel_rfl
theorem ty400:Bf Tryz.prog 400=some ⟨.func,1,[.nilFunc]⟩:=by kernel_rfl
theorem ty402:Bf Tryz.prog 402=some ⟨.func,1,[.nilFunc]⟩:=by kernel_rfl
theorem tq80:Tu Tryz.prog 80=some [.int .i64,.int .i64,.string,.int .u64,.int .u32]:=by kernel_rfl
theorem tq124:Tu Tryz.prog 124=some [.int .i64,.int .i64,.int .i64]:=by kernel_rfl
theorem tq127:Tu Tryz.prog 127=some [.int .i64,.int .i64,.int .i64,.int .u64]:=by kernel_rfl
theorem tq130:Tu Tryz.prog 130=some [.int .u32,.int .i64]:=by kernel_rfl
def tab:Tr TI:=(.nd 98 (⟨.struct [(0,3),(3,1),(4,8),(12,1),(13,1)],14,[.int .u32 0,.int .i32 0,.int .u32 0,.slice none 0 0,.slice none 0 0,.slice none 0 0,.slice none 0 0,.slice none 0 0,.slice none 0 0,.slice none 0 0,.slice none 0 0,.slice none 0 0,.int .i64 0,.int .i64 0]⟩) (.nd 36 (⟨.slice 113 4 48 [.int .i64 0,.int .i64 0,.int .i64 0,.slice none 0 0],1,[.slice none 0 0]⟩) (.nd 24 (⟨.slice 5 1 1 [.int .u8 0],1,[.slice none 0 0]⟩) (.nd 5 (⟨.int .u8,1,[.int .u8 0]⟩) (.nd 3 (⟨.int .i64,1,[.int .i64 0]⟩) (.nd 2 (⟨.int .i64,1,[.int .i64 0]⟩) (.nd 1 (⟨.func,1,[.nilFunc]⟩) .lf .lf) .lf) (.nd 4 (⟨.bool,1,[.bool false]⟩) .lf .lf)) (.nd 22 (⟨.slice 66 17 240 [.int .i64 0,.int .i64 0,.string .empty,.string .empty,.string .empty,.string .empty,.string .empty,.int .u64 0,.int .u32 0,.int .i64 0,.int .i64 0,.int .i64 0,.int .i64 0,.slice none 0 0,.slice none 0 0,.slice none 0 0,.slice none 0 0],1,[.slice none 0 0]⟩) (.nd 9 (⟨.string,1,[.string .empty]⟩) .lf .lf) (.nd 23 (⟨.slice 30 6 80 [.int .i64 0,.int .i64 0,.int .i64 0,.int .i64 0,.slice none 0 0,.slice none 0 0],1,[.slice none 0 0]⟩) .lf .lf))) (.nd 32 (⟨.slice 82 7 80 [.int .i64 0,.int .i64 0,.int .i64 0,.int .i64 0,.int .i64 0,.string .empty,.slice none 0 0],1,[.slice none 0 0]⟩) (.nd 30 (⟨.struct [(0,1),(1,1),(2,1),(3,1),(4,1),(5,1)],6,[.int .i64 0,.int .i64 0,.int .i64 0,.int .i64 0,.slice none 0 0,.slice none 0 0]⟩) (.nd 28 (⟨.slice 4 1 1 [.bool false],1,[.slice none 0 0]⟩) (.nd 25 (⟨.func,1,[.nilFunc]⟩) .lf .lf) .lf) (.nd 31 (⟨.slice 80 5 48 [.int .i64 0,.int .i64 0,.string .empty,.int .u64 0,.int .u32 0],1,[.slice none 0 0]⟩) .lf .lf)) (.nd 34 (⟨.slice 84 6 64 [.int .i64 0,.int .i64 0,.int .i64 0,.int .i64 0,.int .i64 0,.slice none 0 0],1,[.slice none 0 0]⟩) (.nd 33 (⟨.slice 124 3 24 [.int .i64 0,.int .i64 0,.int .i64 0],1,[.slice none 0 0]⟩) .lf .lf) (.nd 35 (⟨.slice 127 4 32 [.int .i64 0,.int .i64 0,.int .i64 0,.int .u64 0],1,[.slice none 0 0]⟩) .lf .lf)))) (.nd 66 (⟨.struct [(0,1),(1,1),(2,1),(3,1),(4,1),(5,1),(6,1),(7,1),(8,1),(9,1),(10,1),(11,1),(12,1),(13,1),(14,1),(15,1),(16,1)],17,[.int .i64 0,.int .i64 0,.string .empty,.string .empty,.string .empty,.string .empty,.string .empty,.int .u64 0,.int .u32 0,.int .i64 0,.int .i64 0,.int .i64 0,.int .i64 0,.slice none 0 0,.slice none 0 0,.slice none 0 0,.slice none 0 0]⟩) (.nd 61 (⟨.int .u64,1,[.int .u64 0]⟩) (.nd 40 (⟨.struct [(0,1),(1,1),(2,1),(3,1),(4,1),(5,1),(6,1),(7,1)],8,[.slice none 0 0,.slice none 0 0,.slice none 0 0,.slice none 0 0,.slice none 0 0,.slice none 0 0,.slice none 0 0,.slice none 0 0]⟩) (.nd 38 (⟨.slice 132 5 40 [.int .i64 0,.int .i64 0,.int .i64 0,.int .u32 0,.int .i64 0],1,[.slice none 0 0]⟩) (.nd 37 (⟨.slice 116 5 80 [.int .i64 0,.int .i64 0,.string .empty,.slice none 0 0,.slice none 0 0],1,[.slice none 0 0]⟩) .lf .lf) .lf) (.nd 41 (⟨.int .i64,1,[.int .i64 0]⟩) .lf .lf)) (.nd 63 (⟨.slice 3 1 8 [.int .i64 0],1,[.slice none 0 0]⟩) (.nd 62 (⟨.int .u32,1,[.int .u32 0]⟩) .lf .lf) (.nd 64 (⟨.slice 62 1 4 [.int .u32 0],1,[.slice none 0 0]⟩) .lf .lf))) (.nd 85 (⟨.ptr,1,[.pointer none]⟩) (.nd 82 (⟨.struct [(0,1),(1,1),(2,1),(3,1),(4,1),(5,1),(6,1)],7,[.int .i64 0,.int .i64 0,.int .i64 0,.int .i64 0,.int .i64 0,.string .empty,.slice none 0 0]⟩) (.nd 80 (⟨.struct [(0,1),(1,1),(2,1),(3,1),(4,1)],5,[.int .i64 0,.int .i64 0,.string .empty,.int .u64 0,.int .u32 0]⟩) (.nd 68 (⟨.slice 9 1 16 [.string .empty],1,[.slice none 0 0]⟩) .lf .lf) .lf) (.nd 84 (⟨.struct [(0,1),(1,1),(2,1),(3,1),(4,1),(5,1)],6,[.int .i64 0,.int .i64 0,.int .i64 0,.int .i64 0,.int .i64 0,.slice none 0 0]⟩) .lf .lf)) (.nd 94 (⟨.struct [(0,0),(0,2)],2,[.int .i32 0,.int .u32 0]⟩) (.nd 90 (⟨.struct [(0,0),(0,1)],1,[.int .u32 0]⟩) .lf .lf) (.nd 96 (⟨.struct [(0,0),(0,1),(1,2)],3,[.int .u32 0,.int .i32 0,.int .u32 0]⟩) .lf .lf))))) (.nd 201 (⟨.array 9 6 1,6,[.string .empty,.string .empty,.string .empty,.string .empty,.string .empty,.string .empty]⟩) (.nd 149 (⟨.func,1,[.nilFunc]⟩) (.nd 127 (⟨.struct [(0,1),(1,1),(2,1),(3,1)],4,[.int .i64 0,.int .i64 0,.int .i64 0,.int .u64 0]⟩) (.nd 116 (⟨.struct [(0,1),(1,1),(2,1),(3,1),(4,1)],5,[.int .i64 0,.int .i64 0,.string .empty,.slice none 0 0,.slice none 0 0]⟩) (.nd 113 (⟨.struct [(0,1),(1,1),(2,1),(3,1)],4,[.int .i64 0,.int .i64 0,.int .i64 0,.slice none 0 0]⟩) (.nd 102 (⟨.struct [(0,8)],8,[.slice none 0 0,.slice none 0 0,.slice none 0 0,.slice none 0 0,.slice none 0 0,.slice none 0 0,.slice none 0 0,.slice none 0 0]⟩) .lf .lf) .lf) (.nd 124 (⟨.struct [(0,1),(1,1),(2,1)],3,[.int .i64 0,.int .i64 0,.int .i64 0]⟩) .lf .lf)) (.nd 132 (⟨.struct [(0,1),(1,1),(2,1),(3,2)],5,[.int .i64 0,.int .i64 0,.int .i64 0,.int .u32 0,.int .i64 0]⟩) (.nd 130 (⟨.struct [(0,1),(1,1)],2,[.int .u32 0,.int .i64 0]⟩) .lf .lf) (.nd 145 (⟨.slice 3 1 8 [.int .i64 0],1,[.slice none 0 0]⟩) .lf .lf))) (.nd 159 (⟨.func,1,[.nilFunc]⟩) (.nd 155 (⟨.func,1,[.nilFunc]⟩) (.nd 153 (⟨.func,1,[.nilFunc]⟩) (.nd 151 (⟨.struct [(0,8)],8,[.slice none 0 0,.slice none 0 0,.slice none 0 0,.slice none 0 0,.slice none 0 0,.slice none 0 0,.slice none 0 0,.slice none 0 0]⟩) .lf .lf) .lf) (.nd 157 (⟨.func,1,[.nilFunc]⟩) .lf .lf)) (.nd 165 (⟨.func,1,[.nilFunc]⟩) (.nd 162 (⟨.func,1,[.nilFunc]⟩) .lf .lf) (.nd 167 (⟨.func,1,[.nilFunc]⟩) .lf .lf)))) (.nd 323 (⟨.func,1,[.nilFunc]⟩) (.nd 243 (⟨.func,1,[.nilFunc]⟩) (.nd 239 (⟨.func,1,[.nilFunc]⟩) (.nd 209 (⟨.func,1,[.nilFunc]⟩) (.nd 207 (⟨.array 3 6 1,6,[.int .i64 0,.int .i64 0,.int .i64 0,.int .i64 0,.int .i64 0,.int .i64 0]⟩) .lf .lf) .lf) (.nd 241 (⟨.func,1,[.nilFunc]⟩) .lf .lf)) (.nd 275 (⟨.int .u64,1,[.int .u64 0]⟩) (.nd 272 (⟨.ptr,1,[.pointer none]⟩) .lf .lf) (.nd 313 (⟨.struct [(0,1),(1,1)],2,[.pointer none,.slice none 0 0]⟩) .lf .lf))) (.nd 366 (⟨.struct [(0,8)],8,[.slice none 0 0,.slice none 0 0,.slice none 0 0,.slice none 0 0,.slice none 0 0,.slice none 0 0,.slice none 0 0,.slice none 0 0]⟩) (.nd 335 (⟨.ptr,1,[.pointer none]⟩) (.nd 333 (⟨.ptr,1,[.pointer none]⟩) .lf .lf) (.nd 362 (⟨.ptr,1,[.pointer none]⟩) .lf .lf)) (.nd 400 (⟨.func,1,[.nilFunc]⟩) (.nd 369 (⟨.array 3 2 1,2,[.int .i64 0,.int .i64 0]⟩) .lf .lf) (.nd 402 (⟨.func,1,[.nilFunc]⟩) .lf .lf))))))
def etab:Tr (List EK):=(.nd 127 ([.int .i64,.int .i64,.int .i64,.int .u64]) (.nd 124 ([.int .i64,.int .i64,.int .i64]) (.nd 80 ([.int .i64,.int .i64,.string,.int .u64,.int .u32]) .lf .lf) .lf) (.nd 130 ([.int .u32,.int .i64]) .lf .lf))
theorem tab_ok:tab.all (fun t i=>Bf Tryz.prog t=some i):=⟨ty98,⟨ty36,⟨ty24,⟨ty5,⟨ty3,⟨ty2,⟨ty1,trivial,trivial⟩,trivial⟩,⟨ty4,trivial,trivial⟩⟩,⟨ty22,⟨ty9,trivial,trivial⟩,⟨ty23,trivial,trivial⟩⟩⟩,⟨ty32,⟨ty30,⟨ty28,⟨ty25,trivial,trivial⟩,trivial⟩,⟨ty31,trivial,trivial⟩⟩,⟨ty34,⟨ty33,trivial,trivial⟩,⟨ty35,trivial,trivial⟩⟩⟩⟩,⟨ty66,⟨ty61,⟨ty40,⟨ty38,⟨ty37,trivial,trivial⟩,trivial⟩,⟨ty41,trivial,trivial⟩⟩,⟨ty63,⟨ty62,trivial,trivial⟩,⟨ty64,trivial,trivial⟩⟩⟩,⟨ty85,⟨ty82,⟨ty80,⟨ty68,trivial,trivial⟩,trivial⟩,⟨ty84,trivial,trivial⟩⟩,⟨ty94,⟨ty90,trivial,trivial⟩,⟨ty96,trivial,trivial⟩⟩⟩⟩⟩,⟨ty201,⟨ty149,⟨ty127,⟨ty116,⟨ty113,⟨ty102,trivial,trivial⟩,trivial⟩,⟨ty124,trivial,trivial⟩⟩,⟨ty132,⟨ty130,trivial,trivial⟩,⟨ty145,trivial,trivial⟩⟩⟩,⟨ty159,⟨ty155,⟨ty153,⟨ty151,trivial,trivial⟩,trivial⟩,⟨ty157,trivial,trivial⟩⟩,⟨ty165,⟨ty162,trivial,trivial⟩,⟨ty167,trivial,trivial⟩⟩⟩⟩,⟨ty323,⟨ty243,⟨ty239,⟨ty209,⟨ty207,trivial,trivial⟩,trivial⟩,⟨ty241,trivial,trivial⟩⟩,⟨ty275,⟨ty272,trivial,trivial⟩,⟨ty313,trivial,trivial⟩⟩⟩,⟨ty366,⟨ty335,⟨ty333,trivial,trivial⟩,⟨ty362,trivial,trivial⟩⟩,⟨ty400,⟨ty369,trivial,trivial⟩,⟨ty402,trivial,trivial⟩⟩⟩⟩⟩⟩
theorem Aiy:etab.all (fun t i=>Tu Tryz.prog t=some i):=⟨tq127,⟨tq124,⟨tq80,trivial,trivial⟩,trivial⟩,⟨tq130,trivial,trivial⟩⟩
def Γ:TyE Tryz.prog:=⟨⟨fun t=>tab.look t,fun _ _ h=>Ah6 (Tr.look_ok tab_ok h)⟩,fun t=>etab.look t,fun _ _ h=>Ahd (Tr.look_ok Aiy h)⟩
theorem hm:Tryz.prog.follows .mixedOrders=true:=by kernel_rfl
abbrev fT (i:Nat) (fn:Func):Prop:=Fun Tryz.prog i fn (T5 fn)
theorem fN {P : Program} {f : FuncId} {fn : Func} (h : P.funcs[f]? = some fn) (hb : fn.body = some (T5 fn) := by exact rfl) (hn : (fn.name == "runtime.NumGoroutine") = false := by kernel_rfl) : Fun P f fn (T5 fn) := ⟨h, hb, hn⟩
theorem cT {f:FuncId} {fn:Func} {c:Code} {A:List SV} {H:Obs} {R:SV} {H':Obs} (hF:Fun Tryz.prog f fn c) {n:Nat} (hn':fn.ntmps=n)
  (h:∀ (F:Fr) (hF:∀ k,F.k0 k≠.new→k∈H.keys),Ir ⟨Tryz.prog,Γ.toTy,F,n,Le Tryz.prog fn F R H',H.keys,hF⟩ Γ 100 [.code c] ⟨argσ A,mkh H⟩) (hn:Acx A n=true:=by exact rfl):Sy.Spec Tryz.prog f A H R H':=Ahk Γ hm 100 hF hn' hn h
theorem F3:fT 3 Tryz.f3:=fN Tryz.func3
theorem F10:fT 10 Tryz.f10:=fN Tryz.func10
theorem F11:fT 11 Tryz.f11:=fN Tryz.func11
theorem F12:fT 12 Tryz.f12:=fN Tryz.func12
theorem F13:fT 13 Tryz.f13:=fN Tryz.func13
theorem F14:fT 14 Tryz.f14:=fN Tryz.func14
theorem F15:fT 15 Tryz.f15:=fN Tryz.func15
theorem F16:fT 16 Tryz.f16:=fN Tryz.func16
theorem F23:fT 23 Tryz.f23:=fN Tryz.func23
theorem F24:fT 24 Tryz.f24:=fN Tryz.func24
theorem F25:fT 25 Tryz.f25:=fN Tryz.func25
theorem F33:fT 33 Tryz.f33:=fN Tryz.func33
theorem F34:fT 34 Tryz.f34:=fN Tryz.func34
theorem F35:fT 35 Tryz.f35:=fN Tryz.func35
theorem F36:fT 36 Tryz.f36:=fN Tryz.func36
theorem F37:fT 37 Tryz.f37:=fN Tryz.func37
theorem F52:fT 52 Tryz.f52:=fN Tryz.func52
theorem F57:fT 57 Tryz.f57:=fN Tryz.func57
theorem F60:fT 60 Tryz.f60:=fN Tryz.func60
theorem F61:fT 61 Tryz.f61:=fN Tryz.func61
theorem F62:fT 62 Tryz.f62:=fN Tryz.func62
theorem F63:fT 63 Tryz.f63:=fN Tryz.func63
theorem F64:fT 64 Tryz.f64:=fN Tryz.func64
theorem F65:fT 65 Tryz.f65:=fN Tryz.func65
theorem F66:fT 66 Tryz.f66:=fN Tryz.func66
theorem F67:fT 67 Tryz.f67:=fN Tryz.func67
theorem F68:fT 68 Tryz.f68:=fN Tryz.func68
theorem F69:fT 69 Tryz.f69:=fN Tryz.func69
theorem F70:fT 70 Tryz.f70:=fN Tryz.func70
theorem F71:fT 71 Tryz.f71:=fN Tryz.func71
theorem F72:fT 72 Tryz.f72:=fN Tryz.func72
theorem F73:fT 73 Tryz.f73:=fN Tryz.func73
theorem F74:fT 74 Tryz.f74:=fN Tryz.func74
theorem F75:fT 75 Tryz.f75:=fN Tryz.func75
theorem F76:fT 76 Tryz.f76:=fN Tryz.func76
theorem F77:fT 77 Tryz.f77:=fN Tryz.func77
theorem F78:fT 78 Tryz.f78:=fN Tryz.func78
theorem F79:fT 79 Tryz.f79:=fN Tryz.func79
theorem F80:fT 80 Tryz.f80:=fN Tryz.func80
theorem F81:fT 81 Tryz.f81:=fN Tryz.func81
theorem F82:fT 82 Tryz.f82:=fN Tryz.func82
theorem F83:fT 83 Tryz.f83:=fN Tryz.func83
theorem F84:fT 84 Tryz.f84:=fN Tryz.func84
theorem F85:fT 85 Tryz.f85:=fN Tryz.func85
theorem F86:fT 86 Tryz.f86:=fN Tryz.func86
theorem F90:fT 90 Tryz.f90:=fN Tryz.func90
theorem F92:fT 92 Tryz.f92:=fN Tryz.func92
theorem F100:fT 100 Tryz.f100:=fN Tryz.func100
theorem F111:fT 111 Tryz.f111:=fN Tryz.func111
theorem F112:fT 112 Tryz.f112:=fN Tryz.func112
theorem F113:fT 113 Tryz.f113:=fN Tryz.func113
theorem F114:fT 114 Tryz.f114:=fN Tryz.func114
theorem F115:fT 115 Tryz.f115:=fN Tryz.func115
theorem F116:fT 116 Tryz.f116:=fN Tryz.func116
theorem F117:fT 117 Tryz.f117:=fN Tryz.func117
theorem F118:fT 118 Tryz.f118:=fN Tryz.func118
theorem F119:fT 119 Tryz.f119:=fN Tryz.func119
theorem F120:fT 120 Tryz.f120:=fN Tryz.func120
theorem F121:fT 121 Tryz.f121:=fN Tryz.func121
theorem F122:fT 122 Tryz.f122:=fN Tryz.func122
theorem F123:fT 123 Tryz.f123:=fN Tryz.func123
theorem F124:fT 124 Tryz.f124:=fN Tryz.func124
theorem F125:fT 125 Tryz.f125:=fN Tryz.func125
theorem F150:fT 150 Tryz.f150:=fN Tryz.func150
theorem F151:fT 151 Tryz.f151:=fN Tryz.func151
theorem F152:fT 152 Tryz.f152:=fN Tryz.func152
theorem F153:fT 153 Tryz.f153:=fN Tryz.func153
theorem F154:fT 154 Tryz.f154:=fN Tryz.func154
theorem F155:fT 155 Tryz.f155:=fN Tryz.func155
theorem F156:fT 156 Tryz.f156:=fN Tryz.func156
theorem F157:fT 157 Tryz.f157:=fN Tryz.func157
theorem F158:fT 158 Tryz.f158:=fN Tryz.func158
theorem F159:fT 159 Tryz.f159:=fN Tryz.func159
theorem F160:fT 160 Tryz.f160:=fN Tryz.func160
theorem F161:fT 161 Tryz.f161:=fN Tryz.func161
theorem F162:fT 162 Tryz.f162:=fN Tryz.func162
theorem F163:fT 163 Tryz.f163:=fN Tryz.func163
theorem F164:fT 164 Tryz.f164:=fN Tryz.func164
theorem F165:fT 165 Tryz.f165:=fN Tryz.func165
theorem F166:fT 166 Tryz.f166:=fN Tryz.func166
theorem F167:fT 167 Tryz.f167:=fN Tryz.func167
theorem F168:fT 168 Tryz.f168:=fN Tryz.func168
theorem F169:fT 169 Tryz.f169:=fN Tryz.func169
theorem F170:fT 170 Tryz.f170:=fN Tryz.func170
theorem F171:fT 171 Tryz.f171:=fN Tryz.func171
theorem F172:fT 172 Tryz.f172:=fN Tryz.func172
theorem F173:fT 173 Tryz.f173:=fN Tryz.func173
theorem F174:fT 174 Tryz.f174:=fN Tryz.func174
theorem F175:fT 175 Tryz.f175:=fN Tryz.func175
theorem F176:fT 176 Tryz.f176:=fN Tryz.func176
theorem F177:fT 177 Tryz.f177:=fN Tryz.func177
theorem F178:fT 178 Tryz.f178:=fN Tryz.func178
theorem F179:fT 179 Tryz.f179:=fN Tryz.func179
theorem F180:fT 180 Tryz.f180:=fN Tryz.func180
theorem F181:fT 181 Tryz.f181:=fN Tryz.func181
theorem F182:fT 182 Tryz.f182:=fN Tryz.func182
theorem F183:fT 183 Tryz.f183:=fN Tryz.func183
theorem F184:fT 184 Tryz.f184:=fN Tryz.func184
theorem F186:fT 186 Tryz.f186:=fN Tryz.func186
theorem F204:fT 204 Tryz.f204:=fN Tryz.func204
theorem F205:fT 205 Tryz.f205:=fN Tryz.func205
theorem F206:fT 206 Tryz.f206:=fN Tryz.func206
theorem F208:fT 208 Tryz.f208:=fN Tryz.func208
theorem F209:fT 209 Tryz.f209:=fN Tryz.func209
theorem F243:fT 243 Tryz.f243:=fN Tryz.func243
theorem F249:fT 249 Tryz.f249:=fN Tryz.func249
theorem F250:fT 250 Tryz.f250:=fN Tryz.func250
theorem F251:fT 251 Tryz.f251:=fN Tryz.func251
theorem F252:fT 252 Tryz.f252:=fN Tryz.func252
theorem F253:fT 253 Tryz.f253:=fN Tryz.func253
theorem F254:fT 254 Tryz.f254:=fN Tryz.func254
theorem F260:fT 260 Tryz.f260:=fN Tryz.func260
theorem F261:fT 261 Tryz.f261:=fN Tryz.func261
theorem F263:fT 263 Tryz.f263:=fN Tryz.func263
theorem F280:fT 280 Tryz.f280:=fN Tryz.func280
theorem F281:fT 281 Tryz.f281:=fN Tryz.func281
theorem F282:fT 282 Tryz.f282:=fN Tryz.func282
theorem F283:fT 283 Tryz.f283:=fN Tryz.func283
theorem F284:fT 284 Tryz.f284:=fN Tryz.func284
theorem F285:fT 285 Tryz.f285:=fN Tryz.func285
theorem F286:fT 286 Tryz.f286:=fN Tryz.func286
theorem F287:fT 287 Tryz.f287:=fN Tryz.func287
theorem F288:fT 288 Tryz.f288:=fN Tryz.func288
theorem F299:fT 299 Tryz.f299:=fN Tryz.func299
theorem F301:fT 301 Tryz.f301:=fN Tryz.func301
theorem F302:fT 302 Tryz.f302:=fN Tryz.func302
theorem F307:fT 307 Tryz.f307:=fN Tryz.func307
theorem F308:fT 308 Tryz.f308:=fN Tryz.func308
theorem F325:fT 325 Tryz.f325:=fN Tryz.func325
theorem F337:fT 337 Tryz.f337:=fN Tryz.func337
theorem F338:fT 338 Tryz.f338:=fN Tryz.func338
theorem F339:fT 339 Tryz.f339:=fN Tryz.func339
theorem F340:fT 340 Tryz.f340:=fN Tryz.func340
theorem F341:fT 341 Tryz.f341:=fN Tryz.func341
theorem F342:fT 342 Tryz.f342:=fN Tryz.func342
theorem F343:fT 343 Tryz.f343:=fN Tryz.func343
theorem F344:fT 344 Tryz.f344:=fN Tryz.func344
theorem F345:fT 345 Tryz.f345:=fN Tryz.func345
theorem F346:fT 346 Tryz.f346:=fN Tryz.func346
theorem F347:fT 347 Tryz.f347:=fN Tryz.func347
theorem F348:fT 348 Tryz.f348:=fN Tryz.func348
theorem F349:fT 349 Tryz.f349:=fN Tryz.func349
theorem F350:fT 350 Tryz.f350:=fN Tryz.func350
theorem F365:fT 365 Tryz.f365:=fN Tryz.func365
theorem F366:fT 366 Tryz.f366:=fN Tryz.func366
theorem F370:fT 370 Tryz.f370:=fN Tryz.func370
theorem F371:fT 371 Tryz.f371:=fN Tryz.func371
theorem F383:fT 383 Tryz.f383:=fN Tryz.func383
theorem F404:fT 404 Tryz.f404:=fN Tryz.func404
theorem F405:fT 405 Tryz.f405:=fN Tryz.func405
theorem F406:fT 406 Tryz.f406:=fN Tryz.func406
theorem F407:fT 407 Tryz.f407:=fN Tryz.func407
theorem F408:fT 408 Tryz.f408:=fN Tryz.func408
theorem F409:fT 409 Tryz.f409:=fN Tryz.func409
theorem F410:fT 410 Tryz.f410:=fN Tryz.func410
theorem F411:fT 411 Tryz.f411:=fN Tryz.func411
theorem F412:fT 412 Tryz.f412:=fN Tryz.func412
theorem F413:fT 413 Tryz.f413:=fN Tryz.func413
theorem F414:fT 414 Tryz.f414:=fN Tryz.func414
theorem F415:fT 415 Tryz.f415:=fN Tryz.func415
theorem F439:fT 439 Tryz.f439:=fN Tryz.func439
theorem F440:fT 440 Tryz.f440:=fN Tryz.func440
theorem F441:fT 441 Tryz.f441:=fN Tryz.func441
theorem F442:fT 442 Tryz.f442:=fN Tryz.func442
theorem rg {F:Fr} {n:Nat} {B:Exit→Act→World→Prop} {bn:List Nat} {hbn:∀ k,F.k0 k≠.new→k∈bn} {k:List KI} {s:SS} (h:Ir ⟨Tryz.prog,Γ.toTy,F,n,B,bn,hbn⟩ Γ 400 k s):G ⟨Tryz.prog,Γ.toTy,F,n,B,bn,hbn⟩ k s:=rG Γ hm h
theorem rd {F:Fr} {n:Nat} {B:Exit→Act→World→Prop} {bn:List Nat} {hbn:∀ k,F.k0 k≠.new→k∈bn} {k:List KI} {s:SS} {all:Array Oper} {done:List Stp} {rest:List Oper} (hs:all.toList=done.map (·.o)++rest) (h:Og ⟨Tryz.prog,Γ.toTy,F,n,B,bn,hbn⟩ Γ 400 k all done rest s):DR ⟨Tryz.prog,Γ.toTy,F,n,B,bn,hbn⟩ k all done rest s:=rD Γ hm hs h
structure Bq (Q:Prop):Prop where out:Q
theorem oO {P Q:Prop} (h:Q) (e:Bq Q→P:=by intro hb;refine rg ?_;(conv=>whnf);exact hb.out):P:=e ⟨h⟩
theorem oF {P Q:Prop} (h:Q) (e:Bq Q→P:=by intro hb;refine rg ?_;(conv=>whnf);refine aF ?_;refine rg ?_;(conv=>whnf);exact hb.out):P:=e ⟨h⟩
theorem oT {P Q:Prop} (h:Q) (e:Bq Q→P:=by intro hb;refine rg ?_;(conv=>whnf);refine aT ?_;refine rg ?_;(conv=>whnf);exact hb.out):P:=e ⟨h⟩
theorem bF {P Q:Prop} (h:Q) (e:Bq Q→P:=by intro hb;refine aF ?_;refine rg ?_;(conv=>whnf);exact hb.out):P:=e ⟨h⟩
theorem bT {P Q:Prop} (h:Q) (e:Bq Q→P:=by intro hb;refine aT ?_;refine rg ?_;(conv=>whnf);exact hb.out):P:=e ⟨h⟩
theorem oD {P Q:Prop} (h:Q) (e:Bq Q→P:=by intro hb;refine rd z_ ?_;(conv=>whnf);exact hb.out):P:=e ⟨h⟩
theorem dN {P:Prop} (h:P:=by
 apply At
 ·exact E
 ·(repeat (first | exact ResVs.nil | (apply ResVs.cons;(first | exact .tmp | exact .cell rfl rfl rfl rfl))))
 ·exact E
 ·exact E):P:=h
theorem iL {a:Int} {K:Prop} (h:K) (e:I64 a:=by unfold I64;omega):I64 a∧K:=⟨e,h⟩
theorem iW {a:Int} {K Q:Prop} (h:Q) (e:I64 a:=by unfold I64;omega) (e2:Bq Q→K:=by intro hb;(conv=>whnf);exact hb.out):I64 a∧K:=⟨e,e2 ⟨h⟩⟩
theorem kW {α:Sort _} {a b:α} {K Q:Prop} (h:Q) (e:a=b:=by kernel_rfl) (e2:Bq Q→K:=by intro hb;(conv=>whnf);exact hb.out):a=b∧K:=⟨e,e2 ⟨h⟩⟩
theorem c0 {C:Cx} {k:List KI} {s:SS} {all:Array Oper} {o:Oper} {rest:List Oper} {f:FuncId} {fn:Func} {c:Code} {xs:List Operand} {ts:Array TypeId} {A:List SV} {R:SV} (hs:Sy.Spec C.P f A [] R []) (hf:Fun C.P f fn c) (hg:G C (.ops all rest::k) (s.upd o.dst ⟨R,[],[]⟩)) (h:o.op=.call ⟨.value (.func f),xs.toArray,ts⟩:=by exact rfl)
  (hA:A=xs.map (ev s):=by exact rfl) (hok:(By [] A && R.inn [])=true:=by exact rfl) (hd:Lx C.n o=true:=by exact rfl) (hw:Df C.n all o s=some true:=by exact rfl):G C (.ops all (o::rest)::k) s:=Jw hs hf h hA hok hd hw hg
theorem cD {C:Cx} {k:List KI} {s:SS} {all:Array Oper} {done:List Stp} {o:Oper} {rest:List Oper} {f:FuncId} {fn:Func} {c:Code} {xs:List Operand} {ts:Array TypeId} {A:List SV} {R:SV} (hs:Sy.Spec C.P f A [] R []) (hf:Fun C.P f fn c) (hg:DR C k all (done++[⟨done.length,o,⟨R,[],[]⟩,true⟩]) rest (s.upd o.dst ⟨R,[],[]⟩)) (h:o.op=.call ⟨.value (.func f),xs.toArray,ts⟩:=by exact rfl)
  (hA:A=xs.map (ev s):=by exact rfl) (hok:(By [] A && R.inn [])=true:=by exact rfl) (hi:all[done.length]? = some o:=by kernel_rfl) (hw:Df C.n all o s=some true:=by exact rfl):DR C k all done (o::rest) s:=Ahl hs hf h hA hok hi hw hg
theorem qA {p q:Prop} [Decidable p] (h:decide p=true) (e:p→q:=by intro _h;omega):q:=e (of_decide_eq_true h)
theorem qB {p q:Prop} [Decidable p] (h:decide p=false) (e:¬ p→q:=by intro _h;omega):q:=e (of_decide_eq_false h)
end Go.Sy.YtjenpnjajjplkaaGreatDoor
namespace Go.Sy.YtjenpnjajjplkaaGreatDoor
open Go.Proofs
structure Device where
 (row prio:Int) (name:ByteArray) (mac vtep:Int)
structure Port where
 (row dev native cost link:Int) (name:ByteArray) (tagged:List Int)
structure Link where
 (row a b:Int)
structure Domain where
 (dev vlan vni irb row:Int) (peers:List Int)
structure Static where
 (row domain port mac:Int)
structure Flood where
 (row dev vni:Int) (addrs:List Int)
structure Vrf where
 (row dev:Int) (name:ByteArray) (imports exports:List Int)
structure Irb where
 (row domain vrf addr bits:Int)
structure Net where
 (devices:List Device) (ports:List Port) (links:List Link) (domains:List Domain) (statics:List Static) (floods:List Flood) (vrfs:List Vrf) (irbs:List Irb)
def Ar (d:Device):SV:=.agg [Aa d.row,Aa d.prio,Ai d.name,Hq d.mac,Bi d.vtep]
def Au (p:Port):SV:=.agg [Aa p.row,Aa p.dev,Aa p.native,Aa p.cost,Aa p.link,Ai p.name,.sl 1 Aa p.tagged]
def Br (l:Link):SV:=.agg [Aa l.row,Aa l.a,Aa l.b]
def Af (d:Domain):SV:=.agg [Aa d.dev,Aa d.vlan,Aa d.vni,Aa d.irb,Aa d.row,.sl 1 Aa d.peers]
def Az (s:Static):SV:=.agg [Aa s.row,Aa s.domain,Aa s.port,Hq s.mac]
def A0 (f:Flood):SV:=.agg [Aa f.row,Aa f.dev,Aa f.vni,.sl 1 Bi f.addrs]
def Bv (v:Vrf):SV:=.agg [Aa v.row,Aa v.dev,Ai v.name,.sl 1 Aa v.imports,.sl 1 Aa v.exports]
def Bt (i:Irb):SV:=.agg [Aa i.row,Aa i.domain,Aa i.vrf,Bi i.addr,Aa i.bits]
def B5 (n:Net):List SV:=[.sl 5 Ar n.devices,.sl 7 Au n.ports,.sl 3 Br n.links,.sl 6 Af n.domains,.sl 4 Az n.statics,.sl 4 A0 n.floods,.sl 5 Bv n.vrfs,.sl 5 Bt n.irbs]
def Aj (n:Net):SV:=.agg [.sl 5 Ar n.devices,.sl 7 Au n.ports,.sl 3 Br n.links,.sl 6 Af n.domains,.sl 4 Az n.statics,.sl 4 A0 n.floods,.sl 5 Bv n.vrfs,.sl 5 Bt n.irbs]
instance:Inhabited Device:=⟨⟨0,0,.empty,0,0⟩⟩
instance:Inhabited Port:=⟨⟨0,0,0,0,0,.empty,[]⟩⟩
instance:Inhabited Link:=⟨⟨0,0,0⟩⟩
instance:Inhabited Domain:=⟨⟨0,0,0,0,0,[]⟩⟩
instance:Inhabited Static:=⟨⟨0,0,0,0⟩⟩
instance:Inhabited Flood:=⟨⟨0,0,0,[]⟩⟩
instance:Inhabited Vrf:=⟨⟨0,0,.empty,[],[]⟩⟩
instance:Inhabited Irb:=⟨⟨0,0,0,0,0⟩⟩
def Ah (i:Int) (n:Nat):Bool:=decide (0≤i) && decide (i<n)
def inB (l:List Int) (x:Int):Bool:=l.any (· == x)
def nth {α:Type} [Inhabited α] (l:List α) (i:Int):α:=(l[i.toNat]?).getD default
theorem Am {α:Type} [Inhabited α] {l:List α} {i:Int} (h:i.toNat<l.length):nth l i=l[i.toNat]:=by
 simp[nth,h]
def Bc {α:Type} (p:α→Bool) (l:List α):Int:=match l.findIdx? p with | some i=>(i:Int) | none=>-1
theorem Cg {α:Type} {p:α→Bool} {l:List α} {j:Nat} (h:j<l.length) (h1:∀ i (hi:i<l.length),i<j→p l[i]=false) (h2:p l[j]=true):Bc p l=j:=by
 have:l.findIdx? p=some j:=by
  rw[List.findIdx?_eq_some_iff_getElem]
  exact⟨h,h2,fun i hi=>by simp[h1 i q_ hi]⟩
 simp[Bc,this]
theorem Di {α:Type} {p:α→Bool} {l:List α} (h1:∀ i (hi:i<l.length),p l[i]=false):Bc p l=-1:=by
 have:l.findIdx? p=none:=by
  rw[List.findIdx?_eq_none_iff]
  intro x hx
  obtain ⟨i,hi,rfl⟩:=List.mem_iff_getElem.1 hx
  exact h1 i hi
 simp[Bc,this]
theorem M6 {α:Type} (p:α→Bool) (l:List α):Bc p l<l.length:=by
 unfold Bc
 split
 ·rename_i i h
  rw[List.findIdx?_eq_some_iff_getElem]at h
  obtain ⟨h,_⟩:=h
  omega
 ·omega
theorem Ait {α:Type} (p:α→Bool) (l:List α):-1≤Bc p l:=by
 unfold Bc
 split<;>omega
theorem I0 {α:Type} (p:α→Bool) (l:List α):decide (0≤Bc p l)=l.any p:=by
 unfold Bc
 split
 ·rename_i i h
  rw[List.findIdx?_eq_some_iff_getElem]at h
  obtain ⟨h,h2,_⟩:=h
  have:l.any p=true:=List.any_eq_true.2 ⟨_,List.getElem_mem h,h2⟩
  rw[this]
  simp
 ·rename_i h
  rw[List.findIdx?_eq_none_iff]at h
  have:l.any p=false:=by
   rw[List.any_eq_false]
   intro x hx
   simp[h x hx]
  rw[this]
  simp
def Dj {α:Type} (p:Nat→α→Bool) (l:List α):Bool:=l.zipIdx.all fun q=>p q.2 q.1
theorem allB_iff {α:Type} {p:Nat→α→Bool} {l:List α}:Dj p l=true↔∀ i (h:i<l.length),p i l[i]=true:=by
 simp only[Dj,List.all_eq_true]
 constructor
 ·intro h i hi
  exact h (l[i],i) (by rw[List.mk_mem_zipIdx_iff_getElem?];simp[hi])
 ·rintro h ⟨x,i⟩ hx
  rw[List.mk_mem_zipIdx_iff_getElem?]at hx
  obtain ⟨hi,rfl⟩:=List.getElem?_eq_some_iff.1 hx
  exact h i hi
theorem Ae9 {α:Type} {p:Nat→α→Bool} {l:List α} (h:∀ i (h:i<l.length),p i l[i]=true):Dj p l=true:=allB_iff.2 h
theorem Bs {α:Type} {p:Nat→α→Bool} {l:List α} {i:Nat} (h:i<l.length) (h1:p i l[i]=false):Dj p l=false:=by
 cases hh:Dj p l with
 | false=>rfl
 | true=>have:=allB_iff.1 hh i h;rw[h1]at this;cases this
def Dw {α:Type} (p:Nat→α→Bool) (l:List α) (j:Nat):Prop:=∀ i (h:i<l.length),i<j→p i l[i]=true
theorem Bb {α:Type} (p:Nat→α→Bool) (l:List α):Dw p l 0:=fun i h hj=>absurd hj q_
theorem A8 {α:Type} {p:Nat→α→Bool} {l:List α} {j:Nat} (hI:Dw p l j) (hj:j<l.length) (h:p j l[j]=true):Dw p l (j+1):=by
 intro i hi hij
 rcases Nat.lt_or_ge i j with h1 | h1
 ·exact hI i hi h1
 ·have:i=j:=by omega
  subst this
  exact h
theorem Cz {α:Type} {p:Nat→α→Bool} {l:List α} {j:Nat} (hI:Dw p l j) (hj:l.length≤j):Dj p l=true:=Ae9 fun i hi=>hI i hi q_
def Aq {α:Type} (l:List α):Prop:=l.length<2147483648
end Go.Sy.YtjenpnjajjplkaaGreatDoor
namespace Go.Sy.YtjenpnjajjplkaaGreatDoor
open Go.Proofs
attribute [local irreducible] Go.Sy.G Go.Sy.DR
set_option maxRecDepth 20000
set_option maxHeartbeats 4000000
theorem Dq {α:Type} (sz:Nat) (e:α→SV) (l:List α) (i:Int):Sy.Spec Tryz.prog 81 [.sl sz e l,Aa i] [] (Ab (Ah i l.length)) []:=cT F81 Tryz.ntmps81 fun F hF=>by
 conv=>whnf
 (repeat' (first | (refine⟨fun h=>?_,fun h=>?_⟩<;>(repeat (first | simp only[decide_eq_true_eq]at h | simp only[decide_eq_false_iff_not]at h))<;>((refine oO ?_))) | (refine At rfl (.cons .tmp .nil) ?_ rfl)))
 all_goals (refine congrArg Ab ?_)
 all_goals grind [Ah]
theorem Aa8 {α:Type} (sz:Nat) (e:α→SV) (l:List α) (i:Int):Sy.Spec Tryz.prog 170 [.sl sz e l,Aa i] [] (Ab (Ah i l.length)) []:=cT F170 Tryz.ntmps170 fun F hF=>by
 conv=>whnf
 (repeat' (first | (refine⟨fun h=>?_,fun h=>?_⟩<;>(repeat (first | simp only[decide_eq_true_eq]at h | simp only[decide_eq_false_iff_not]at h))<;>((refine oO ?_))) | (refine At rfl (.cons .tmp .nil) ?_ rfl)))
 all_goals (refine congrArg Ab ?_)
 all_goals grind [Ah]
theorem Yl {α:Type} (sz:Nat) (e:α→SV) (l:List α) (i:Int):Sy.Spec Tryz.prog 176 [.sl sz e l,Aa i] [] (Ab (Ah i l.length)) []:=cT F176 Tryz.ntmps176 fun F hF=>by
 conv=>whnf
 (repeat' (first | (refine⟨fun h=>?_,fun h=>?_⟩<;>(repeat (first | simp only[decide_eq_true_eq]at h | simp only[decide_eq_false_iff_not]at h))<;>((refine oO ?_))) | (refine At rfl (.cons .tmp .nil) ?_ rfl)))
 all_goals (refine congrArg Ab ?_)
 all_goals grind [Ah]
theorem J6 {α:Type} (sz:Nat) (e:α→SV) (l:List α) (i:Int):Sy.Spec Tryz.prog 177 [.sl sz e l,Aa i] [] (Ab (Ah i l.length)) []:=cT F177 Tryz.ntmps177 fun F hF=>by
 conv=>whnf
 (repeat' (first | (refine⟨fun h=>?_,fun h=>?_⟩<;>(repeat (first | simp only[decide_eq_true_eq]at h | simp only[decide_eq_false_iff_not]at h))<;>((refine oO ?_))) | (refine At rfl (.cons .tmp .nil) ?_ rfl)))
 all_goals (refine congrArg Ab ?_)
 all_goals grind [Ah]
theorem Ik {α:Type} (sz:Nat) (e:α→SV) (l:List α) (i:Int):Sy.Spec Tryz.prog 178 [.sl sz e l,Aa i] [] (Ab (Ah i l.length)) []:=cT F178 Tryz.ntmps178 fun F hF=>by
 conv=>whnf
 (repeat' (first | (refine⟨fun h=>?_,fun h=>?_⟩<;>(repeat (first | simp only[decide_eq_true_eq]at h | simp only[decide_eq_false_iff_not]at h))<;>((refine oO ?_))) | (refine At rfl (.cons .tmp .nil) ?_ rfl)))
 all_goals (refine congrArg Ab ?_)
 all_goals grind [Ah]
theorem Aa7 {α:Type} (sz:Nat) (e:α→SV) (l:List α) (i:Int):Sy.Spec Tryz.prog 181 [.sl sz e l,Aa i] [] (Ab (Ah i l.length)) []:=cT F181 Tryz.ntmps181 fun F hF=>by
 conv=>whnf
 (repeat' (first | (refine⟨fun h=>?_,fun h=>?_⟩<;>(repeat (first | simp only[decide_eq_true_eq]at h | simp only[decide_eq_false_iff_not]at h))<;>((refine oO ?_))) | (refine At rfl (.cons .tmp .nil) ?_ rfl)))
 all_goals (refine congrArg Ab ?_)
 all_goals grind [Ah]
theorem Ag2 (l:List Int) (x:Int) (hl:Aq l):Sy.Spec Tryz.prog 175 [.sl 1 Aa l,Aa x] [] (Aa (Bc (· == x) l)) []:=cT F175 Tryz.ntmps175 fun F hF=>by
 unfold Aq at hl
 conv=>whnf
 refine A3 l.length (fun j=>∀ i (h:i<l.length),i<j→(l[i] == x)=false) (fun j=>[(0,.sl 1 Aa l),(1,Aa x),(7,Aa l.length),(8,Aa j)]) (fun _=>[]) [] (fun i h hj=>absurd hj q_) ⟨⟨E,E,E,E,E,E,E,E,Y⟩,Y,E,E⟩ ?_
 intro j hj hI
 refine oO ?_
 (repeat' (first | (refine⟨fun h=>?_,fun h=>?_⟩<;>(repeat (first | simp only[decide_eq_true_eq]at h | simp only[decide_eq_false_iff_not]at h | simp only[beq_iff_eq]at h | simp only[beq_eq_false_iff_ne]at h))<;>((refine oO ?_))) | (refine At rfl (.cons .tmp .nil) ?_ rfl) | (refine⟨z_,?_⟩;((conv=>whnf))) | (refine⟨by (omega),by (omega),?_⟩;((conv=>whnf))) | (refine⟨by (unfold I64;omega),?_⟩;((conv=>whnf))) | refine A1 [] hI q_ ?_ ⟨⟨rfl,rfl,rfl,rfl,rfl,rfl,rfl,rfl,trivial⟩,trivial,rfl,rfl⟩))
 all_goals try (refine congrArg Aa ?_)
 ·exact Cg q_ hI (by simpa using h.symm)
 ·intro i hi hij
  rcases Nat.lt_or_ge i j with h1 | h1
  ·exact hI i hi h1
  ·have:i=j:=by omega
   subst this
   simpa using Ne.symm h
 ·exact Di (fun i hi=>hI i hi q_)
theorem I6 (l:List Int) (x:Int) (hl:Aq l):Sy.Spec Tryz.prog 100 [.sl 1 Aa l,Aa x] [] (Ab (inB l x)) []:=cT F100 Tryz.ntmps100 fun F hF=>by
 conv=>whnf
 (repeat' (first | (refine At rfl (.cons .tmp .nil) ?_ rfl) | (refine c0 (Ag2 _ _ hl) F175 ?_;((refine oO ?_)))))
 exact congrArg Ab (I0 _ _).symm
def Co (p:Port) (v:Int):Bool:=v != 0 && (v == p.native || inB p.tagged v)
theorem Wr (p:Port) (v:Int) (hl:Aq p.tagged):Sy.Spec Tryz.prog 179 [Au p,Aa v] [] (Ab (Co p v)) []:=cT F179 Tryz.ntmps179 fun F hF=>by
 conv=>whnf
 (repeat' (first | (refine⟨fun h=>?_,fun h=>?_⟩<;>(repeat (first | simp only[beq_iff_eq]at h | simp only[beq_eq_false_iff_ne]at h | simp only[bne_iff_ne]at h | simp only[bne_eq_false_iff_eq]at h))<;>((refine oO ?_))) | (refine At rfl (.cons .tmp .nil) ?_ rfl) | (refine c0 (I6 _ _ hl) F100 ?_;((refine oO ?_)))))
 all_goals (refine congrArg Ab ?_)
 all_goals grind [Co]
def Lh (l:List Int) (least most:Int) (i:Nat) (x:Int):Bool:=decide (least≤x) && decide (x≤most) && (i == 0 || decide (nth l ((i:Int)-1)<x))
def Ds (l:List Int) (least most:Int):Bool:=decide (0<l.length) && decide (l.length≤16) && Dj (Lh l least most) l
theorem S4 (l:List Int) (least most:Int) (hl:Aq l):Sy.Spec Tryz.prog 180 [.sl 1 Aa l,Aa least,Aa most] [] (Ab (Ds l least most)) []:=cT F180 Tryz.ntmps180 fun F hF=>by
 unfold Aq at hl
 conv=>whnf
 refine A3 l.length (fun j=>Dw (Lh l least most) l j) (fun j=>[(0,.sl 1 Aa l),(1,Aa least),(2,Aa most),(9,.sl 1 Aa l),(10,Aa l.length),(11,Aa j)]) (fun _=>[]) [] (Bb _ _) ⟨⟨E,E,E,E,E,E,E,E,E,E,E,E,Y⟩,Y,E,E⟩ ?_
 intro j hj hI
 refine oO ?_
 (repeat' (first | (refine⟨fun h=>?_,fun h=>?_⟩<;>(repeat (first | simp only[decide_eq_true_eq]at h | simp only[decide_eq_false_iff_not]at h))<;>((refine oO ?_);repeat((first|refine aF ?_|refine aT ?_);(refine oO ?_)))) | (refine At rfl (.cons .tmp .nil) ?_ rfl) | (refine⟨z_,?_⟩;((conv=>whnf))) | (refine⟨by (first | (unfold I64;omega) | omega),by (omega),?_⟩;((conv=>whnf))) | (refine⟨by (unfold I64;omega),?_⟩;((conv=>whnf))) | refine A1 [] hI q_ ?_ ⟨⟨rfl,rfl,rfl,rfl,rfl,rfl,rfl,rfl,rfl,rfl,rfl,rfl,trivial⟩,trivial,rfl,rfl⟩))
 all_goals try (refine congrArg Ab ?_)
 all_goals try simp only[Int.toNat_natCast,Int.pred_toNat]at *
 ·rw[Ds,Bs (i:=j) q_ (by simp[Lh];omega)];simp
 ·rw[Ds,Bs (i:=j) q_ (by simp[Lh];omega)];simp
 ·rw[Ds,Bs (i:=j) q_ (by simp only[Lh,Am (show ((j:Int)-1).toNat<l.length by omega),Int.pred_toNat,Int.toNat_natCast];simp;omega)];simp
 ·exact A8 hI q_ (by simp only[Lh,Am (show ((j:Int)-1).toNat<l.length by omega),Int.pred_toNat,Int.toNat_natCast];simp;omega)
 ·exact A8 hI q_ (by simp[Lh];omega)
 ·rw[Ds,Cz hI q_,Bool.eq_iff_iff];simp;omega
 ·rw[Ds];simp;omega
theorem Wd (l:List Int) (most:Int) (hl:Aq l):Sy.Spec Tryz.prog 84 [.sl 1 Aa l,Aa most] [] (Ab (decide (l.length=0) || Ds l 1 most)) []:=cT F84 Tryz.ntmps84 fun F hF=>by
 conv=>whnf
 (repeat' (first | (refine⟨fun h=>?_,fun h=>?_⟩<;>(repeat (first | simp only[beq_iff_eq]at h | simp only[beq_eq_false_iff_ne]at h))<;>((refine oO ?_))) | (refine At rfl (.cons .tmp .nil) ?_ rfl) | (refine c0 (S4 l 1 most hl) F180 ?_;((refine oO ?_)))))
 all_goals (refine congrArg Ab ?_)
 all_goals grind
theorem Kg {K:List Nat}:∀ (a b:List SV),By K (a++b)=(By K a && By K b)
 | [],b=>by simp[By]
 | x::a,b=>by simp[By,Kg a b,Bool.and_assoc]
theorem Cy {f:FuncId} {first cap xs:List SV} (hc:(SV.clo (.func f) first cap).inn []=true) (hx:By [] xs=true):By [] (first++xs++cap)=true:=by
 simp only[SV.inn,Bool.and_eq_true]at hc
 rw[Kg,Kg,hc.1,hc.2,hx]
 rfl
theorem Db (l:List Domain) (p:Domain→Bool) (f:FuncId) (first cap:List SV) (hc:(SV.clo (.func f) first cap).inn []=true) (hf:∀ x∈l,Hk Tryz.prog f (first++[Af x]++cap) (Ab (p x))) (hl:Aq l) :
  Sy.Spec Tryz.prog 163 [.sl 6 Af l,.clo (.func f) first cap] [] (Aa (Bc p l)) []:=cT F163 Tryz.ntmps163 fun F hF=>by
 unfold Aq at hl
 have hin:∀ x:Domain,By [] (first++[Af x]++cap)=true:=fun x=>Cy hc rfl
 conv=>whnf
 refine A3 l.length (fun j=>Dw (fun _ x=>!(p x)) l j) (fun j=>[(0,.sl 6 Af l),(1,.clo (.func f) first cap),(7,Aa l.length),(8,Aa j)]) (fun _=>[]) [] (Bb _ _) ⟨⟨E,E,Bg _,hc,E,E,E,E,Y⟩,Y,E,E⟩ ?_
 intro j hj hI
 refine oO ?_
 refine⟨fun h=>?_,fun h=>?_⟩
 ·have h:=of_decide_eq_true h
  have hj2:j<l.length:=by omega
  refine oO ?_
  refine⟨E,by omega,by omega,?_⟩
  conv=>whnf
  refine H4 (hf l[j] (List.getElem_mem hj2)) E E E (by simp only[hin];rfl) E E ?_
  refine oO ?_
  refine⟨fun h2=>?_,fun h2=>?_⟩
  ·refine oO ?_
   refine At E (.cons .tmp .nil) (congrArg Aa ?_) E
   exact Cg hj2 (fun i hi hij=>by simpa using hI i hi hij) h2
  ·refine oO ?_
   refine iW ?_
   exact A1 [] hI hj2 (A8 hI hj2 (by simp[h2])) ⟨⟨E,E,Bg _,hc,E,E,E,E,Y⟩,Y,E,E⟩
 ·have h:=of_decide_eq_false h
  refine oO ?_
  refine At E (.cons .tmp .nil) (congrArg Aa ?_) E
  exact Di (fun i hi=>by simpa using hI i hi q_)
theorem Jv (l:List Port) (p:Port→Bool) (f:FuncId) (first cap:List SV) (hc:(SV.clo (.func f) first cap).inn []=true) (hf:∀ x∈l,Hk Tryz.prog f (first++[Au x]++cap) (Ab (p x))) (hl:Aq l) :
  Sy.Spec Tryz.prog 121 [.sl 7 Au l,.clo (.func f) first cap] [] (Aa (Bc p l)) []:=cT F121 Tryz.ntmps121 fun F hF=>by
 unfold Aq at hl
 have hin:∀ x:Port,By [] (first++[Au x]++cap)=true:=fun x=>Cy hc rfl
 conv=>whnf
 refine A3 l.length (fun j=>Dw (fun _ x=>!(p x)) l j) (fun j=>[(0,.sl 7 Au l),(1,.clo (.func f) first cap),(7,Aa l.length),(8,Aa j)]) (fun _=>[]) [] (Bb _ _) ⟨⟨E,E,Bg _,hc,E,E,E,E,Y⟩,Y,E,E⟩ ?_
 intro j hj hI
 refine oO ?_
 refine⟨fun h=>?_,fun h=>?_⟩
 ·have h:=of_decide_eq_true h
  have hj2:j<l.length:=by omega
  refine oO ?_
  refine⟨E,by omega,by omega,?_⟩
  conv=>whnf
  refine H4 (hf l[j] (List.getElem_mem hj2)) E E E (by simp only[hin];rfl) E E ?_
  refine oO ?_
  refine⟨fun h2=>?_,fun h2=>?_⟩
  ·refine oO ?_
   refine At E (.cons .tmp .nil) (congrArg Aa ?_) E
   exact Cg hj2 (fun i hi hij=>by simpa using hI i hi hij) h2
  ·refine oO ?_
   refine iW ?_
   exact A1 [] hI hj2 (A8 hI hj2 (by simp[h2])) ⟨⟨E,E,Bg _,hc,E,E,E,E,Y⟩,Y,E,E⟩
 ·have h:=of_decide_eq_false h
  refine oO ?_
  refine At E (.cons .tmp .nil) (congrArg Aa ?_) E
  exact Di (fun i hi=>by simpa using hI i hi q_)
theorem Ae7 (l:List Port) (p:Nat→Port→Bool) (f:FuncId) (first cap:List SV) (hc:(SV.clo (.func f) first cap).inn []=true) (hf:∀ i (h:i<l.length),Hk Tryz.prog f (first++[Aa i,Au l[i]]++cap) (Ab (p i l[i]))) (hl:Aq l) :
  Sy.Spec Tryz.prog 73 [.sl 7 Au l,.clo (.func f) first cap] [] (Ab (Dj p l)) []:=cT F73 Tryz.ntmps73 fun F hF=>by
 unfold Aq at hl
 have hin:∀ (i:Nat) (x:Port),By [] (first++[Aa i,Au x]++cap)=true:=fun i x=>Cy hc rfl
 conv=>whnf
 refine A3 l.length (fun j=>Dw p l j) (fun j=>[(0,.sl 7 Au l),(1,.clo (.func f) first cap),(7,.sl 7 Au l),(8,Aa l.length),(9,Aa j)]) (fun _=>[]) [] (Bb _ _) ⟨⟨E,E,Bg _,hc,E,E,E,E,E,E,Y⟩,Y,E,E⟩ ?_
 intro j hj hI
 refine oO ?_
 refine⟨fun h=>?_,fun h=>?_⟩
 ·have h:=of_decide_eq_true h
  have hj2:j<l.length:=by omega
  refine oO ?_
  refine⟨E,by omega,by omega,?_⟩
  conv=>whnf
  refine H4 (hf j hj2) E E E (by simp only[hin];rfl) E E ?_
  refine oO ?_
  refine⟨fun h2=>?_,fun h2=>?_⟩
  ·refine oO ?_
   refine At E (.cons .tmp .nil) (congrArg Ab ?_) E
   exact Bs hj2 (by simpa using h2)
  ·refine oO ?_
   refine iW ?_
   exact A1 [] hI hj2 (A8 hI hj2 (by simpa using h2)) ⟨⟨E,E,Bg _,hc,E,E,E,E,E,E,Y⟩,Y,E,E⟩
 ·have h:=of_decide_eq_false h
  refine oO ?_
  refine At E (.cons .tmp .nil) (congrArg Ab ?_) E
  exact Cz hI q_
theorem Ae8 (l:List Link) (p:Nat→Link→Bool) (f:FuncId) (first cap:List SV) (hc:(SV.clo (.func f) first cap).inn []=true) (hf:∀ i (h:i<l.length),Hk Tryz.prog f (first++[Aa i,Br l[i]]++cap) (Ab (p i l[i]))) (hl:Aq l) :
  Sy.Spec Tryz.prog 75 [.sl 3 Br l,.clo (.func f) first cap] [] (Ab (Dj p l)) []:=cT F75 Tryz.ntmps75 fun F hF=>by
 unfold Aq at hl
 have hin:∀ (i:Nat) (x:Link),By [] (first++[Aa i,Br x]++cap)=true:=fun i x=>Cy hc rfl
 conv=>whnf
 refine A3 l.length (fun j=>Dw p l j) (fun j=>[(0,.sl 3 Br l),(1,.clo (.func f) first cap),(7,.sl 3 Br l),(8,Aa l.length),(9,Aa j)]) (fun _=>[]) [] (Bb _ _) ⟨⟨E,E,Bg _,hc,E,E,E,E,E,E,Y⟩,Y,E,E⟩ ?_
 intro j hj hI
 refine oO ?_
 refine⟨fun h=>?_,fun h=>?_⟩
 ·have h:=of_decide_eq_true h
  have hj2:j<l.length:=by omega
  refine oO ?_
  refine⟨E,by omega,by omega,?_⟩
  conv=>whnf
  refine H4 (hf j hj2) E E E (by simp only[hin];rfl) E E ?_
  refine oO ?_
  refine⟨fun h2=>?_,fun h2=>?_⟩
  ·refine oO ?_
   refine At E (.cons .tmp .nil) (congrArg Ab ?_) E
   exact Bs hj2 (by simpa using h2)
  ·refine oO ?_
   refine iW ?_
   exact A1 [] hI hj2 (A8 hI hj2 (by simpa using h2)) ⟨⟨E,E,Bg _,hc,E,E,E,E,E,E,Y⟩,Y,E,E⟩
 ·have h:=of_decide_eq_false h
  refine oO ?_
  refine At E (.cons .tmp .nil) (congrArg Ab ?_) E
  exact Cz hI q_
theorem Q5 (l:List Domain) (p:Nat→Domain→Bool) (f:FuncId) (first cap:List SV) (hc:(SV.clo (.func f) first cap).inn []=true) (hf:∀ i (h:i<l.length),Hk Tryz.prog f (first++[Aa i,Af l[i]]++cap) (Ab (p i l[i]))) (hl:Aq l) :
  Sy.Spec Tryz.prog 70 [.sl 6 Af l,.clo (.func f) first cap] [] (Ab (Dj p l)) []:=cT F70 Tryz.ntmps70 fun F hF=>by
 unfold Aq at hl
 have hin:∀ (i:Nat) (x:Domain),By [] (first++[Aa i,Af x]++cap)=true:=fun i x=>Cy hc rfl
 conv=>whnf
 refine A3 l.length (fun j=>Dw p l j) (fun j=>[(0,.sl 6 Af l),(1,.clo (.func f) first cap),(7,.sl 6 Af l),(8,Aa l.length),(9,Aa j)]) (fun _=>[]) [] (Bb _ _) ⟨⟨E,E,Bg _,hc,E,E,E,E,E,E,Y⟩,Y,E,E⟩ ?_
 intro j hj hI
 refine oO ?_
 refine⟨fun h=>?_,fun h=>?_⟩
 ·have h:=of_decide_eq_true h
  have hj2:j<l.length:=by omega
  refine oO ?_
  refine⟨E,by omega,by omega,?_⟩
  conv=>whnf
  refine H4 (hf j hj2) E E E (by simp only[hin];rfl) E E ?_
  refine oO ?_
  refine⟨fun h2=>?_,fun h2=>?_⟩
  ·refine oO ?_
   refine At E (.cons .tmp .nil) (congrArg Ab ?_) E
   exact Bs hj2 (by simpa using h2)
  ·refine oO ?_
   refine iW ?_
   exact A1 [] hI hj2 (A8 hI hj2 (by simpa using h2)) ⟨⟨E,E,Bg _,hc,E,E,E,E,E,E,Y⟩,Y,E,E⟩
 ·have h:=of_decide_eq_false h
  refine oO ?_
  refine At E (.cons .tmp .nil) (congrArg Ab ?_) E
  exact Cz hI q_
theorem Z0 (l:List Static) (p:Nat→Static→Bool) (f:FuncId) (first cap:List SV) (hc:(SV.clo (.func f) first cap).inn []=true) (hf:∀ i (h:i<l.length),Hk Tryz.prog f (first++[Aa i,Az l[i]]++cap) (Ab (p i l[i]))) (hl:Aq l) :
  Sy.Spec Tryz.prog 77 [.sl 4 Az l,.clo (.func f) first cap] [] (Ab (Dj p l)) []:=cT F77 Tryz.ntmps77 fun F hF=>by
 unfold Aq at hl
 have hin:∀ (i:Nat) (x:Static),By [] (first++[Aa i,Az x]++cap)=true:=fun i x=>Cy hc rfl
 conv=>whnf
 refine A3 l.length (fun j=>Dw p l j) (fun j=>[(0,.sl 4 Az l),(1,.clo (.func f) first cap),(7,.sl 4 Az l),(8,Aa l.length),(9,Aa j)]) (fun _=>[]) [] (Bb _ _) ⟨⟨E,E,Bg _,hc,E,E,E,E,E,E,Y⟩,Y,E,E⟩ ?_
 intro j hj hI
 refine oO ?_
 refine⟨fun h=>?_,fun h=>?_⟩
 ·have h:=of_decide_eq_true h
  have hj2:j<l.length:=by omega
  refine oO ?_
  refine⟨E,by omega,by omega,?_⟩
  conv=>whnf
  refine H4 (hf j hj2) E E E (by simp only[hin];rfl) E E ?_
  refine oO ?_
  refine⟨fun h2=>?_,fun h2=>?_⟩
  ·refine oO ?_
   refine At E (.cons .tmp .nil) (congrArg Ab ?_) E
   exact Bs hj2 (by simpa using h2)
  ·refine oO ?_
   refine iW ?_
   exact A1 [] hI hj2 (A8 hI hj2 (by simpa using h2)) ⟨⟨E,E,Bg _,hc,E,E,E,E,E,E,Y⟩,Y,E,E⟩
 ·have h:=of_decide_eq_false h
  refine oO ?_
  refine At E (.cons .tmp .nil) (congrArg Ab ?_) E
  exact Cz hI q_
theorem Acf (l:List Flood) (p:Nat→Flood→Bool) (f:FuncId) (first cap:List SV) (hc:(SV.clo (.func f) first cap).inn []=true) (hf:∀ i (h:i<l.length),Hk Tryz.prog f (first++[Aa i,A0 l[i]]++cap) (Ab (p i l[i]))) (hl:Aq l) :
  Sy.Spec Tryz.prog 79 [.sl 4 A0 l,.clo (.func f) first cap] [] (Ab (Dj p l)) []:=cT F79 Tryz.ntmps79 fun F hF=>by
 unfold Aq at hl
 have hin:∀ (i:Nat) (x:Flood),By [] (first++[Aa i,A0 x]++cap)=true:=fun i x=>Cy hc rfl
 conv=>whnf
 refine A3 l.length (fun j=>Dw p l j) (fun j=>[(0,.sl 4 A0 l),(1,.clo (.func f) first cap),(7,.sl 4 A0 l),(8,Aa l.length),(9,Aa j)]) (fun _=>[]) [] (Bb _ _) ⟨⟨E,E,Bg _,hc,E,E,E,E,E,E,Y⟩,Y,E,E⟩ ?_
 intro j hj hI
 refine oO ?_
 refine⟨fun h=>?_,fun h=>?_⟩
 ·have h:=of_decide_eq_true h
  have hj2:j<l.length:=by omega
  refine oO ?_
  refine⟨E,by omega,by omega,?_⟩
  conv=>whnf
  refine H4 (hf j hj2) E E E (by simp only[hin];rfl) E E ?_
  refine oO ?_
  refine⟨fun h2=>?_,fun h2=>?_⟩
  ·refine oO ?_
   refine At E (.cons .tmp .nil) (congrArg Ab ?_) E
   exact Bs hj2 (by simpa using h2)
  ·refine oO ?_
   refine iW ?_
   exact A1 [] hI hj2 (A8 hI hj2 (by simpa using h2)) ⟨⟨E,E,Bg _,hc,E,E,E,E,E,E,Y⟩,Y,E,E⟩
 ·have h:=of_decide_eq_false h
  refine oO ?_
  refine At E (.cons .tmp .nil) (congrArg Ab ?_) E
  exact Cz hI q_
theorem Ahr (l:List Vrf) (p:Nat→Vrf→Bool) (f:FuncId) (first cap:List SV) (hc:(SV.clo (.func f) first cap).inn []=true) (hf:∀ i (h:i<l.length),Hk Tryz.prog f (first++[Aa i,Bv l[i]]++cap) (Ab (p i l[i]))) (hl:Aq l) :
  Sy.Spec Tryz.prog 82 [.sl 5 Bv l,.clo (.func f) first cap] [] (Ab (Dj p l)) []:=cT F82 Tryz.ntmps82 fun F hF=>by
 unfold Aq at hl
 have hin:∀ (i:Nat) (x:Vrf),By [] (first++[Aa i,Bv x]++cap)=true:=fun i x=>Cy hc rfl
 conv=>whnf
 refine A3 l.length (fun j=>Dw p l j) (fun j=>[(0,.sl 5 Bv l),(1,.clo (.func f) first cap),(7,.sl 5 Bv l),(8,Aa l.length),(9,Aa j)]) (fun _=>[]) [] (Bb _ _) ⟨⟨E,E,Bg _,hc,E,E,E,E,E,E,Y⟩,Y,E,E⟩ ?_
 intro j hj hI
 refine oO ?_
 refine⟨fun h=>?_,fun h=>?_⟩
 ·have h:=of_decide_eq_true h
  have hj2:j<l.length:=by omega
  refine oO ?_
  refine⟨E,by omega,by omega,?_⟩
  conv=>whnf
  refine H4 (hf j hj2) E E E (by simp only[hin];rfl) E E ?_
  refine oO ?_
  refine⟨fun h2=>?_,fun h2=>?_⟩
  ·refine oO ?_
   refine At E (.cons .tmp .nil) (congrArg Ab ?_) E
   exact Bs hj2 (by simpa using h2)
  ·refine oO ?_
   refine iW ?_
   exact A1 [] hI hj2 (A8 hI hj2 (by simpa using h2)) ⟨⟨E,E,Bg _,hc,E,E,E,E,E,E,Y⟩,Y,E,E⟩
 ·have h:=of_decide_eq_false h
  refine oO ?_
  refine At E (.cons .tmp .nil) (congrArg Ab ?_) E
  exact Cz hI q_
theorem Ahs (l:List Irb) (p:Nat→Irb→Bool) (f:FuncId) (first cap:List SV) (hc:(SV.clo (.func f) first cap).inn []=true) (hf:∀ i (h:i<l.length),Hk Tryz.prog f (first++[Aa i,Bt l[i]]++cap) (Ab (p i l[i]))) (hl:Aq l) :
  Sy.Spec Tryz.prog 85 [.sl 5 Bt l,.clo (.func f) first cap] [] (Ab (Dj p l)) []:=cT F85 Tryz.ntmps85 fun F hF=>by
 unfold Aq at hl
 have hin:∀ (i:Nat) (x:Irb),By [] (first++[Aa i,Bt x]++cap)=true:=fun i x=>Cy hc rfl
 conv=>whnf
 refine A3 l.length (fun j=>Dw p l j) (fun j=>[(0,.sl 5 Bt l),(1,.clo (.func f) first cap),(7,.sl 5 Bt l),(8,Aa l.length),(9,Aa j)]) (fun _=>[]) [] (Bb _ _) ⟨⟨E,E,Bg _,hc,E,E,E,E,E,E,Y⟩,Y,E,E⟩ ?_
 intro j hj hI
 refine oO ?_
 refine⟨fun h=>?_,fun h=>?_⟩
 ·have h:=of_decide_eq_true h
  have hj2:j<l.length:=by omega
  refine oO ?_
  refine⟨E,by omega,by omega,?_⟩
  conv=>whnf
  refine H4 (hf j hj2) E E E (by simp only[hin];rfl) E E ?_
  refine oO ?_
  refine⟨fun h2=>?_,fun h2=>?_⟩
  ·refine oO ?_
   refine At E (.cons .tmp .nil) (congrArg Ab ?_) E
   exact Bs hj2 (by simpa using h2)
  ·refine oO ?_
   refine iW ?_
   exact A1 [] hI hj2 (A8 hI hj2 (by simpa using h2)) ⟨⟨E,E,Bg _,hc,E,E,E,E,E,E,Y⟩,Y,E,E⟩
 ·have h:=of_decide_eq_false h
  refine oO ?_
  refine At E (.cons .tmp .nil) (congrArg Ab ?_) E
  exact Cz hI q_
theorem Ahq (l:List Int) (p:Nat→Int→Bool) (f:FuncId) (first cap:List SV) (hc:(SV.clo (.func f) first cap).inn []=true) (hf:∀ i (h:i<l.length),Hk Tryz.prog f (first++[Aa i,Aa l[i]]++cap) (Ab (p i l[i]))) (hl:Aq l) :
  Sy.Spec Tryz.prog 172 [.sl 1 Aa l,.clo (.func f) first cap] [] (Ab (Dj p l)) []:=cT F172 Tryz.ntmps172 fun F hF=>by
 unfold Aq at hl
 have hin:∀ (i:Nat) (x:Int),By [] (first++[Aa i,Aa x]++cap)=true:=fun i x=>Cy hc rfl
 conv=>whnf
 refine A3 l.length (fun j=>Dw p l j) (fun j=>[(0,.sl 1 Aa l),(1,.clo (.func f) first cap),(7,.sl 1 Aa l),(8,Aa l.length),(9,Aa j)]) (fun _=>[]) [] (Bb _ _) ⟨⟨E,E,Bg _,hc,E,E,E,E,E,E,Y⟩,Y,E,E⟩ ?_
 intro j hj hI
 refine oO ?_
 refine⟨fun h=>?_,fun h=>?_⟩
 ·have h:=of_decide_eq_true h
  have hj2:j<l.length:=by omega
  refine oO ?_
  refine⟨E,by omega,by omega,?_⟩
  conv=>whnf
  refine H4 (hf j hj2) E E E (by simp only[hin];rfl) E E ?_
  refine oO ?_
  refine⟨fun h2=>?_,fun h2=>?_⟩
  ·refine oO ?_
   refine At E (.cons .tmp .nil) (congrArg Ab ?_) E
   exact Bs hj2 (by simpa using h2)
  ·refine oO ?_
   refine iW ?_
   exact A1 [] hI hj2 (A8 hI hj2 (by simpa using h2)) ⟨⟨E,E,Bg _,hc,E,E,E,E,E,E,Y⟩,Y,E,E⟩
 ·have h:=of_decide_eq_false h
  refine oO ?_
  refine At E (.cons .tmp .nil) (congrArg Ab ?_) E
  exact Cz hI q_
structure Net.Fin (n:Net):Prop where
 devices:Aq n.devices
 ports:Aq n.ports
 links:Aq n.links
 domains:Aq n.domains
 statics:Aq n.statics
 floods:Aq n.floods
 vrfs:Aq n.vrfs
 irbs:Aq n.irbs
 tagged:∀ p∈n.ports,Aq p.tagged
 peers:∀ d∈n.domains,Aq d.peers
 addrs:∀ f∈n.floods,Aq f.addrs
 imports:∀ v∈n.vrfs,Aq v.imports
 exports:∀ v∈n.vrfs,Aq v.exports
def Bz (n:Net) (dev vlan:Int):Int:=Bc (fun d=>d.dev == dev && d.vlan == vlan) n.domains
theorem Ai0 (dev vlan:Int) (d:Domain):Sy.Spec Tryz.prog 253 [Af d,.ref 1 (Aa dev) 0,.ref 1 (Aa vlan) 0] [] (Ab (d.dev == dev && d.vlan == vlan)) []:=cT F253 Tryz.ntmps253 fun F hF=>by
 conv=>whnf
 (repeat' (first | (refine⟨fun h=>?_,fun h=>?_⟩<;>(repeat (first | simp only[beq_iff_eq]at h | simp only[beq_eq_false_iff_ne]at h))<;>((refine oO ?_))) | (refine At rfl (.cons .tmp .nil) ?_ rfl)))
 all_goals (refine congrArg Ab ?_)
 all_goals simp_all
theorem Jh (n:Net) (dev vlan:Int) (hl:Aq n.domains):Sy.Spec Tryz.prog 171 [Aj n,Aa dev,Aa vlan] [] (Aa (Bz n dev vlan)) []:=cT F171 Tryz.ntmps171 fun F hF=>by
 conv=>whnf
 refine A6 4 1 (Aa dev) E E E ?_
 refine A6 5 1 (Aa vlan) E E E ?_
 refine c0 (Db n.domains (fun d=>d.dev == dev && d.vlan == vlan) 253 [] [.ref 1 (Aa dev) 0,.ref 1 (Aa vlan) 0] E (fun d _=>⟨⟨_,_,F253⟩,Ai0 dev vlan d⟩) hl) F163 ?_
 refine oO ?_
 exact dN
def Zj (n:Net):Bool:=decide (n.devices.length≤8) && decide (n.ports.length≤40) && decide (n.links.length≤20) && decide (n.domains.length≤48) && decide (n.statics.length≤64) && decide (n.floods.length≤48) && decide (n.vrfs.length≤16) && decide (n.irbs.length≤48)
theorem fewS (n:Net):Sy.Spec Tryz.prog 69 [Aj n] [] (Ab (Zj n)) []:=cT F69 Tryz.ntmps69 fun F hF=>by
 conv=>whnf
 (repeat' (first | (refine⟨fun h=>?_,fun h=>?_⟩<;>(repeat (first | simp only[decide_eq_true_eq]at h | simp only[decide_eq_false_iff_not]at h))<;>((refine oO ?_);repeat((refine aF ?_);(refine oO ?_)))) | (refine At rfl (.cons .tmp .nil) ?_ rfl)))
 all_goals (refine congrArg Ab ?_)
 all_goals (unfold Zj;rw[Bool.eq_iff_iff];simp;omega)
def Kq (n:Net) (i:Nat) (d:Domain):Bool :=
 Ah d.dev n.devices.length && decide (1≤d.vlan) && decide (d.vlan≤4094) && decide (0≤d.vni) && decide (d.vni≤16777215) && (d.irb == -1 || Ah d.irb n.irbs.length && (nth n.irbs d.irb).domain == i) && Bz n d.dev d.vlan == i
theorem bareS (n:Net) (i:Nat) (d:Domain) (hl:Aq n.domains):Sy.Spec Tryz.prog 71 [Aj n,Aa i,Af d] [] (Ab (Kq n i d)) []:=cT F71 Tryz.ntmps71 fun F hF=>by
 conv=>whnf
 (repeat' (first | (refine⟨fun h=>?_,fun h=>?_⟩<;>(repeat (first | simp only[Ah]at h | simp only[decide_eq_true_eq]at h | simp only[decide_eq_false_iff_not]at h | simp only[beq_iff_eq]at h | simp only[beq_eq_false_iff_ne]at h | simp only[Bool.and_eq_true]at h | simp only[Bool.and_eq_false_iff]at h))<;>((refine oO ?_);repeat((first|refine aF ?_|refine aT ?_);(refine oO ?_)))) | (refine At rfl (.cons .tmp .nil) ?_ rfl) | (refine⟨z_,?_⟩;((conv=>whnf))) | (refine⟨by (omega),by (omega),?_⟩;((conv=>whnf))) | (refine c0 (Dq 5 Ar n.devices d.dev) F81 ?_;((refine oO ?_))) | (refine c0 (Aa8 5 Bt n.irbs d.irb) F170 ?_;((refine oO ?_))) | (refine c0 (Jh n d.dev d.vlan hl) F171 ?_;((refine oO ?_)))))
 all_goals (refine congrArg Ab ?_)
 all_goals (clear hF;grind [Kq,Ah,Am])
def Hp (n:Net) (d:Domain):Bool:=(nth n.devices d.dev).vtep != 0
theorem Ajc (n:Net) (d:Domain) (hd:Ah d.dev n.devices.length=true):Sy.Spec Tryz.prog 254 [Aj n,Af d] [] (Ab (Hp n d)) []:=cT F254 Tryz.ntmps254 fun F hF=>by
 simp only[Ah,Bool.and_eq_true,decide_eq_true_eq]at hd
 conv=>whnf
 (repeat' (first | (refine At rfl (.cons .tmp .nil) ?_ rfl) | (refine⟨z_,?_⟩;((conv=>whnf))) | (refine⟨by (omega),by (omega),?_⟩;((conv=>whnf)))))
 all_goals (refine congrArg Ab ?_)
 all_goals (clear hF;grind [Hp,Am])
def Lm (n:Net) (i:Nat) (d:Domain) (k:Int):Bool :=
 Ah k n.domains.length && k != i && Ah (nth n.domains k).dev n.devices.length && (nth n.domains k).dev != d.dev && (nth n.domains k).vni == d.vni && d.vni != 0 && Hp n (nth n.domains k) && Hp n d && inB (nth n.domains k).peers i
theorem peerS (n:Net) (i:Nat) (d:Domain) (k:Int) (hn:n.Fin) (hd:Ah d.dev n.devices.length=true):Sy.Spec Tryz.prog 174 [Aj n,Aa i,Af d,Aa k] [] (Ab (Lm n i d k)) []:=cT F174 Tryz.ntmps174 fun F hF=>by
 conv=>whnf
 (repeat' (first | (refine⟨fun h=>?_,fun h=>?_⟩<;>(repeat (first | simp only[Ah]at h | simp only[decide_eq_true_eq]at h | simp only[decide_eq_false_iff_not]at h | simp only[beq_iff_eq]at h | simp only[beq_eq_false_iff_ne]at h | simp only[bne_iff_ne]at h | simp only[bne_eq_false_iff_eq]at h | simp only[Bool.and_eq_true]at h | simp only[Bool.and_eq_false_iff]at h | simp only[Bool.not_eq_true']at h | simp only[Bool.not_eq_false']at h))<;>((refine oO ?_);repeat((first|refine aF ?_|refine aT ?_);(refine oO ?_)))) | (refine At rfl (.cons .tmp .nil) ?_ rfl) | (refine⟨z_,?_⟩;((conv=>whnf))) | (refine⟨by (omega),by (omega),?_⟩;((conv=>whnf))) | (refine c0 (Ik 6 Af n.domains k) F178 ?_;((refine oO ?_))) | (refine c0 (Dq 5 Ar n.devices (n.domains[k.toNat]'q_).dev) F81 ?_;((refine oO ?_))) | (refine c0 (Ajc n (n.domains[k.toNat]'q_) (by simp only[Ah,Bool.and_eq_true,decide_eq_true_eq];omega)) F254 ?_;((refine oO ?_))) | (refine c0 (Ajc n d hd) F254 ?_;((refine oO ?_))) | (refine c0 (I6 (n.domains[k.toNat]'q_).peers i (hn.peers _ (List.getElem_mem _))) F100 ?_;((refine oO ?_)))))
 all_goals (refine congrArg Ab ?_;clear hF;grind [Lm,Ah,Am])
def Il (n:Net) (i:Nat) (d:Domain):Bool:=Dj (fun at_ k=>Lm n i d k && Bc (· == k) d.peers == at_) d.peers
theorem peers1 (n:Net) (i:Nat) (d:Domain) (at_:Nat) (k:Int) (hn:n.Fin) (hp:Aq d.peers) (hd:Ah d.dev n.devices.length=true) :
  Sy.Spec Tryz.prog 173 [Aa at_,Aa k,.ref 8 (Aj n) 0,.ref 1 (Aa i) 0,.ref 6 (Af d) 0] [] (Ab (Lm n i d k && Bc (· == k) d.peers == at_)) []:=cT F173 Tryz.ntmps173 fun F hF=>by
 conv=>whnf
 (repeat' (first | (refine⟨fun h=>?_,fun h=>?_⟩<;>((refine oO ?_))) | (refine At rfl (.cons .tmp .nil) ?_ rfl) | (refine c0 (peerS n i d k hn hd) F174 ?_;((refine oO ?_))) | (refine c0 (Ag2 d.peers k hp) F175 ?_;((refine oO ?_)))))
 all_goals (refine congrArg Ab ?_;clear hF;grind)
theorem peersS (n:Net) (i:Nat) (d:Domain) (hn:n.Fin) (hp:Aq d.peers) (hd:Ah d.dev n.devices.length=true):Sy.Spec Tryz.prog 72 [Aj n,Aa i,Af d] [] (Ab (Il n i d)) []:=cT F72 Tryz.ntmps72 fun F hF=>by
 conv=>whnf
 refine A6 3 8 (Aj n) E E E ?_
 refine A6 4 1 (Aa i) E E E ?_
 refine A6 5 6 (Af d) E E E ?_
 refine c0 (Ahq d.peers (fun at_ k=>Lm n i d k && Bc (· == k) d.peers == at_) 173 [] [.ref 8 (Aj n) 0,.ref 1 (Aa i) 0,.ref 6 (Af d) 0] E (fun a ha=>⟨⟨_,_,F173⟩,peers1 n i d a d.peers[a] hn hp hd⟩) hp) F172 ?_
 refine oO ?_
 exact dN
def Ct (n:Net) (dev vlan:Int):Bool:=decide (0≤Bz n dev vlan)
def Ic (n:Net) (i:Nat) (p:Port):Bool :=
 Ah p.dev n.devices.length && decide (0≤p.native) && decide (p.native≤4094) && (decide (p.tagged.length=0) || Ds p.tagged 1 4094) && !inB p.tagged p.native && !(p.native == 0 && decide (p.tagged.length=0)) &&
  Dj (fun _ v=>Ct n p.dev v) p.tagged && !(decide (0<p.native) && !Ct n p.dev p.native) &&
  (p.link == -1 || Ah p.link n.links.length && ((nth n.links p.link).a == i || (nth n.links p.link).b == i))
theorem Abo (n:Net) (i:Nat) (p:Port) (hn:n.Fin) (hp:Aq p.tagged):Sy.Spec Tryz.prog 74 [Aj n,Aa i,Au p] [] (Ab (Ic n i p)) []:=cT F74 Tryz.ntmps74 fun F hF=>by
 conv=>whnf
 (repeat' (first | (refine⟨fun h=>?_,fun h=>?_⟩<;>(repeat (first | simp only[Ah]at h | simp only[decide_eq_true_eq]at h | simp only[decide_eq_false_iff_not]at h | simp only[beq_iff_eq]at h | simp only[beq_eq_false_iff_ne]at h | simp only[Bool.and_eq_true]at h | simp only[Bool.or_eq_true]at h | simp only[Bool.and_eq_false_iff]at h | simp only[Bool.or_eq_false_iff]at h | simp only[Bool.not_eq_true']at h | simp only[Bool.not_eq_false']at h))<;>((refine oO ?_);repeat((first|refine aF ?_|refine aT ?_);(refine oO ?_)))) | (refine At rfl (.cons .tmp .nil) ?_ rfl) | (refine c0 (Dq 5 Ar n.devices p.dev) F81 ?_;((refine oO ?_))) | (refine c0 (Wd p.tagged 4094 hp) F84 ?_;((refine oO ?_))) | (refine c0 (I6 p.tagged p.native hp) F100 ?_;((refine oO ?_)))))
 all_goals first | (refine congrArg Ab ?_;clear hF;grind [Ic,Ah]) | skip
 all_goals (
  refine A6 3 8 (Aj n) E E E ?_
  refine A6 5 7 (Au p) E E E ?_
  refine A3 p.tagged.length (fun j=>Dw (fun _ v=>Ct n p.dev v) p.tagged j) (fun j=>[(1,Aa i),(3,.ref 8 (Aj n) 0),(5,.ref 7 (Au p) 0),(51,.sl 1 Aa p.tagged),(52,Aa p.tagged.length),(53,Aa j)]) (fun _=>[]) [] (Bb _ _) ⟨⟨E,E,E,E,E,E,E,E,E,E,E,E,Y⟩,Y,E,E⟩ ?_
  intro j hj hI
  have hsh:=hp
  unfold Aq at hsh
  ((first|refine rG Γ hm ?_|refine rD Γ hm z_ ?_);(conv=>whnf);repeat((first|refine aF ?_|refine aT ?_);(first|refine rG Γ hm ?_|refine rD Γ hm z_ ?_);conv=>whnf)))
 all_goals (
  (repeat' (first | (refine⟨fun h=>?_,fun h=>?_⟩<;>(repeat (first | simp only[Ah]at h | simp only[decide_eq_true_eq]at h | simp only[decide_eq_false_iff_not]at h | simp only[beq_iff_eq]at h | simp only[beq_eq_false_iff_ne]at h | simp only[Bool.and_eq_true]at h | simp only[Bool.and_eq_false_iff]at h))<;>((refine oO ?_);repeat((refine aF ?_);(refine oO ?_)))) | (refine At rfl (.cons .tmp .nil) ?_ rfl) | (refine⟨z_,?_⟩;((conv=>whnf))) | (refine⟨by (omega),by (omega),?_⟩;((conv=>whnf))) | (refine⟨by (unfold I64;omega),?_⟩;((conv=>whnf))) | (refine c0 (Jh n p.dev (p.tagged[j]'q_) hn.domains) F171 ?_;((refine oO ?_))) | (refine c0 (Jh n p.dev p.native hn.domains) F171 ?_;((refine oO ?_))) | (refine c0 (Yl 3 Br n.links p.link) F176 ?_;((refine oO ?_))) | refine A1 [] hI q_ ?_ ⟨⟨rfl,rfl,rfl,rfl,rfl,rfl,rfl,rfl,rfl,rfl,rfl,rfl,trivial⟩,trivial,rfl,rfl⟩)))
 all_goals first
  | exact A8 hI q_ (by simp only[Ct,decide_eq_true_eq];omega)
  | (refine congrArg Ab ?_
     have h0:Dj (fun _ v=>Ct n p.dev v) p.tagged=false:=Bs (i:=j) q_ (by simp only[Ct,decide_eq_false_iff_not];omega)
     clear hF hI;grind [Ic])
  | (refine congrArg Ab ?_
     have h0:Dj (fun _ v=>Ct n p.dev v) p.tagged=true:=Cz hI q_
     clear hF hI;grind [Ic,Ah,Ct,Am])
def Qu (n:Net) (i:Nat) (l:Link):Bool :=
 Ah l.a n.ports.length && Ah l.b n.ports.length && (nth n.ports l.a).dev != (nth n.ports l.b).dev && (nth n.ports l.a).link == i && (nth n.ports l.b).link == i
theorem Abp (n:Net) (i:Nat) (l:Link):Sy.Spec Tryz.prog 76 [Aj n,Aa i,Br l] [] (Ab (Qu n i l)) []:=cT F76 Tryz.ntmps76 fun F hF=>by
 conv=>whnf
 (repeat' (first | (refine⟨fun h=>?_,fun h=>?_⟩<;>(repeat (first | simp only[Ah]at h | simp only[decide_eq_true_eq]at h | simp only[decide_eq_false_iff_not]at h | simp only[beq_iff_eq]at h | simp only[beq_eq_false_iff_ne]at h | simp only[bne_iff_ne]at h | simp only[bne_eq_false_iff_eq]at h | simp only[Bool.and_eq_true]at h | simp only[Bool.and_eq_false_iff]at h | simp only[Bool.not_eq_true']at h | simp only[Bool.not_eq_false']at h))<;>((refine oO ?_);repeat((first|refine aF ?_|refine aT ?_);(refine oO ?_)))) | (refine At rfl (.cons .tmp .nil) ?_ rfl) | (refine⟨z_,?_⟩;((conv=>whnf))) | (refine⟨by (omega),by (omega),?_⟩;((conv=>whnf))) | (refine c0 (J6 7 Au n.ports l.a) F177 ?_;((refine oO ?_))) | (refine c0 (J6 7 Au n.ports l.b) F177 ?_;((refine oO ?_)))))
 all_goals (refine congrArg Ab ?_;clear hF;grind [Qu,Ah,Am])
def H9 (n:Net) (s:Static):Bool :=
 Ah s.domain n.domains.length && Ah s.port n.ports.length && (nth n.ports s.port).dev == (nth n.domains s.domain).dev && Co (nth n.ports s.port) (nth n.domains s.domain).vlan
theorem Wx (n:Net) (i:Nat) (s:Static) (hn:n.Fin):Sy.Spec Tryz.prog 78 [Aj n,Aa i,Az s] [] (Ab (H9 n s)) []:=cT F78 Tryz.ntmps78 fun F hF=>by
 conv=>whnf
 (repeat' (first | (refine⟨fun h=>?_,fun h=>?_⟩<;>(repeat (first | simp only[Ah]at h | simp only[decide_eq_true_eq]at h | simp only[decide_eq_false_iff_not]at h | simp only[beq_iff_eq]at h | simp only[beq_eq_false_iff_ne]at h | simp only[Bool.and_eq_true]at h | simp only[Bool.and_eq_false_iff]at h | simp only[Bool.not_eq_true']at h | simp only[Bool.not_eq_false']at h))<;>((refine oO ?_);repeat((refine aT ?_);(refine oO ?_)))) | (refine At rfl (.cons .tmp .nil) ?_ rfl) | (refine⟨z_,?_⟩;((conv=>whnf))) | (refine⟨by (omega),by (omega),?_⟩;((conv=>whnf))) | (refine c0 (Ik 6 Af n.domains s.domain) F178 ?_;((refine oO ?_))) | (refine c0 (J6 7 Au n.ports s.port) F177 ?_;((refine oO ?_))) | (refine c0 (Wr (n.ports[s.port.toNat]'q_) (n.domains[s.domain.toNat]'q_).vlan (hn.tagged _ (List.getElem_mem _))) F179 ?_;((refine oO ?_)))))
 all_goals (refine congrArg Ab ?_;clear hF;grind [H9,Ah,Am])
def Um (n:Net) (i:Nat) (x:Irb):Bool :=
 Ah x.domain n.domains.length && Ah x.vrf n.vrfs.length && (nth n.domains x.domain).dev == (nth n.vrfs x.vrf).dev && (nth n.domains x.domain).irb == i && decide (1≤x.bits) && decide (x.bits≤30)
theorem Aet (n:Net) (i:Nat) (x:Irb):Sy.Spec Tryz.prog 86 [Aj n,Aa i,Bt x] [] (Ab (Um n i x)) []:=cT F86 Tryz.ntmps86 fun F hF=>by
 conv=>whnf
 (repeat' (first | (refine⟨fun h=>?_,fun h=>?_⟩<;>(repeat (first | simp only[Ah]at h | simp only[decide_eq_true_eq]at h | simp only[decide_eq_false_iff_not]at h | simp only[beq_iff_eq]at h | simp only[beq_eq_false_iff_ne]at h | simp only[Bool.and_eq_true]at h | simp only[Bool.and_eq_false_iff]at h))<;>((refine rd z_ ?_);(conv=>whnf);repeat((refine aF ?_);(refine rd z_ ?_);(conv=>whnf)))) | (refine At rfl (.cons .tmp .nil) ?_ rfl) | (refine⟨z_,?_⟩;((conv=>whnf))) | (refine⟨by (omega),by (omega),?_⟩;((conv=>whnf))) | (refine cD (Ik 6 Af n.domains x.domain) F178 ?_;((refine rd z_ ?_);(conv=>whnf))) | (refine cD (Aa7 5 Bv n.vrfs x.vrf) F181 ?_;((refine rd z_ ?_);(conv=>whnf)))))
 all_goals (refine congrArg Ab ?_;clear hF;grind [Um,Ah,Am])
def H1 (n:Net) (f:Flood):Bool:=Ah f.dev n.devices.length && decide (f.addrs.length≤16)
theorem right1 (n:Net) (i:Nat) (f:Flood):Sy.Spec Tryz.prog 80 [Aa i,A0 f,.ref 8 (Aj n) 0] [] (Ab (H1 n f)) []:=cT F80 Tryz.ntmps80 fun F hF=>by
 conv=>whnf
 (repeat' (first | (refine⟨fun h=>?_,fun h=>?_⟩<;>(repeat (first | simp only[Ah]at h | simp only[decide_eq_true_eq]at h | simp only[decide_eq_false_iff_not]at h | simp only[Bool.and_eq_true]at h | simp only[Bool.and_eq_false_iff]at h))<;>((refine oO ?_))) | (refine At rfl (.cons .tmp .nil) ?_ rfl) | (refine c0 (Dq 5 Ar n.devices f.dev) F81 ?_;((refine oO ?_)))))
 all_goals (refine congrArg Ab ?_;clear hF;grind [H1,Ah])
def Li (l:List Int) (most:Int):Bool:=decide (l.length=0) || Ds l 1 most
def Xo (n:Net) (v:Vrf):Bool:=Ah v.dev n.devices.length && Li v.imports 65535 && Li v.exports 65535
theorem right2 (n:Net) (i:Nat) (v:Vrf) (h1:Aq v.imports) (h2:Aq v.exports):Sy.Spec Tryz.prog 83 [Aa i,Bv v,.ref 8 (Aj n) 0] [] (Ab (Xo n v)) []:=cT F83 Tryz.ntmps83 fun F hF=>by
 conv=>whnf
 (repeat' (first | (refine⟨fun h=>?_,fun h=>?_⟩<;>(repeat (first | simp only[Ah]at h | simp only[decide_eq_true_eq]at h | simp only[decide_eq_false_iff_not]at h | simp only[Bool.and_eq_true]at h | simp only[Bool.or_eq_true]at h | simp only[Bool.and_eq_false_iff]at h | simp only[Bool.or_eq_false_iff]at h))<;>((refine oO ?_);repeat((refine aF ?_);(refine oO ?_)))) | (refine At rfl (.cons .tmp .nil) ?_ rfl) | (refine c0 (Dq 5 Ar n.devices v.dev) F81 ?_;((refine oO ?_))) | (refine c0 (Wd v.imports 65535 h1) F84 ?_;((refine oO ?_))) | (refine c0 (Wd v.exports 65535 h2) F84 ?_;((refine oO ?_)))))
 all_goals (refine congrArg Ab ?_;clear hF;grind [Xo,Li,Ah])
def Ac (n:Net):Bool :=
 Zj n && Dj (Kq n) n.domains && Dj (Il n) n.domains && Dj (Ic n) n.ports && Dj (Qu n) n.links && Dj (fun _=>H9 n) n.statics && Dj (fun _=>H1 n) n.floods && Dj (fun _=>Xo n) n.vrfs && Dj (Um n) n.irbs
theorem Ahn {n:Net} (h:Dj (Kq n) n.domains=true) {i:Nat} (hi:i<n.domains.length):Ah n.domains[i].dev n.devices.length=true:=by
 have:=allB_iff.1 h i hi
 simp only[Kq,Bool.and_eq_true]at this
 exact this.1.1.1.1.1.1
theorem Bd (n:Net) (hn:n.Fin):Sy.Spec Tryz.prog 25 [Aj n] [] (Ab (Ac n)) []:=cT F25 Tryz.ntmps25 fun F hF=>by
 conv=>whnf
 refine A6 1 8 (Aj n) E E E ?_
 (repeat' (first | (refine⟨fun h=>?_,fun h=>?_⟩<;>((refine oO ?_);repeat((refine aF ?_);(refine oO ?_)))) | (refine At rfl (.cons .tmp .nil) ?_ rfl) | (refine c0 (fewS n) F69 ?_;((refine oO ?_))) | (refine c0 (Q5 n.domains (Kq n) 71 [Aj n] [] rfl (fun i h=>⟨⟨_,_,F71⟩,bareS n i n.domains[i] hn.domains⟩) hn.domains) F70 ?_;((refine oO ?_))) | (refine Jw (Q5 n.domains (Il n) 72 [Aj n] [] rfl (fun i h=>⟨⟨_,_,F72⟩,peersS n i n.domains[i] hn (hn.peers _ (List.getElem_mem _)) (Ahn ‹_› h)⟩) hn.domains) F70 rfl rfl rfl rfl rfl ?_;((refine oO ?_))) | (refine Jw (Ae7 n.ports (Ic n) 74 [Aj n] [] rfl (fun i h=>⟨⟨_,_,F74⟩,Abo n i n.ports[i] hn (hn.tagged _ (List.getElem_mem _))⟩) hn.ports) F73 rfl rfl rfl rfl rfl ?_;((refine oO ?_))) | (refine c0 (Ae8 n.links (Qu n) 76 [Aj n] [] rfl (fun i h=>⟨⟨_,_,F76⟩,Abp n i n.links[i]⟩) hn.links) F75 ?_;((refine oO ?_))) | (refine c0 (Z0 n.statics (fun _=>H9 n) 78 [Aj n] [] rfl (fun i h=>⟨⟨_,_,F78⟩,Wx n i n.statics[i] hn⟩) hn.statics) F77 ?_;((refine oO ?_))) | (refine c0 (Acf n.floods (fun _=>H1 n) 80 [] [.ref 8 (Aj n) 0] rfl (fun i h=>⟨⟨_,_,F80⟩,right1 n i n.floods[i]⟩) hn.floods) F79 ?_;((refine oO ?_))) | (refine Jw (Ahr n.vrfs (fun _=>Xo n) 83 [] [.ref 8 (Aj n) 0] rfl (fun i h=>⟨⟨_,_,F83⟩,right2 n i n.vrfs[i] (hn.imports _ (List.getElem_mem _)) (hn.exports _ (List.getElem_mem _))⟩) hn.vrfs) F82 rfl rfl rfl rfl rfl ?_;((refine oO ?_))) | (refine c0 (Ahs n.irbs (Um n) 86 [Aj n] [] rfl (fun i h=>⟨⟨_,_,F86⟩,Aet n i n.irbs[i]⟩) hn.irbs) F85 ?_;((refine oO ?_)))))
 all_goals (refine congrArg Ab ?_)
 all_goals (clear hF;simp_all[Ac])
def orI:List Int→Int
 | []=>0
 | x::l=>if x=0 then orI l else x
end Go.Sy.YtjenpnjajjplkaaGreatDoor
namespace Go.Sy.YtjenpnjajjplkaaGreatDoor
open Go.Proofs
structure LineM where
 row:Int
 kind:Int
 dev:ByteArray
 port:ByteArray
 peer:ByteArray
 far:ByteArray
 name:ByteArray
 mac:Int
 addr:Int
 bits:Int
 vlan:Int
 num:Int
 cost:Int
 tagged:List Int
 imports:List Int
 exports:List Int
 addrs:List Int
def C3 (l:LineM):List SV:=[Aa l.row,Aa l.kind,Ai l.dev,Ai l.port,Ai l.peer,Ai l.far,Ai l.name,Hq l.mac,Bi l.addr,Aa l.bits,Aa l.vlan,Aa l.num,Aa l.cost,.sl 1 Aa l.tagged,.sl 1 Aa l.imports,.sl 1 Aa l.exports,.sl 1 Bi l.addrs]
def Ap (l:LineM):SV:=.agg [Aa l.row,Aa l.kind,Ai l.dev,Ai l.port,Ai l.peer,Ai l.far,Ai l.name,Hq l.mac,Bi l.addr,Aa l.bits,Aa l.vlan,Aa l.num,Aa l.cost,.sl 1 Aa l.tagged,.sl 1 Aa l.imports,.sl 1 Aa l.exports,.sl 1 Bi l.addrs]
theorem Af5 (x:Int) (l:List Int):orI (x::l)=Qi x (orI l):=by
 rw[orI];unfold Qi;split<;>simp_all
theorem CmpOK.const {α:Type}:CmpOK (fun _ _:α=>(0:Int)):=⟨fun _ _=>by simp,fun _ _ _ _ _=>by simp⟩
theorem CmpOK.or {α:Type} {c:α→α→Int} {d:α→α→List Int} (hc:CmpOK c) (hd:CmpOK (fun x y=>orI (d x y))):CmpOK (fun x y=>orI (c x y::d x y)):=by
 have h:=hc.then hd
 simp only[Af5]
 exact h
end Go.Sy.YtjenpnjajjplkaaGreatDoor
namespace Go.Sy
theorem Z6 {C:Cx} {k:List KI} {s:SS} (d:Nat) {sz:Nat} {α β:Type} {e:α→SV} {l:List α} {e':β→SV} {l':List β} (h:s.h d=.row sz e l) (hl:l'.length=l.length)
  (hv:∀ (M:Nat→Prop) (w:World) (i:Nat) (h1:i<l.length) (h2:i<l'.length) (v:Value),RdD M w (e l[i]) v→RdD M w (e' l'[i]) v) (hg:G C k ⟨s.σ,upd s.h d (.row sz e' l')⟩):G C k s:=fun κ a w hs =>
 hg κ a w ⟨hs.defers,hs.size,hs.inv,hs.ctx,hs.slot,fun i=>by
  show ObOK κ w i (upd s.h d (.row sz e' l') i)
  by_cases hi:i=d
  ·subst hi
   rw[B1]
   have:=hs.obj i
   rw[h]at this
   rcases this with ⟨h1,rfl⟩ | ⟨b,cap,cs,T,fr,e1,e2,e3,e4,e5,e6⟩
   ·exact .inl ⟨h1,List.eq_nil_of_length_eq_zero (by simpa using hl)⟩
   ·refine .inr ⟨b,cap,cs,T,fr,by rw[hl];exact e1,e2,e3,e4,by omega,fun i x hx=>?_⟩
    obtain ⟨hi2,rfl⟩:=hx
    obtain ⟨_,u,hu,hrest⟩:=e6 i (e (l[i]'q_)) ⟨by omega,rfl⟩
    exact⟨hi2,u,hv _ _ i q_ hi2 u hu,hrest⟩
  ·rw[Cq _ _ hi];exact hs.obj i⟩
theorem K5 {P:Program} (w:World) {t e:TypeId} (h:P.underlying t=some (.slice e)) (ad:Option Addr) (n cap c1 c2:Nat):(Op.equal t (.slice ad n cap) (.slice none c1 c2)).run P w=.ok ad.isNone w:=by
 have key:∀ d,(Op.equalIn (d+1) t (.slice ad n cap) (.slice none c1 c2)).run P w=.ok ad.isNone w:=fun d=>by
  cases ad<;>simp[Op.equalIn,run_underlying h]
 exact key 9999
inductive NilT (s:SS):SV→List Nat→Nat→Prop
 | sl {sz:Nat} {α:Type} {e:α→SV} {l:List α}:NilT s (.sl sz e l) [] l.length
 | row {k sz:Nat} {α:Type} {e:α→SV} {l:List α} (h:s.h k=.row sz e l):NilT s (.osl k) [k] l.length
theorem NilT.at {C:Cx} {s:SS} {κ:Ka} {a:Act} {w:World} {x:Operand} {rd:List Nat} {n:Nat} (hs:St C.F C.n s κ a w) (hx:NilT s (ev s x) rd n):∃ (ad:Option Addr) (m cap:Nat),a.eval x=.slice ad m cap∧(ad.isNone=true→n=0):=by
 have h1:Rd κ w (ev s x) (a.eval x):=hs.ev x
 generalize ev s x=y at *
 cases hx with
 | @sl sz α e l =>
  simp only[Rd,RdD]at h1
  rcases h1 with ⟨rfl,a',cap,h1⟩ | ⟨b,off,cap,h1,_⟩
  ·exact⟨_,_,_,h1,fun _=>rfl⟩
  ·exact⟨_,_,_,h1,fun h=>by cases h⟩
 | @row k' sz α e l hr =>
  have hob:=hs.obj k'
  rw[hr]at hob
  simp only[Rd]at h1
  rcases hob with ⟨hκ,hl⟩ | ⟨b,cap,_,_,_,hκ,_⟩
  ·rw[hκ]at h1
   exact⟨_,_,_,h1,fun _=>by rw[hl];rfl⟩
  ·rw[hκ]at h1
   exact⟨_,_,_,h1,fun h=>by cases h⟩
theorem D3 {C:Cx} {k:List KI} {s:SS} {all:Array Oper} {o:Oper} {rest:List Oper} {op:BinOp} {t yt:TypeId} {ti:TI} {et:TypeId} {sz eb n:Nat} {ez:List Value} {x y:Operand} {rd:List Nat} (h:o.op=.binOp op t x y yt) (hop:op=.eql∨op=.neq)
  (ht:C.Γ.get t=some ti) (hk:ti.k=.slice et sz eb ez) (hy:ev s y=.val (.slice none 0 0)) (hx:NilT s (ev s x) rd n) (hd:Lx C.n o=true) (hw:Df C.n all o s=some true)
  (hg:∀ b:Bool,(b=true→n=0)→G C (.ops all rest::k) (s.upd o.dst ⟨.val (.bool (if op=.eql then b else !b)),rd,[]⟩)):G C (.ops all (o::rest)::k) s:=fun κ a w hs=>by
 have h2:Rd κ w (ev s y) (a.eval y):=hs.ev y
 rw[hy]at h2
 obtain ⟨ad,m,cap,e1,e2⟩:=hx.at hs
 obtain ⟨d,info,z,k1,k2,_⟩:=C.Γ.ok t ti ht
 rw[hk]at k2
 simp only[TK.ok]at k2
 have hrun:=K5 (P:=C.P) w (t:=t) (e:=et) (by first | exact k2.1 ▸ k1 | (rw[k1,k2.1])) ad m cap 0 0
 have hG:=hg ad.isNone e2
 have hv:=h2.val
 refine wpList_step fun K hK=>?_
 rw[if_pos (Ma hs (C7 hw).2 (C7 hw).1)]
 have hx':(execOp a.eval o).run C.P w=.ok (.value (.bool (if op=.eql then ad.isNone else !ad.isNone))) w:=by
  rcases hop with rfl | rfl<;>simp[execOp,h,e1,hv,eqGuard,binOp,hrun]
 simp only[Oper.wp,hx',Oper.upon]
 exact hK _ _ (hG κ _ w (hs.put (U:=⟨.val (.bool (if op=.eql then ad.isNone else !ad.isNone)),rd,[]⟩) (Tw hd) (Step.refl _ κ w) hs.inv (by simp[Rd]) (fun p hp=>by cases hp)))
def KeepL (s:SS):List (Nat × Ob)→Prop
 | []=>True
 | (k,o)::r=>s.h k=o∧KeepL s r
theorem KeepL.all {s:SS}:∀ {l:List (Nat × Ob)},KeepL s l→∀ p∈l,s.h p.1=p.2
 | [],_,p,hp=>by cases hp
 | (k,o)::r,h,p,hp=>by
  rcases List.mem_cons.1 hp with rfl | hp
  ·exact h.1
  ·exact KeepL.all h.2 p hp
theorem Ado {κ:Ka} {w w':World} (hi:Inv κ w) (g:Grew w w'):Step (fun _=>False) κ w κ w'∧Inv κ w' :=
 ⟨⟨g.size,g.os,g.tape,g.output,rfl,fun b hb=>g.blk b (hi.mbnd b hb),fun b hb _=>g.blk b hb,fun k b _ hb=>g.blk b (hi.bnd k b hb),fun _ _=>rfl,fun _ h=>h.elim,fun _ h=>.inl h⟩,
  ⟨hi.inj,fun k b h=>Nat.lt_of_lt_of_le (hi.bnd k b h) g.size,hi.apart,fun b h=>Nat.lt_of_lt_of_le (hi.mbnd b h) g.size⟩⟩
theorem Spec.of_calls {P:Program} {f:FuncId} {A:List SV} {H:Obs} {u:Value}
  (h:∀ (κ:Ka) (w:World) (vs:List Value),Inv κ w→RdL κ w A vs→H.ok κ w→Calls P f vs.toArray w fun e w'=>e=.returned u∧RowKit.Below w.heap.size w w'):Spec P f A H (.val u) H:=by
 intro κ w vs hi _ hr ho
 refine(h κ w vs hi hr ho).mono fun e w' hw=>?_
 obtain ⟨he,hw⟩:=hw
 have g:Grew w w':=⟨hw.os,hw.tape,hw.output,hw.size,hw.block⟩
 have st:=Ado hi g
 exact⟨u,κ,he,(Ctx.refl κ w).step st.2 st.1,st.2,by simp[Rd],fun p hp=>ObOK.step st.1 y_ p.2 (ho p hp)⟩
theorem Aaf {κ:Ka} {w:World} {l:List ByteArray} {v:Value} (h:Rd κ w (.sl 1 Ai l) v) :
  (l=[]∧∃ a c,v=.slice a 0 c)∨∃ b o c,v=.slice (some ⟨b,o,none⟩) l.length c∧l.length≤c∧b<w.heap.size∧∀ (j:Nat) x,l[j]? = some x→w.cell? ⟨b,o+j,none⟩=some (.string x):=by
 simp only[Rd,RdD]at h
 rcases h with ⟨h1,h2⟩ | ⟨b,off,cap,h1,h0,h2,h3,h4⟩
 ·exact .inl ⟨h1,h2⟩
 ·refine .inr ⟨b,off,cap,h1,h0,h3,fun j x hj=>?_⟩
  obtain ⟨hlt,he⟩:=List.getElem?_eq_some_iff.1 hj
  obtain ⟨u,h5,h6⟩:=h4 j hlt
  rw[he]at h5
  simp only[Ai,RdD]at h5
  subst h5
  have:=h6.2.2 0 q_
  simp only[Nat.mul_one,Nat.add_zero]at this
  exact this
theorem Oa {P:Program} {o:Oper} {s:SS} {x y:Operand} {at_:Array TypeId} {k k':IntKind} {m n:Int} (h:o.op=.call ⟨.builtin .min,#[x,y],at_⟩)
  (hx:ev s x=.val (.int k m)) (hy:ev s y=.val (.int k' n)):Good P o s ⟨.val (.int k (if n<m then n else m)),[],[]⟩ :=
 Good.pure fun κ a w _ hr ho=>by
  have h1:=hr x (by simp[h,Op.operands,Call.operands])
  have h2:=hr y (by simp[h,Op.operands,Call.operands])
  rw[hx]at h1
  rw[hy]at h2
  refine⟨.int k (if n<m then n else m),?_,by simp[Rd]⟩
  simp[execOp,h,resolve,invoke,builtin,Builtin.min_,Builtin.min2,h1.val,h2.val]
theorem Zb {P:Program} {o:Oper} {s:SS} {x y:Operand} {at_:Array TypeId} {k k':IntKind} {m n:Int} (h:o.op=.call ⟨.builtin .min,#[x,y],at_⟩)
  (hx:ev s x=.val (.int k m)) (hy:ev s y=.val (.int k' n)) (hle:m≤n):Good P o s ⟨.val (.int k m),[],[]⟩:=by
 have:=Oa (P:=P) h hx hy
 rwa [if_neg q_]at this
def Ci (l:List ByteArray) (sep:ByteArray):ByteArray:=⟨(Lib.join (l.map (·.data.toList)) sep.data.toList).toArray⟩
def Mg (l:List ByteArray):Nat:=(l.map (·.size)).sum
theorem Acz:∀ (l:List (List UInt8)) (sep:List UInt8),(Lib.join l sep).length≤(l.map (·.length)).sum+sep.length * l.length
 | [],_=>by simp[Lib.join_nil]
 | x::r,sep=>by
  rw[Lib.join_length]
  have:Lib.lens (x::r)=((x::r).map (·.length)).sum:=by
   clear sep
   induction (x::r) with
   | nil=>rfl
   | cons a t ih=>simp[Lib.lens,ih]
  rw[this,List.length_cons,Nat.mul_succ]
  omega
theorem Agx {l:List ByteArray} {sep:ByteArray} (h1:Mg l≤70368744177664) (h2:sep.size * l.length≤70368744177664):(Lib.join (l.map (·.data.toList)) sep.data.toList).length≤140737488355328:=by
 have:=Acz (l.map (·.data.toList)) sep.data.toList
 have e:(l.map (·.data.toList)).map (·.length)=l.map (·.size):=by
  rw[List.map_map]
  apply List.map_congr_left
  intro a _
  rfl
 rw[e,List.length_map]at this
 have e2:sep.data.toList.length=sep.size:=rfl
 rw[e2]at this
 unfold Mg at h1
 omega
end Go.Sy
namespace Go.Proofs
open Go.Shelf
def Tryz.lays156_ren:Go.Shelf.Ren:=⟨fun | 156=>182 | 165=>255 | 166=>256 | 169=>257 | 240=>319 | 241=>320 | 276=>379 | 277=>380 | n=>n,fun | 31=>68 | 9=>9 | 3=>3 | 4=>4 | 0=>0 | 20=>20 | 72=>313 | 76=>316 | 70=>311 | 37=>24 | 75=>315 | 127=>352 | 164=>380 | 5=>5 | 80=>292 | n=>n,fun | n=>n⟩
theorem Tryz.lays156:Go.Proofs.Lays.n156 Tryz.prog Tryz.lays156_ren:={
 mixed:=by kernel_rfl
 f156:=Tryz.func182.trans (congrArg some Go.Sy.z_)
 f165:=Tryz.func255.trans (congrArg some Go.Sy.z_)
 f166:=Tryz.func256.trans (congrArg some Go.Sy.z_)
 f169:=Tryz.func257.trans (congrArg some Go.Sy.z_)
 f240:=Tryz.func319.trans (congrArg some Go.Sy.z_)
 f241:=Tryz.func320.trans (congrArg some Go.Sy.z_)
 f276:=Tryz.func379.trans (congrArg some Go.Sy.z_)
 f277:=Tryz.func380.trans (congrArg some Go.Sy.z_)
 t0:=Tryz.underlying0
 a0:=Tryz.isAgg0
 z0:=Tryz.sizeOf0
 v0:=Tryz.zeroValue0
 t3:=Tryz.underlying3
 a3:=Tryz.isAgg3
 z3:=Tryz.sizeOf3
 v3:=Tryz.zeroValue3
 t4:=Tryz.underlying4
 a4:=Tryz.isAgg4
 z4:=Tryz.sizeOf4
 v4:=Tryz.zeroValue4
 t9:=Tryz.underlying9
 a9:=Tryz.isAgg9
 z9:=Tryz.sizeOf9
 v9:=Tryz.zeroValue9
 t20:=Tryz.underlying20
 a20:=Tryz.isAgg20
 z20:=Tryz.sizeOf20
 v20:=Tryz.zeroValue20
 t31:=Tryz.underlying68
 a31:=Tryz.isAgg68
 z31:=Tryz.sizeOf68
 v31:=Tryz.zeroValue68
 t37:=Tryz.underlying24
 a37:=Tryz.isAgg24
 z37:=Tryz.sizeOf24
 v37:=Tryz.zeroValue24
 t70:=Tryz.underlying311
 a70:=Tryz.isAgg311
 z70:=Tryz.sizeOf311
 v70:=Tryz.zeroValue311
 t72:=Tryz.underlying313
 a72:=Tryz.isAgg313
 z72:=Tryz.sizeOf313
 v72:=Tryz.zeroValue313
 t75:=Tryz.underlying315
 a75:=Tryz.isAgg315
 z75:=Tryz.sizeOf315
 v75:=Tryz.zeroValue315
 t76:=Tryz.underlying316
 a76:=Tryz.isAgg316
 z76:=Tryz.sizeOf316
 v76:=Tryz.zeroValue316
 t127:=Tryz.underlying352
 a127:=Tryz.isAgg352
 z127:=Tryz.sizeOf352
 v127:=Tryz.zeroValue352
 t164:=Tryz.underlying380
 a164:=Tryz.isAgg380
 z164:=Tryz.sizeOf380
 v164:=Tryz.zeroValue380 }
theorem Tryz.Builder_Extra_156:Builder.Extra Tryz.prog Tryz.lays156_ren:={
 sizeBuilder:=by kernel_rfl
 liesBuilder:=by kernel_rfl
 t5:=Tryz.underlying5
 a5:=Tryz.isAgg5
 z5:=Tryz.sizeOf5
 v5:=Tryz.zeroValue5
 infoByte:=by kernel_rfl
 cellsByte:=by kernel_rfl
 sizeByte:=by kernel_rfl
 neB5:=by decide }
open Go.RowKit in
theorem Tryz.strings_Join_none (a:Option Addr) (c:Nat) (sep:ByteArray) (w:World) :
  Calls Tryz.prog 182 #[.slice a 0 c,.string sep] w fun e w'=>e=.returned (.string ⟨#[]⟩)∧w'=w:=Any.strings_Join_none Tryz.lays156 Tryz.Builder_Extra_156 a c sep w
open Go.RowKit in
theorem Tryz.strings_Join (bk o c:Nat) (xs:List ByteArray) (sep:ByteArray) (w:World) (hcells:∀ (j:Nat) x,xs[j]? = some x→w.cell? ⟨bk,o+j,none⟩=some (.string x)) (hbk:bk<w.heap.size) (hN:xs.length≤140737488355328) (hcap:xs.length≤c) (hlen:(Lib.join (xs.map (·.data.toList)) sep.data.toList).length≤140737488355328) :
  Calls Tryz.prog 182 #[.slice (some ⟨bk,o,none⟩) xs.length c,.string sep] w fun e w'=>e=.returned (.string ⟨(Lib.join (xs.map (·.data.toList)) sep.data.toList).toArray⟩)∧Below w.heap.size w w':=Any.strings_Join Tryz.lays156 Tryz.Builder_Extra_156 bk o c xs sep w hcells hbk hN hcap hlen
def Tryz.lays137_ren:Go.Shelf.Ren:=⟨fun | 137=>208 | 217=>290 | 266=>354 | n=>n,fun | 9=>9 | 5=>5 | 3=>3 | n=>n,fun | n=>n⟩
theorem Tryz.lays137:Go.Proofs.Lays.n137 Tryz.prog Tryz.lays137_ren:={
 mixed:=by kernel_rfl
 f137:=Tryz.func208.trans (congrArg some Go.Sy.z_)
 f217:=Tryz.func290.trans (congrArg some Go.Sy.z_)
 f266:=Tryz.func354.trans (congrArg some Go.Sy.z_)
 t3:=Tryz.underlying3
 a3:=Tryz.isAgg3
 z3:=Tryz.sizeOf3
 v3:=Tryz.zeroValue3
 t5:=Tryz.underlying5
 a5:=Tryz.isAgg5
 z5:=Tryz.sizeOf5
 v5:=Tryz.zeroValue5
 t9:=Tryz.underlying9
 a9:=Tryz.isAgg9
 z9:=Tryz.sizeOf9
 v9:=Tryz.zeroValue9 }
open Go.RowKit in
theorem Tryz.strings_IndexByte (s:ByteArray) (c:Int) (w:World) :
  Calls Tryz.prog 208 #[.string s,.int .u8 c] w fun e w'=>e=.returned (.int .i64 (Lib.indexByte s.data.toList c.toNat.toUInt8))∧w'=w:=Any.strings_IndexByte Tryz.lays137 s c w
def Tryz.lays219_ren:Go.Shelf.Ren:=⟨fun | 219=>289 | 217=>290 | 225=>351 | 224=>352 | 267=>353 | 266=>354 | 314=>416 | n=>n,fun | 9=>9 | 3=>3 | 4=>4 | 5=>5 | 46=>275 | 146=>403 | 51=>62 | n=>n,fun | 1=>2 | n=>n⟩
theorem Tryz.lays219:Go.Proofs.Lays.n219 Tryz.prog Tryz.lays219_ren:={
 mixed:=by kernel_rfl
 f217:=Tryz.func290.trans (congrArg some Go.Sy.z_)
 f219:=Tryz.func289.trans (congrArg some Go.Sy.z_)
 f224:=Tryz.func352.trans (congrArg some Go.Sy.z_)
 f225:=Tryz.func351.trans (congrArg some Go.Sy.z_)
 f266:=Tryz.func354.trans (congrArg some Go.Sy.z_)
 f267:=Tryz.func353.trans (congrArg some Go.Sy.z_)
 f314:=Tryz.func416.trans (congrArg some Go.Sy.z_)
 t3:=Tryz.underlying3
 a3:=Tryz.isAgg3
 z3:=Tryz.sizeOf3
 v3:=Tryz.zeroValue3
 t4:=Tryz.underlying4
 a4:=Tryz.isAgg4
 z4:=Tryz.sizeOf4
 v4:=Tryz.zeroValue4
 t5:=Tryz.underlying5
 a5:=Tryz.isAgg5
 z5:=Tryz.sizeOf5
 v5:=Tryz.zeroValue5
 t9:=Tryz.underlying9
 a9:=Tryz.isAgg9
 z9:=Tryz.sizeOf9
 v9:=Tryz.zeroValue9
 t46:=Tryz.underlying275
 a46:=Tryz.isAgg275
 z46:=Tryz.sizeOf275
 v46:=Tryz.zeroValue275
 t51:=Tryz.underlying62
 a51:=Tryz.isAgg62
 z51:=Tryz.sizeOf62
 v51:=Tryz.zeroValue62
 t146:=Tryz.underlying403
 a146:=Tryz.isAgg403
 z146:=Tryz.sizeOf403
 v146:=Tryz.zeroValue403
 g1:=by kernel_rfl }
open Go.RowKit Go.Lib in
theorem Tryz.stringslite_Index_one (s:ByteArray) (c:UInt8) (w:World) :
  Calls Tryz.prog 289 #[.string s,.string ⟨#[c]⟩] w fun e w'=>e=.returned (.int .i64 (Lib.indexByte s.data.toList c))∧w'=w:=Any.stringslite_Index_one Tryz.lays219 s c w
def Tryz.lays143_ren:Go.Shelf.Ren:=⟨fun | 143=>261 | 219=>289 | 217=>290 | 225=>351 | 224=>352 | 267=>353 | 266=>354 | 314=>416 | n=>n,fun | 9=>9 | 3=>3 | 4=>4 | 5=>5 | 46=>275 | 146=>403 | 51=>62 | n=>n,fun | 1=>2 | n=>n⟩
theorem Tryz.lays143:Go.Proofs.Lays.n143 Tryz.prog Tryz.lays143_ren:={
 mixed:=by kernel_rfl
 f143:=Tryz.func261.trans (congrArg some Go.Sy.z_)
 f217:=Tryz.func290.trans (congrArg some Go.Sy.z_)
 f219:=Tryz.func289.trans (congrArg some Go.Sy.z_)
 f224:=Tryz.func352.trans (congrArg some Go.Sy.z_)
 f225:=Tryz.func351.trans (congrArg some Go.Sy.z_)
 f266:=Tryz.func354.trans (congrArg some Go.Sy.z_)
 f267:=Tryz.func353.trans (congrArg some Go.Sy.z_)
 f314:=Tryz.func416.trans (congrArg some Go.Sy.z_)
 t3:=Tryz.underlying3
 a3:=Tryz.isAgg3
 z3:=Tryz.sizeOf3
 v3:=Tryz.zeroValue3
 t4:=Tryz.underlying4
 a4:=Tryz.isAgg4
 z4:=Tryz.sizeOf4
 v4:=Tryz.zeroValue4
 t5:=Tryz.underlying5
 a5:=Tryz.isAgg5
 z5:=Tryz.sizeOf5
 v5:=Tryz.zeroValue5
 t9:=Tryz.underlying9
 a9:=Tryz.isAgg9
 z9:=Tryz.sizeOf9
 v9:=Tryz.zeroValue9
 t46:=Tryz.underlying275
 a46:=Tryz.isAgg275
 z46:=Tryz.sizeOf275
 v46:=Tryz.zeroValue275
 t51:=Tryz.underlying62
 a51:=Tryz.isAgg62
 z51:=Tryz.sizeOf62
 v51:=Tryz.zeroValue62
 t146:=Tryz.underlying403
 a146:=Tryz.isAgg403
 z146:=Tryz.sizeOf403
 v146:=Tryz.zeroValue403
 g1:=by kernel_rfl }
open Go.RowKit Go.Lib in
theorem Tryz.strings_Index_one (s:ByteArray) (c:UInt8) (w:World) :
  Calls Tryz.prog 261 #[.string s,.string ⟨#[c]⟩] w fun e w'=>e=.returned (.int .i64 (Lib.indexByte s.data.toList c))∧w'=w:=Any.strings_Index_one Tryz.lays143 s c w
def Tryz.lays138_ren:Go.Shelf.Ren:=⟨fun | 138=>260 | 195=>321 | 218=>323 | 143=>261 | 219=>289 | 217=>290 | 225=>351 | 224=>352 | 267=>353 | 266=>354 | 314=>416 | n=>n,fun | 9=>9 | 3=>3 | 4=>4 | 5=>5 | 0=>0 | 46=>275 | 146=>403 | 51=>62 | n=>n,fun | 1=>2 | n=>n⟩
theorem Tryz.lays138:Go.Proofs.Lays.n138 Tryz.prog Tryz.lays138_ren:={
 mixed:=by kernel_rfl
 f138:=Tryz.func260.trans (congrArg some Go.Sy.z_)
 f143:=Tryz.func261.trans (congrArg some Go.Sy.z_)
 f195:=Tryz.func321.trans (congrArg some Go.Sy.z_)
 f217:=Tryz.func290.trans (congrArg some Go.Sy.z_)
 f218:=Tryz.func323.trans (congrArg some Go.Sy.z_)
 f219:=Tryz.func289.trans (congrArg some Go.Sy.z_)
 f224:=Tryz.func352.trans (congrArg some Go.Sy.z_)
 f225:=Tryz.func351.trans (congrArg some Go.Sy.z_)
 f266:=Tryz.func354.trans (congrArg some Go.Sy.z_)
 f267:=Tryz.func353.trans (congrArg some Go.Sy.z_)
 f314:=Tryz.func416.trans (congrArg some Go.Sy.z_)
 t0:=Tryz.underlying0
 a0:=Tryz.isAgg0
 z0:=Tryz.sizeOf0
 v0:=Tryz.zeroValue0
 t3:=Tryz.underlying3
 a3:=Tryz.isAgg3
 z3:=Tryz.sizeOf3
 v3:=Tryz.zeroValue3
 t4:=Tryz.underlying4
 a4:=Tryz.isAgg4
 z4:=Tryz.sizeOf4
 v4:=Tryz.zeroValue4
 t5:=Tryz.underlying5
 a5:=Tryz.isAgg5
 z5:=Tryz.sizeOf5
 v5:=Tryz.zeroValue5
 t9:=Tryz.underlying9
 a9:=Tryz.isAgg9
 z9:=Tryz.sizeOf9
 v9:=Tryz.zeroValue9
 t46:=Tryz.underlying275
 a46:=Tryz.isAgg275
 z46:=Tryz.sizeOf275
 v46:=Tryz.zeroValue275
 t51:=Tryz.underlying62
 a51:=Tryz.isAgg62
 z51:=Tryz.sizeOf62
 v51:=Tryz.zeroValue62
 t146:=Tryz.underlying403
 a146:=Tryz.isAgg403
 z146:=Tryz.sizeOf403
 v146:=Tryz.zeroValue403
 g1:=by kernel_rfl }
open Go.RowKit Go.Lib in
theorem Tryz.strings_Count_one (s:ByteArray) (c:UInt8) (w:World) :
  Calls Tryz.prog 260 #[.string s,.string ⟨#[c]⟩] w fun e w'=>e=.returned (.int .i64 (Lib.countByte s.data.toList c))∧w'=w:=Any.strings_Count_one Tryz.lays138 s c w
def Tryz.lays101_ren:Go.Shelf.Ren:=⟨fun | 101=>209 | 208=>291 | 206=>355 | n=>n,fun | 9=>9 | 4=>4 | 3=>3 | n=>n,fun | n=>n⟩
theorem Tryz.lays101:Go.Proofs.Lays.n101 Tryz.prog Tryz.lays101_ren:={
 mixed:=by kernel_rfl
 f101:=Tryz.func209.trans (congrArg some Go.Sy.z_)
 f206:=Tryz.func355.trans (congrArg some Go.Sy.z_)
 f208:=Tryz.func291.trans (congrArg some Go.Sy.z_)
 t3:=Tryz.underlying3
 a3:=Tryz.isAgg3
 z3:=Tryz.sizeOf3
 v3:=Tryz.zeroValue3
 t4:=Tryz.underlying4
 a4:=Tryz.isAgg4
 z4:=Tryz.sizeOf4
 v4:=Tryz.zeroValue4
 t9:=Tryz.underlying9
 a9:=Tryz.isAgg9
 z9:=Tryz.sizeOf9
 v9:=Tryz.zeroValue9 }
open Go.RowKit Go.Lib in
theorem Tryz.strings_TrimPrefix (s p:ByteArray) (w:World) :
  Calls Tryz.prog 209 #[.string s,.string p] w fun e w'=>e=.returned (.string ⟨(Lib.trimPrefix s.data.toList p.data.toList).toArray⟩)∧w'=w:=Any.strings_TrimPrefix Tryz.lays101 s p w
end Go.Proofs
namespace Go.Sy.YtjenpnjajjplkaaGreatDoor
open Go.Proofs
theorem Xw (l:List ByteArray) (sep:ByteArray) (h0:l.length≤70368744177664) (h1:Mg l≤70368744177664) (h2:sep.size * l.length≤70368744177664) :
  Sy.Spec Tryz.prog 182 [.sl 1 Ai l,Ai sep] [] (Ai (Ci l sep)) [] :=
 Spec.of_calls fun κ w vs hi hr _=>by
  simp only[RdL]at hr
  obtain ⟨v,r,rfl,h3,u,r',rfl,h4,rfl⟩:=hr
  have h4':u=.string sep:=by simpa only [Ai,Rd] using h4
  subst h4'
  rcases Aaf h3 with ⟨rfl,a,c,rfl⟩ | ⟨b,o,c,rfl,hc,hb,hcell⟩
  ·exact(Tryz.strings_Join_none a c sep w).mono fun e w' ⟨he,hw⟩=>⟨he,hw ▸ RowKit.Below.refl _ _⟩
  ·exact Tryz.strings_Join b o c l sep w hcell hb q_ hc (Agx h1 h2)
theorem Adk (s:ByteArray) (c:UInt8) (m:Int) (hm:Lib.indexByte s.data.toList c=m):Sy.Spec Tryz.prog 261 [Ai s,Ai ⟨#[c]⟩] [] (Aa m) [] :=
 Spec.of_calls fun κ w vs hi hr _=>by
  subst hm
  simp only[RdL]at hr
  obtain ⟨v,r,rfl,h3,u,r',rfl,h4,rfl⟩:=hr
  have h3':v=.string s:=by simpa only [Ai,Rd] using h3
  have h4':u=.string ⟨#[c]⟩:=by simpa only [Ai,Rd] using h4
  subst h3' h4'
  exact(Tryz.strings_Index_one s c w).mono fun e w' ⟨he,hw⟩=>⟨he,hw ▸ RowKit.Below.refl _ _⟩
theorem Adl (s:ByteArray) (c:UInt8) (n:Nat) (hn:s.data.toList.count c=n):Sy.Spec Tryz.prog 260 [Ai s,Ai ⟨#[c]⟩] [] (Aa n) [] :=
 Spec.of_calls fun κ w vs hi hr _=>by
  subst hn
  simp only[RdL]at hr
  obtain ⟨v,r,rfl,h3,u,r',rfl,h4,rfl⟩:=hr
  have h3':v=.string s:=by simpa only [Ai,Rd] using h3
  have h4':u=.string ⟨#[c]⟩:=by simpa only [Ai,Rd] using h4
  subst h3' h4'
  exact(Tryz.strings_Count_one s c w).mono fun e w' ⟨he,hw⟩=>⟨he,hw ▸ RowKit.Below.refl _ _⟩
def Iz (c:UInt8) (l:List UInt8):Nat:=(Lib.indexByte l c).toNat
def C1 (c:UInt8) (l:List UInt8):Nat→List UInt8
 | 0=>l
 | j+1=>(C1 c l j).drop (Iz c (C1 c l j)+1)
def Eh (c:UInt8) (l:List UInt8) (j:Nat):List UInt8:=(C1 c l j).take (Iz c (C1 c l j))
def mkT (l:List UInt8):ByteArray:=⟨l.toArray⟩
def A2 (c:UInt8) (s:ByteArray):List ByteArray :=
 (List.range (s.data.toList.count c)).map (fun j=>mkT (Eh c s.data.toList j))++[mkT (C1 c s.data.toList (s.data.toList.count c))]
theorem Eu:∀ {l:List UInt8} {c:UInt8},c∈l→0≤Lib.indexByte l c∧(Lib.indexByte l c).toNat<l.length
 | b::l,c,h=>by
  unfold Lib.indexByte
  by_cases hb:b == c
  ·rw[if_pos hb];simp
  ·rw[if_neg hb]
   have hm':c∈l:=by
    rcases List.mem_cons.1 h with h | h
    ·exact absurd (by simp[h]) hb
    ·exact h
   have:=Eu hm'
   rw[if_neg (by simp;omega)]
   simp only[List.length_cons]
   omega
theorem Jl:∀ {l:List UInt8} {c:UInt8},c∈l→(l.drop (Iz c l+1)).count c+1=l.count c
 | b::l,c,h=>by
  unfold Iz Lib.indexByte
  by_cases hb:b == c
  ·rw[if_pos hb,List.count_cons,if_pos hb];simp
  ·rw[if_neg hb]
   have hm':c∈l:=by
    rcases List.mem_cons.1 h with h | h
    ·exact absurd (by simp[h]) hb
    ·exact h
   have h1:=Eu hm'
   rw[if_neg (by simp;omega),List.count_cons,if_neg hb,Nat.add_zero,← Jl hm']
   have e:(Lib.indexByte l c+1).toNat=Iz c l+1:=by unfold Iz;omega
   rw[e,List.drop_succ_cons]
theorem Tz (c:UInt8) (l:List UInt8):∀ j,j≤l.count c→(C1 c l j).count c+j=l.count c
 | 0,_=>rfl
 | j+1,h=>by
  have ih:=Tz c l j q_
  have hm':c∈C1 c l j:=List.count_pos_iff.1 q_
  have:=Jl hm'
  rw[C1]
  omega
theorem Aaz {c:UInt8} {l:List UInt8} {j:Nat} (h:j<l.count c):c∈C1 c l j :=
 List.count_pos_iff.1 (by have:=Tz c l j q_;omega)
def Jo (c:UInt8) (s:ByteArray):Nat:=s.data.toList.count c
def Hs (c:UInt8) (s:ByteArray) (j:Nat):List ByteArray :=
 (List.range j).map (fun j=>mkT (Eh c s.data.toList j))++List.replicate (Jo c s+1-j) ⟨#[]⟩
theorem Uc (c:UInt8) (s:ByteArray) (j:Nat) (h:j≤Jo c s):(Hs c s j).length=Jo c s+1:=by
 simp only[Hs,List.length_append,List.length_map,List.length_range,List.length_replicate];omega
theorem X0 (c:UInt8) (s:ByteArray):Hs c s 0=List.replicate (Jo c s+1) ⟨#[]⟩:=by
 simp[Hs]
theorem X1 (c:UInt8) (s:ByteArray) (j:Nat) (h:j<Jo c s):Hs c s (j+1)=(Hs c s j).set j (mkT (Eh c s.data.toList j)):=by
 have e:Jo c s+1-j=(Jo c s+1-(j+1))+1:=by omega
 have el:((List.range j).map (fun j=>mkT (Eh c s.data.toList j))).length=j:=by simp
 rw[Hs,Hs,List.set_append_right _ _ q_,el,Nat.sub_self,List.range_succ,List.map_append,e,List.replicate_succ,List.set_cons_zero]
 simp
theorem Aat (c:UInt8) (s:ByteArray):(Hs c s (Jo c s)).set (Jo c s) (mkT (C1 c s.data.toList (Jo c s)))=A2 c s:=by
 have e:Jo c s+1-Jo c s=0+1:=by omega
 have el:((List.range (Jo c s)).map (fun j=>mkT (Eh c s.data.toList j))).length=Jo c s:=by simp
 rw[Hs,List.set_append_right _ _ q_,el,Nat.sub_self,e,List.replicate_succ,List.set_cons_zero]
 rfl
theorem Ud (c:UInt8) (s:ByteArray):(A2 c s).length=Jo c s+1:=by simp only[A2,List.length_append,List.length_map,List.length_range,List.length_singleton];rfl
theorem Mn (c:UInt8) (l:List UInt8):∀ j,(C1 c l j).length≤l.length
 | 0=>Nat.le_refl _
 | j+1=>by rw[C1,List.length_drop];have:=Mn c l j;omega
theorem I4 {a b:ByteArray} (h:a.data.toList=b.data.toList):a=b:=by
 cases a;cases b;simp only[ByteArray.mk.injEq];exact Array.toList_inj.1 h
theorem Cf (l:List UInt8):(mkT l).size=l.length:=by simp[mkT,ByteArray.size]
theorem B9 (l:List UInt8):(mkT l).data.toList=l:=by simp[mkT]
theorem Ie (l:List UInt8) (i j:Nat):(mkT l).extract i j=mkT ((l.take j).drop i):=by
 apply I4
 simp[mkT,ByteArray.data_extract,List.extract_eq_take_drop,List.drop_take]
theorem D5 (s:ByteArray):mkT s.data.toList=s:=I4 (by simp[mkT])
theorem Afz {c:UInt8} {s:ByteArray} {j m:Nat} (h:Lib.indexByte (C1 c s.data.toList j) c=m):Eh c s.data.toList j=(C1 c s.data.toList j).take m:=by
 rw[Eh,Iz,h,Int.toNat_natCast]
theorem Aic {c:UInt8} {s:ByteArray} {j m:Nat} (h:Lib.indexByte (C1 c s.data.toList j) c=m):C1 c s.data.toList (j+1)=(C1 c s.data.toList j).drop (m+1):=by
 rw[C1,Iz,h,Int.toNat_natCast]
set_option maxRecDepth 20000 in
theorem Aex (s:ByteArray) (c:UInt8) (hs:s.size<100000):Sy.Spec Tryz.prog 186 [Ai s,Ai ⟨#[c]⟩,Aa 0,Aa (-1)] [] (.sl 1 Ai (A2 c s)) []:=cT F186 Tryz.ntmps186 fun F hF=>by
 have hcl:Jo c s≤s.size:=List.count_le_length
 have h0:=X0 c s
 have hend:=Aat c s
 have hlen:=Uc c s
 have hsucc:=X1 c s
 have hthere:∀ j,j<Jo c s→c∈C1 c s.data.toList j:=fun j hj=>Aaz hj
 have hle:=Mn c s.data.toList
 have hsz:s.data.toList.length=s.size:=rfl
 have hp:=fun j m=>Afz (c:=c) (s:=s) (j:=j) (m:=m)
 have hq:=fun j m=>Aic (c:=c) (s:=s) (j:=j) (m:=m)
 obtain ⟨n,hn⟩:∃ n,Jo c s=n:=⟨_,rfl⟩
 rw[hn]at hcl h0 hend hlen hsucc hthere
 ((conv=>whnf);repeat((first|refine aF ?_|refine aT ?_);(first|refine rG Γ hm ?_|refine rD Γ hm z_ ?_);conv=>whnf))
 refine c0 (Adl s c n hn) F260 ?_
 ((first|refine rG Γ hm ?_|refine rD Γ hm z_ ?_);(conv=>whnf);repeat((first|refine aF ?_|refine aT ?_);(first|refine rG Γ hm ?_|refine rD Γ hm z_ ?_);conv=>whnf))
 refine iL ?_
 ((conv=>whnf);repeat((first|refine aF ?_|refine aT ?_);(first|refine rG Γ hm ?_|refine rD Γ hm z_ ?_);conv=>whnf))
 refine iL ?_
 ((conv=>whnf);repeat((first|refine aF ?_|refine aT ?_);(first|refine rG Γ hm ?_|refine rD Γ hm z_ ?_);conv=>whnf))
 refine Aw (Zb E E E q_) E E ?_
 ((first|refine rG Γ hm ?_|refine rD Γ hm z_ ?_);(conv=>whnf);repeat((first|refine aF ?_|refine aT ?_);(first|refine rG Γ hm ?_|refine rD Γ hm z_ ?_);conv=>whnf))
 refine Aw (Kl Γ.toTy (d:=31) (n:=n+1) Ai ⟨#[]⟩ E E E E E E (congrArg (fun z=>SV.val (.int .i64 z)) (Int.natCast_succ n).symm) (congrArg (fun z=>SV.val (.int .i64 z)) (Int.natCast_succ n).symm) q_ q_ E E E) E E ?_
 rw[← h0]
 clear h0
 ((first|refine rG Γ hm ?_|refine rD Γ hm z_ ?_);(conv=>whnf);repeat((first|refine aF ?_|refine aT ?_);(first|refine rG Γ hm ?_|refine rD Γ hm z_ ?_);conv=>whnf))
 refine iL ?_
 ((conv=>whnf);repeat((first|refine aF ?_|refine aT ?_);(first|refine rG Γ hm ?_|refine rD Γ hm z_ ?_);conv=>whnf))
 generalize hR:C1 c s.data.toList=rest at *
 generalize hU:Hs c s=u at *
 generalize hP:Eh c s.data.toList=piece at *
 refine Dk n (fun j=>[(0,Ai (mkT (rest j))),(1,Ai ⟨#[c]⟩),(2,Aa 0),(3,Aa n),(9,.osl 31),(10,Aa j)]) (fun j=>[(31,.row 1 Ai (u j))]) []
  ⟨⟨congrArg Ai (by rw[← hR];exact(D5 s).symm),rfl,rfl,rfl,rfl,rfl,congrArg (fun z=>SV.val (.int .i64 z)) q_,rfl,rfl,rfl,rfl,rfl,trivial⟩,⟨.inl rfl,rfl,trivial⟩,rfl,rfl⟩ ?_
 intro j hj
 have hlj:=hlen j hj
 have hlr:=hle j
 have hc1:((⟨#[c]⟩:ByteArray).size:Int)=1:=rfl
 ((first|refine rG Γ hm ?_|refine rD Γ hm z_ ?_);(conv=>whnf);repeat((first|refine aF ?_|refine aT ?_);(first|refine rG Γ hm ?_|refine rD Γ hm z_ ?_);conv=>whnf))
 refine⟨fun h=>?_,fun h=>?_⟩
 ·have hlt:j<n:=by simpa using h
  have hi:=Eu (hthere j hlt)
  have hpj:=hp j
  have hqj:=hq j
  have hsj:=hsucc j hlt
  generalize hrj:rest j=r at *
  generalize u j=uj at *
  obtain ⟨m,hm'⟩:∃ m:Nat,Lib.indexByte r c=m:=⟨(Lib.indexByte r c).toNat,by omega⟩
  have hpm:=hpj m hm'
  have hqm:=hqj m hm'
  rw[hm',Int.toNat_natCast]at hi
  have hsm:=Cf r
  ((first|refine rG Γ hm ?_|refine rD Γ hm z_ ?_);(conv=>whnf);repeat((first|refine aF ?_|refine aT ?_);(first|refine rG Γ hm ?_|refine rD Γ hm z_ ?_);conv=>whnf))
  refine c0 (Adk (mkT r) c m (by rw[B9];exact hm')) F261 ?_
  ((first|refine rG Γ hm ?_|refine rD Γ hm z_ ?_);(conv=>whnf);repeat((first|refine aF ?_|refine aT ?_);(first|refine rG Γ hm ?_|refine rD Γ hm z_ ?_);conv=>whnf))
  refine iL ?_
  ((conv=>whnf);repeat((first|refine aF ?_|refine aT ?_);(first|refine rG Γ hm ?_|refine rD Γ hm z_ ?_);conv=>whnf))
  refine⟨⟨by omega,by omega,by omega⟩,?_⟩
  ((conv=>whnf);repeat((first|refine aF ?_|refine aT ?_);(first|refine rG Γ hm ?_|refine rD Γ hm z_ ?_);conv=>whnf))
  refine⟨by omega,by omega,?_⟩
  ((conv=>whnf);repeat((first|refine aF ?_|refine aT ?_);(first|refine rG Γ hm ?_|refine rD Γ hm z_ ?_);conv=>whnf))
  have hx:(mkT r).extract (Int.toNat 0) ((m:Int)+0).toNat=mkT (r.take m):=by
   rw[Ie];simp
  have hy:(mkT r).extract ((m:Int)+((⟨#[c]⟩:ByteArray).size:Nat)).toNat (((mkT r).size:Nat):Int).toNat=mkT (r.drop (m+1)):=by
   rw[Ie,hc1,Cf,Int.toNat_natCast,List.take_length]
   rfl
  refine⟨E,by omega,mkT (r.take m),congrArg (fun z=>[Ai z]) hx.symm,E,?_⟩
  ((conv=>whnf);repeat((first|refine aF ?_|refine aT ?_);(first|refine rG Γ hm ?_|refine rD Γ hm z_ ?_);conv=>whnf))
  refine iL ?_
  ((conv=>whnf);repeat((first|refine aF ?_|refine aT ?_);(first|refine rG Γ hm ?_|refine rD Γ hm z_ ?_);conv=>whnf))
  refine⟨⟨by omega,by omega,by omega⟩,?_⟩
  ((conv=>whnf);repeat((first|refine aF ?_|refine aT ?_);(first|refine rG Γ hm ?_|refine rD Γ hm z_ ?_);conv=>whnf))
  refine iL ?_
  ((conv=>whnf);repeat((first|refine aF ?_|refine aT ?_);(first|refine rG Γ hm ?_|refine rD Γ hm z_ ?_);conv=>whnf))
  refine Dx [] q_ ⟨⟨congrArg Ai (by rw[hqm];exact hy.symm),E,E,E,E,E,E,E,E,E,E,E,Y⟩,⟨.inl (congrArg (Ob.row 1 Ai) (by rw[hsj,hpm];rfl)),E,Y⟩,E,E⟩
 ·have:j=n:=qB h
  subst this
  ((first|refine rG Γ hm ?_|refine rD Γ hm z_ ?_);(conv=>whnf);repeat((first|refine aF ?_|refine aT ?_);(first|refine rG Γ hm ?_|refine rD Γ hm z_ ?_);conv=>whnf))
  refine⟨by omega,by omega,?_⟩
  ((conv=>whnf);repeat((first|refine aF ?_|refine aT ?_);(first|refine rG Γ hm ?_|refine rD Γ hm z_ ?_);conv=>whnf))
  refine⟨E,by omega,mkT (rest j),E,E,?_⟩
  ((conv=>whnf);repeat((first|refine aF ?_|refine aT ?_);(first|refine rG Γ hm ?_|refine rD Γ hm z_ ?_);conv=>whnf))
  refine iL ?_
  ((conv=>whnf);repeat((first|refine aF ?_|refine aT ?_);(first|refine rG Γ hm ?_|refine rD Γ hm z_ ?_);conv=>whnf))
  refine Aw (Tl Γ.toTy (d:=65) (hi:=j+1) E E E E E j_ E (.inl ⟨E,E⟩) (.inr ⟨_,_,E,congrArg (fun z=>SV.val (.int .i64 z)) (Int.natCast_succ j).symm⟩) (by rw[List.length_set];omega)) E E ?_
  have hE:((u j).set ((j:Int).toNat) (mkT (rest j))).take (j+1)=A2 c s:=by
   rw[← hend,List.take_of_length_le (by rw[List.length_set];omega)]
   rfl
  rw[hE]
  refine Ae 65 E ?_
  ((first|refine rG Γ hm ?_|refine rD Γ hm z_ ?_);(conv=>whnf);repeat((first|refine aF ?_|refine aT ?_);(first|refine rG Γ hm ?_|refine rD Γ hm z_ ?_);conv=>whnf))
  exact dN
theorem splitS (s:ByteArray) (c:UInt8) (hs:s.size<100000):Sy.Spec Tryz.prog 92 [Ai s,Ai ⟨#[c]⟩] [] (.sl 1 Ai (A2 c s)) []:=cT F92 Tryz.ntmps92 fun F hF=>by
 have q:=Aex s c hs
 generalize A2 c s=l at *
 ((conv=>whnf);repeat((first|refine aF ?_|refine aT ?_);(first|refine rG Γ hm ?_|refine rD Γ hm z_ ?_);conv=>whnf))
 refine c0 q F186 ?_
 ((first|refine rG Γ hm ?_|refine rD Γ hm z_ ?_);(conv=>whnf);repeat((first|refine aF ?_|refine aT ?_);(first|refine rG Γ hm ?_|refine rD Γ hm z_ ?_);conv=>whnf))
 exact dN
end Go.Sy.YtjenpnjajjplkaaGreatDoor
namespace Go.Sy.YtjenpnjajjplkaaGreatDoor
open Go.Proofs
attribute [local irreducible] Go.Sy.G Go.Sy.DR
set_option maxRecDepth 20000
set_option maxHeartbeats 4000000
def Ha (c:UInt8):Bool:=decide (48≤c.toNat) && decide (c.toNat≤57)
def valU (s:ByteArray):Nat→Int
 | 0=>0
 | j+1=>10 * valU s j+((Ce s j).toNat-48)
def digsB (s:ByteArray):Bool:=(List.range s.size).all fun i=>Ha (Ce s i)
def V9 (s:ByteArray) (most:Int):Int × Bool :=
 if s.size=0∨3<s.size∨(1<s.size∧(Ce s 0).toNat=48)∨digsB s=false then (0,false) else (valU s s.size,decide (valU s s.size≤most))
end Go.Sy.YtjenpnjajjplkaaGreatDoor
namespace Go.Sy.YtjenpnjajjplkaaGreatDoor
open Go.Proofs
def K7 {α:Type} (l:List α) (j:Nat):List α:=List.ofFn fun i:Fin l.length=>if i.1<j∨l.length-j≤i.1 then l[l.length-1-i.1] else l[i.1]
theorem Cc {α:Type} (l:List α) (j:Nat):(K7 l j).length=l.length:=by simp[K7]
theorem Iw {α:Type} (l:List α) (j i:Nat) (h:i<l.length):(K7 l j)[i]'(by rw[Cc];exact h)=if i<j∨l.length-j≤i then l[l.length-1-i] else l[i]:=by simp[K7]
theorem U4 {α:Type} (l:List α):K7 l 0=l:=by
 apply List.ext_getElem (Cc l 0)
 intro i h1 h2
 rw[Iw l 0 i h2,if_neg q_]
theorem X9 {α:Type} (l:List α) (j:Nat) (h:l.length≤2 * j+1):K7 l j=l.reverse:=by
 apply List.ext_getElem (by rw[Cc,List.length_reverse])
 intro i h1 h2
 have hi:i<l.length:=by rw[Cc]at h1;exact h1
 rw[Iw l j i hi,List.getElem_reverse]
 split
 ·rfl
 ·congr 1;omega
theorem Adz {α:Type} (l:List α) (j:Nat) (h:2 * j+1<l.length) :
  ((K7 l j).set j ((K7 l j)[l.length-1-j]'(by rw[Cc];omega))).set (l.length-1-j) ((K7 l j)[j]'(by rw[Cc];omega))=K7 l (j+1):=by
 apply List.ext_getElem (by simp only[List.length_set,Cc])
 intro i h1 h2
 have hi:i<l.length:=by rw[Cc]at h2;exact h2
 rw[List.getElem_set,List.getElem_set,Iw l (j+1) i hi,Iw l j i hi,Iw l j _ q_,Iw l j _ q_]
 by_cases e1:l.length-1-j=i
 ·rw[if_pos e1,if_neg q_,if_pos q_]
  congr 1;omega
 ·rw[if_neg e1]
  by_cases e2:j=i
  ·rw[if_pos e2,if_neg q_,if_pos q_]
   congr 1;omega
  ·rw[if_neg e2]
   by_cases e3:i<j∨l.length-j≤i
   ·rw[if_pos e3,if_pos q_]
   ·rw[if_neg e3,if_neg q_]
theorem U5 {α:Type} {l u:List α} {j k:Nat} (hu:K7 l j=u) (h:2 * j+1<l.length) (hk:l.length-1-j=k) (h1:k<u.length) (h2:j<u.length):(u.set j u[k]).set k u[j]=K7 l (j+1):=by
 subst hu hk
 exact Adz l j h
def revDigs (u:Nat):List UInt8:=if u<10 then [UInt8.ofNat (48+u)] else UInt8.ofNat (48+u % 10)::revDigs (u / 10)
theorem Ib (u:Nat):0<(revDigs u).length:=by
 rw[revDigs];split<;>simp
theorem J3:∀ (j u:Nat),j+1<(revDigs u).length↔0<u / 10 ^ (j+1)
 | 0,u=>by
  rw[revDigs]
  split
  ·simp;omega
  ·have:=Ib (u / 10)
   simp only[List.length_cons];omega
 | j+1,u=>by
  rw[revDigs]
  have e:u / 10 ^ (j+1+1)=u / 10 / 10 ^ (j+1):=by rw[Nat.div_div_eq_div_mul,Nat.pow_succ 10 (j+1),Nat.mul_comm (10 ^ (j+1))]
  rw[e]
  split
  ·have:u / 10=0:=by omega
   rw[this];simp
  ·rw[List.length_cons,← J3 j (u / 10)];omega
theorem J4:∀ (j u:Nat) (h:j<(revDigs u).length),(revDigs u)[j]=UInt8.ofNat (48+u / 10 ^ j % 10)
 | 0,u,h=>by
  have e:(revDigs u)[0]=UInt8.ofNat (48+u % 10):=by
   simp only[revDigs.eq_1 u]
   split
   ·show UInt8.ofNat (48+u)=UInt8.ofNat (48+u % 10)
    rw[Nat.mod_eq_of_lt (by assumption)]
   ·rfl
  rw[e];simp
 | j+1,u,h=>by
  have hu:¬ u<10:=fun hu=>by rw[revDigs,if_pos hu]at h;simp at h
  have e0:revDigs u=UInt8.ofNat (48+u % 10)::revDigs (u / 10):=by rw[revDigs.eq_1 u,if_neg hu]
  have e:u / 10 ^ (j+1)=u / 10 / 10 ^ j:=by rw[Nat.div_div_eq_div_mul,Nat.pow_succ,Nat.mul_comm]
  have hl:j<(revDigs (u / 10)).length:=by rw[e0]at h;simpa using h
  have:=J4 j (u / 10) hl
  rw[e,← this]
  simp only[e0,List.getElem_cons_succ]
theorem C5:∀ (k u:Nat),u<10 ^ k→(revDigs u).length≤k+1
 | 0,u,h=>by rw[revDigs,if_pos (by simp at h;omega)];simp
 | k+1,u,h=>by
  rw[revDigs]
  split
  ·simp
  ·have:=C5 k (u / 10) (by rw[Nat.pow_succ]at h;omega)
   simp only[List.length_cons];omega
def Abb (n:Int):List UInt8:=(revDigs n.natAbs++(if n<0 then [45] else [])).reverse
def Cn (n:Int):ByteArray:=mkT (Abb n)
theorem S6 (m:Nat):Abb m=(revDigs m).reverse:=by
 rw[Abb,Int.natAbs_natCast,if_neg q_,List.append_nil]
set_option maxRecDepth 20000 in
theorem Yo (m:Nat) (hb:m<9223372036854775808):Sy.Spec Tryz.prog 117 [Aa m] [] (Ai (Cn m)) []:=cT F117 Tryz.ntmps117 fun F hF=>by
 have hpos:=Ib m
 have hlen:=fun j=>J3 j m
 have hget:=fun j=>J4 j m
 have hsh:(revDigs m).length≤20:=C5 19 m q_
 rw[Cn,S6]
 generalize revDigs m=D at *
 ((conv=>whnf);repeat((first|refine aF ?_|refine aT ?_);(first|refine rG Γ hm ?_|refine rD Γ hm z_ ?_);conv=>whnf))
 refine Cb 3 1000 1 Ak E E ?_
 refine Dk D.length (fun j=>[(0,Aa m),(3,.osl 1000),(4,Hq (m / 10 ^ j:Nat)),(5,Ab (decide (j<D.length)))]) (fun j=>[(1000,.row 1 Ak (D.take j))]) []
  ⟨⟨rfl,rfl,rfl,rfl,congrArg (fun z=>SV.val (.int .u64 z)) (by rw[IntKind.wrap_u64];omega),rfl,congrArg Ab (decide_eq_true hpos),rfl,trivial⟩,⟨.inl rfl,rfl,trivial⟩,rfl,rfl⟩ ?_
 intro j hj
 ((first|refine rG Γ hm ?_|refine rD Γ hm z_ ?_);(conv=>whnf);repeat((first|refine aF ?_|refine aT ?_);(first|refine rG Γ hm ?_|refine rD Γ hm z_ ?_);conv=>whnf))
 refine⟨fun h=>?_,fun h=>?_⟩
 ·have hlt:j<D.length:=of_decide_eq_true h
  have hgj:=hget j hlt
  have hlj:=hlen j
  have e:m / 10 ^ (j+1)=m / 10 ^ j / 10:=by rw[Nat.div_div_eq_div_mul,Nat.pow_succ]
  have hq:m / 10 ^ j≤m:=Nat.div_le_self _ _
  rw[e]at hlj
  ((first|refine rG Γ hm ?_|refine rD Γ hm z_ ?_);(conv=>whnf);repeat((first|refine aF ?_|refine aT ?_);(first|refine rG Γ hm ?_|refine rD Γ hm z_ ?_);conv=>whnf))
  refine⟨by decide,?_⟩
  ((conv=>whnf);repeat((first|refine aF ?_|refine aT ?_);(first|refine rG Γ hm ?_|refine rD Γ hm z_ ?_);conv=>whnf))
  refine Aw (Al Γ.toTy 23 E E E E E (.row E) (.lit (l:=[D[j]]) E ?_) y_ ?_ ?_) E E ?_
  ·rw[hgj]
   simp only[List.map_cons,List.map_nil,Ak]
   congr 3
   generalize m / 10 ^ j=q at *
   rw[Int.tmod_eq_emod_of_nonneg (Int.natCast_nonneg _),IntKind.wrap_u64,IntKind.wrap_u8]
   simp
  ·simp;omega
  ·simp;omega
  ((first|refine rG Γ hm ?_|refine rD Γ hm z_ ?_);(conv=>whnf);repeat((first|refine aF ?_|refine aT ?_);(first|refine rG Γ hm ?_|refine rD Γ hm z_ ?_);conv=>whnf))
  refine⟨by decide,?_⟩
  ((conv=>whnf);repeat((first|refine aF ?_|refine aT ?_);(first|refine rG Γ hm ?_|refine rD Γ hm z_ ?_);conv=>whnf))
  refine Dx [(1000,23)] hlt ⟨⟨E,E,E,E,congrArg (fun z=>SV.val (.int .u64 z)) ?_,E,congrArg Ab ?_,E,Y⟩,⟨.inl (congrArg (Ob.row 1 Ak) (List.take_succ_eq_append_getElem hlt)),E,Y⟩,E,E⟩
  ·rw[e,Int.tdiv_eq_ediv_of_nonneg (Int.natCast_nonneg _),IntKind.wrap_u64]
   generalize m / 10 ^ j=q at *
   omega
  ·rw[Int.tdiv_eq_ediv_of_nonneg (Int.natCast_nonneg _),IntKind.wrap_u64]
   generalize m / 10 ^ j=q at *
   refine decide_eq_decide.2 ?_
   omega
 ·have:j=D.length:=qB h
  subst this
  rw[List.take_length]
  ((first|refine rG Γ hm ?_|refine rD Γ hm z_ ?_);(conv=>whnf);repeat((first|refine aF ?_|refine aT ?_);(first|refine rG Γ hm ?_|refine rD Γ hm z_ ?_);conv=>whnf))
  refine iL ?_
  ((conv=>whnf);repeat((first|refine aF ?_|refine aT ?_);(first|refine rG Γ hm ?_|refine rD Γ hm z_ ?_);conv=>whnf))
  refine Dk (D.length / 2) (fun j=>[(3,.osl 1000),(6,Aa j),(7,Aa (D.length-1-j:Nat))]) (fun j=>[(1000,.row 1 Ak (K7 D j))]) []
   ⟨⟨rfl,rfl,rfl,rfl,congrArg (fun z=>SV.val (.int .i64 z)) q_,rfl,trivial⟩,⟨.inl (congrArg (Ob.row 1 Ak) (U4 D)),rfl,trivial⟩,rfl,rfl⟩ ?_
  intro i hi
  have hul:=Cc D i
  ((first|refine rG Γ hm ?_|refine rD Γ hm z_ ?_);(conv=>whnf);repeat((first|refine aF ?_|refine aT ?_);(first|refine rG Γ hm ?_|refine rD Γ hm z_ ?_);conv=>whnf))
  refine⟨fun h2=>?_,fun h2=>?_⟩
  ·have hlt:2 * i+1<D.length:=by have:=of_decide_eq_true h2;omega
   obtain ⟨u,hu⟩:∃ u,K7 D i=u:=⟨_,rfl⟩
   obtain ⟨k,hk⟩:∃ k,D.length-1-i=k:=⟨_,rfl⟩
   rw[hu]at hul
   have hs:=U5 hu hlt hk q_ q_
   rw[hu,hk]
   ((first|refine rG Γ hm ?_|refine rD Γ hm z_ ?_);(conv=>whnf);repeat((first|refine aF ?_|refine aT ?_);(first|refine rG Γ hm ?_|refine rD Γ hm z_ ?_);conv=>whnf))
   refine⟨by omega,by omega,?_⟩
   ((conv=>whnf);repeat((first|refine aF ?_|refine aT ?_);(first|refine rG Γ hm ?_|refine rD Γ hm z_ ?_);conv=>whnf))
   refine⟨E,by omega,?_⟩
   ((conv=>whnf);repeat((first|refine aF ?_|refine aT ?_);(first|refine rG Γ hm ?_|refine rD Γ hm z_ ?_);conv=>whnf))
   refine⟨by omega,by omega,?_⟩
   ((conv=>whnf);repeat((first|refine aF ?_|refine aT ?_);(first|refine rG Γ hm ?_|refine rD Γ hm z_ ?_);conv=>whnf))
   refine⟨E,by omega,?_⟩
   ((conv=>whnf);repeat((first|refine aF ?_|refine aT ?_);(first|refine rG Γ hm ?_|refine rD Γ hm z_ ?_);conv=>whnf))
   refine⟨by omega,by omega,?_⟩
   ((conv=>whnf);repeat((first|refine aF ?_|refine aT ?_);(first|refine rG Γ hm ?_|refine rD Γ hm z_ ?_);conv=>whnf))
   refine⟨E,by omega,u[k],E,E,?_⟩
   ((conv=>whnf);repeat((first|refine aF ?_|refine aT ?_);(first|refine rG Γ hm ?_|refine rD Γ hm z_ ?_);conv=>whnf))
   refine⟨by omega,by simp;omega,?_⟩
   ((conv=>whnf);repeat((first|refine aF ?_|refine aT ?_);(first|refine rG Γ hm ?_|refine rD Γ hm z_ ?_);conv=>whnf))
   refine⟨E,by simp;omega,u[i],E,E,?_⟩
   ((conv=>whnf);repeat((first|refine aF ?_|refine aT ?_);(first|refine rG Γ hm ?_|refine rD Γ hm z_ ?_);conv=>whnf))
   refine⟨z_,?_⟩
   ((conv=>whnf);repeat((first|refine aF ?_|refine aT ?_);(first|refine rG Γ hm ?_|refine rD Γ hm z_ ?_);conv=>whnf))
   refine iL ?_
   ((conv=>whnf);repeat((first|refine aF ?_|refine aT ?_);(first|refine rG Γ hm ?_|refine rD Γ hm z_ ?_);conv=>whnf))
   refine iL ?_
   ((conv=>whnf);repeat((first|refine aF ?_|refine aT ?_);(first|refine rG Γ hm ?_|refine rD Γ hm z_ ?_);conv=>whnf))
   refine Dx [] q_ ⟨⟨E,E,E,E,congrArg (fun z=>SV.val (.int .i64 z)) q_,E,Y⟩,⟨.inl (congrArg (Ob.row 1 Ak) hs.symm),E,Y⟩,E,E⟩
  ·have h3:D.length≤2 * i+1:=by have:=of_decide_eq_false h2;omega
   rw[X9 D i h3]
   ((first|refine rG Γ hm ?_|refine rD Γ hm z_ ?_);(conv=>whnf);repeat((first|refine aF ?_|refine aT ?_);(first|refine rG Γ hm ?_|refine rD Γ hm z_ ?_);conv=>whnf))
   refine Aw (Cp Γ.toTy (bs:=D.reverse) E E E E E E E (.row E)) E E ?_
   ((first|refine rG Γ hm ?_|refine rD Γ hm z_ ?_);(conv=>whnf);repeat((first|refine aF ?_|refine aT ?_);(first|refine rG Γ hm ?_|refine rD Γ hm z_ ?_);conv=>whnf))
   exact dN
end Go.Sy.YtjenpnjajjplkaaGreatDoor
namespace Go.Sy.YtjenpnjajjplkaaGreatDoor
open Go.Proofs
attribute [local irreducible] Go.Sy.G Go.Sy.DR
set_option maxRecDepth 20000
set_option maxHeartbeats 4000000
def Hc (n:Net):Prop:=(∀ d∈n.devices,d.name.size≤300)∧∀ p∈n.ports,p.name.size≤300
theorem Ab4 {n:Net} (h:Ac n=true) {i:Nat} (hi:i<n.ports.length):Ic n i n.ports[i]=true:=by
 simp only[Ac,Bool.and_eq_true]at h
 exact allB_iff.1 h.1.1.1.1.1.2 i hi
theorem Ajk {n:Net} (h:Ac n=true) {i:Nat} (hi:i<n.domains.length):Kq n i n.domains[i]=true:=by
 simp only[Ac,Bool.and_eq_true]at h
 exact allB_iff.1 h.1.1.1.1.1.1.1.2 i hi
theorem Ac8 {n:Net} (h:Ac n=true):n.devices.length≤8∧n.ports.length≤40∧n.links.length≤20∧n.domains.length≤48∧n.irbs.length≤48:=by
 simp only[Ac,Zj,Bool.and_eq_true,decide_eq_true_eq]at h
 omega
theorem Jk {n:Net} (h:Ac n=true) {i:Nat} (hi:i<n.ports.length):0≤n.ports[i].dev∧n.ports[i].dev.toNat<n.devices.length:=by
 have:=Ab4 h hi
 simp only[Ic,Ah,Bool.and_eq_true,decide_eq_true_eq]at this
 omega
theorem Ko {n:Net} (h:Ac n=true) {i:Nat} (hi:i<n.domains.length) :
  (0≤n.domains[i].dev∧n.domains[i].dev.toNat<n.devices.length)∧(1≤n.domains[i].vlan∧n.domains[i].vlan≤4094)∧(0≤n.domains[i].vni∧n.domains[i].vni≤16777215)∧(n.domains[i].irb=-1∨0≤n.domains[i].irb∧n.domains[i].irb.toNat<n.irbs.length):=by
 have:=Ajk h hi
 simp only[Kq,Ah,Bool.and_eq_true,Bool.or_eq_true,decide_eq_true_eq,beq_iff_eq]at this
 omega
theorem Aip (l:List ByteArray) (h0:l.length≤1000000) (h1:Mg l≤1000000000):Sy.Spec Tryz.prog 183 [.sl 1 Ai l] [] (Ai (Ci l ⟨#[]⟩)) []:=cT F183 Tryz.ntmps183 fun F hF=>by
 have q:=Xw l ⟨#[]⟩ q_ q_ (by show 0 * l.length≤_;omega)
 generalize Ci l ⟨#[]⟩=r at *
 ((conv=>whnf);repeat((first|refine aF ?_|refine aT ?_);(first|refine rG Γ hm ?_|refine rD Γ hm z_ ?_);conv=>whnf))
 refine c0 q F182 ?_
 ((first|refine rG Γ hm ?_|refine rD Γ hm z_ ?_);(conv=>whnf);repeat((first|refine aF ?_|refine aT ?_);(first|refine rG Γ hm ?_|refine rD Γ hm z_ ?_);conv=>whnf))
 exact dN
def Oj (n:Net) (i:Int):ByteArray:=Ci [(nth n.devices (nth n.domains i).dev).name,⟨#[47]⟩,Cn (nth n.domains i).vlan] ⟨#[]⟩
def Ca (n:Net) (i:Int):ByteArray:=if (0≤i∧i<n.domains.length)∧Ac n=true then Oj n i else ⟨#[]⟩
theorem S5 (m:Nat) (h:m<10 ^ 18):(Abb m).length≤19:=by
 rw[S6,List.length_reverse];exact C5 18 m h
theorem Tx (n:Net) (hn:n.Fin) (hnm:Hc n) (i:Int):Sy.Spec Tryz.prog 90 [Aj n,Aa i] [] (Ai (Ca n i)) []:=cT F90 Tryz.ntmps90 fun F hF=>by
 have hr:=Bd n hn
 ((conv=>whnf);repeat((first|refine aF ?_|refine aT ?_);(first|refine rG Γ hm ?_|refine rD Γ hm z_ ?_);conv=>whnf))
 refine⟨fun h=>?_,fun h=>?_⟩
 ·have h1:i<0:=of_decide_eq_true h
  rw[Ca,if_neg q_]
  ((first|refine rG Γ hm ?_|refine rD Γ hm z_ ?_);(conv=>whnf);repeat((first|refine aF ?_|refine aT ?_);(first|refine rG Γ hm ?_|refine rD Γ hm z_ ?_);conv=>whnf))
  exact dN
 have h1:0≤i:=qB h
 refine A6 2 8 (Aj n) E E E ?_
 ((first|refine rG Γ hm ?_|refine rD Γ hm z_ ?_);(conv=>whnf);repeat((first|refine aF ?_|refine aT ?_);(first|refine rG Γ hm ?_|refine rD Γ hm z_ ?_);conv=>whnf))
 refine⟨fun h=>?_,fun h=>?_⟩
 ·have h2:n.domains.length≤i:=of_decide_eq_true h
  rw[Ca,if_neg q_]
  ((first|refine rG Γ hm ?_|refine rD Γ hm z_ ?_);(conv=>whnf);repeat((first|refine aF ?_|refine aT ?_);(first|refine rG Γ hm ?_|refine rD Γ hm z_ ?_);conv=>whnf))
  exact dN
 have h2:i<n.domains.length:=qB h
 ((first|refine rG Γ hm ?_|refine rD Γ hm z_ ?_);(conv=>whnf);repeat((first|refine aF ?_|refine aT ?_);(first|refine rG Γ hm ?_|refine rD Γ hm z_ ?_);conv=>whnf))
 refine c0 hr F25 ?_
 cases hb:Ac n
 ·rw[Ca,if_neg (by simp[hb])]
  ((first|refine rG Γ hm ?_|refine rD Γ hm z_ ?_);(conv=>whnf);repeat((first|refine aF ?_|refine aT ?_);(first|refine rG Γ hm ?_|refine rD Γ hm z_ ?_);conv=>whnf))
  exact dN
 rw[Ca,if_pos ⟨⟨h1,h2⟩,hb⟩]
 have hk:i.toNat<n.domains.length:=by omega
 have hf:=Ko hb hk
 have e1:nth n.domains i=n.domains[i.toNat]:=Am hk
 rw[Oj,e1]
 obtain ⟨d,hd⟩:∃ d,n.domains[i.toNat]=d:=⟨_,rfl⟩
 rw[hd]at hf ⊢
 have e2:nth n.devices d.dev=n.devices[d.dev.toNat]:=Am hf.1.2
 rw[e2]
 have hdn:=hnm.1 _ (List.getElem_mem hf.1.2)
 obtain ⟨x,hx⟩:∃ x,n.devices[d.dev.toNat]'hf.1.2=x:=⟨_,rfl⟩
 rw[hx]at hdn ⊢
 obtain ⟨v,hv⟩:∃ v:Nat,d.vlan=v:=⟨d.vlan.toNat,by omega⟩
 have q:=Yo v q_
 have hs:=S5 v q_
 have hsz:(Cn v).size=(Abb v).length:=Cf _
 have q2:=Aip [x.name,⟨#[47]⟩,Cn v] y_ (by
  show x.name.size+(1+((Cn v).size+0))≤_
  omega)
 rw[← hv]at q q2
 generalize Cn d.vlan=nv at *
 generalize Ci [x.name,⟨#[47]⟩,nv] ⟨#[]⟩=r at *
 ((first|refine rG Γ hm ?_|refine rD Γ hm z_ ?_);(conv=>whnf);repeat((first|refine aF ?_|refine aT ?_);(first|refine rG Γ hm ?_|refine rD Γ hm z_ ?_);conv=>whnf))
 refine⟨E,h1,hk,?_⟩
 rw[hd]
 ((conv=>whnf);repeat((first|refine aF ?_|refine aT ?_);(first|refine rG Γ hm ?_|refine rD Γ hm z_ ?_);conv=>whnf))
 refine⟨E,hf.1.1,hf.1.2,?_⟩
 rw[hx]
 ((conv=>whnf);repeat((first|refine aF ?_|refine aT ?_);(first|refine rG Γ hm ?_|refine rD Γ hm z_ ?_);conv=>whnf))
 refine cD q F117 ?_
 ((first|refine rG Γ hm ?_|refine rD Γ hm z_ ?_);(conv=>whnf);repeat((first|refine aF ?_|refine aT ?_);(first|refine rG Γ hm ?_|refine rD Γ hm z_ ?_);conv=>whnf))
 refine T3 [35] q2 F183 E (.cons (.lit E E E) .nil) E z_ E ?_
 ((first|refine rG Γ hm ?_|refine rD Γ hm z_ ?_);(conv=>whnf);repeat((first|refine aF ?_|refine aT ?_);(first|refine rG Γ hm ?_|refine rD Γ hm z_ ?_);conv=>whnf))
 refine⟨z_,?_⟩
 ((conv=>whnf);repeat((first|refine aF ?_|refine aT ?_);(first|refine rG Γ hm ?_|refine rD Γ hm z_ ?_);conv=>whnf))
 exact dN
def Bp (n:Net) (i:Int):ByteArray:=(nth n.devices (nth n.ports i).dev).name++⟨#[46]⟩++(nth n.ports i).name
def U8 (n:Net) (i:Int):ByteArray:=if (0≤i∧i<n.ports.length)∧Ac n=true then Bp n i else ⟨#[]⟩
theorem X3 (a b:ByteArray):(a++b).size=a.size+b.size:=by simp
end Go.Sy.YtjenpnjajjplkaaGreatDoor
namespace Go.Sy
def Z3 (C:Cx) {β:Type} (I:β→Prop) (L:β→List (Nat × SV)) (O:β→Obs) (μ:β→Nat) (x:β) (a:Act) (w:World):Prop :=
 ∃ x':{y:β // I y},∃ κ,μ x'.1<μ x∧St C.F C.n (mkS (L x'.1) (O x'.1)) κ a w
theorem B0 {C:Cx} {k:List KI} {s:SS} {body:Code} {β:Type} (I:β→Prop) (L:β→List (Nat × SV)) (O:β→Obs) (μ:β→Nat) (x₀:β) (ρ:List (Nat × Nat)) (h0:I x₀) (hsub:Sub C s ρ (L x₀) (O x₀))
  (h:∀ x,I x→G C (.code body::.inv (Z3 C I L O μ x)::k) (mkS (L x) (O x))):G C (.code (.loop body)::k) s :=
 Acl (α:={y:β // I y}) (fun x=>L x.1) (fun x=>O x.1) (fun x=>μ x.1) ⟨x₀,h0⟩ ρ hsub (fun x=>h x.1 x.2)
theorem A4 {C:Cx} {k:List KI} {s:SS} {β:Type} {I:β→Prop} {L:β→List (Nat × SV)} {O:β→Obs} {μ:β→Nat} {x:β} (x':β) (ρ:List (Nat × Nat)) (h':I x') (hμ:μ x'<μ x) (hsub:Sub C s ρ (L x') (O x')) :
  G C (.inv (Z3 C I L O μ x)::k) s:=fun _ _ _ hs=>⟨⟨x',h'⟩,_,hμ,hsub.st hs⟩
theorem G_litR {C:Cx} {k:List KI} {s:SS} (d:Nat) {sz:Nat} {α:Type} (e:α→SV) (l:List α) {svs:List SV} (h:s.h d=.lit sz svs) (hl:l.map e=svs) (hg:G C k ⟨s.σ,upd s.h d (.row sz e l)⟩):G C k s:=fun κ a w hs=>by
 refine hg κ a w ⟨hs.defers,hs.size,hs.inv,hs.ctx,hs.slot,fun j=>?_⟩
 show ObOK κ w j (upd s.h d (.row sz e l) j)
 by_cases hj:j=d
 ·subst hj
  rw[B1]
  have hob:=hs.obj j
  rw[h]at hob
  have hlen:l.length=svs.length:=by rw[← hl,List.length_map]
  obtain ⟨b,cap,cs,T,fr,e1,e2,e3,e4,e5,e6⟩:=hob
  exact .inr ⟨b,cap,cs,T,fr,by rw[hlen];exact e1,e2,e3,e4,by omega,fun i x hx=>by rw[hlen];exact e6 i x (J2 hl i x hx)⟩
 ·rw[Cq _ _ hj];exact hs.obj j
end Go.Sy
namespace Go.Sy.YtjenpnjajjplkaaGreatDoor
open Go.Proofs
theorem Ya (n:Nat):(revDigs n).reverse=(if n<10 then [] else (revDigs (n / 10)).reverse)++[UInt8.ofNat (48+n % 10)]:=by
 rw[revDigs.eq_1 n]
 split
 ·rw[Nat.mod_eq_of_lt (by assumption)];rfl
 ·rw[List.reverse_cons]
theorem L4 (l:List ByteArray) (sep:ByteArray):(Ci l sep).size≤Mg l+sep.size * l.length:=by
 have:=Acz (l.map (·.data.toList)) sep.data.toList
 have e:(l.map (·.data.toList)).map (·.length)=l.map (·.size):=by
  rw[List.map_map]
  apply List.map_congr_left
  intro a _
  rfl
 rw[e,List.length_map]at this
 have e2:(Ci l sep).size=(Lib.join (l.map (·.data.toList)) sep.data.toList).length:=by simp[Ci,ByteArray.size]
 rw[e2]
 exact this
theorem Aeb {n:Int} (h:0≤n∧n<1000000000000000000):(Cn n).size≤19:=by
 obtain ⟨m,rfl⟩:=Int.eq_ofNat_of_zero_le h.1
 rw[Cn,Cf]
 exact S5 m q_
theorem Vu {n:Net} (hnm:Hc n) (i:Int):(Ca n i).size≤400:=by
 rw[Ca]
 split
 ·rename_i hc
  have hk:i.toNat<n.domains.length:=by omega
  have hf:=Ko hc.2 hk
  rw[Oj,Am hk,Am hf.1.2]
  have h1:=hnm.1 _ (List.getElem_mem hf.1.2)
  have h2:=Aeb (n:=(n.domains[i.toNat]'hk).vlan) q_
  refine Nat.le_trans (L4 _ _) ?_
  have e:Mg [(n.devices[(n.domains[i.toNat]'hk).dev.toNat]'hf.1.2).name,⟨#[47]⟩,Cn (n.domains[i.toNat]'hk).vlan]=(n.devices[(n.domains[i.toNat]'hk).dev.toNat]'hf.1.2).name.size+(1+((Cn (n.domains[i.toNat]'hk).vlan).size+0)):=rfl
  have e2:(⟨#[]⟩:ByteArray).size=0:=rfl
  rw[e,e2]
  omega
 ·exact Nat.zero_le _
theorem Aa5 {n:Net} (hnm:Hc n) (i:Int):(U8 n i).size≤700:=by
 rw[U8]
 split
 ·rename_i hc
  have hk:i.toNat<n.ports.length:=by omega
  have hd:=Jk hc.2 hk
  rw[Bp,Am hk,Am hd.2]
  have h1:=hnm.1 _ (List.getElem_mem hd.2)
  have h2:=hnm.2 _ (List.getElem_mem hk)
  rw[ByteArray.size_append,ByteArray.size_append]
  show _+1+_≤700
  omega
 ·exact Nat.zero_le _
end Go.Sy.YtjenpnjajjplkaaGreatDoor
namespace Go.Sy.YtjenpnjajjplkaaGreatDoor
open Go.Proofs
attribute [local irreducible] Go.Sy.G Go.Sy.DR
set_option maxRecDepth 20000
set_option maxHeartbeats 4000000
theorem Abf (a b:List UInt8):mkT a++mkT b=mkT (a++b):=by
 apply I4
 simp[mkT]
theorem J8 (m:Nat):Cn m=mkT (revDigs m).reverse:=by rw[Cn,S6]
end Go.Sy.YtjenpnjajjplkaaGreatDoor
namespace Go.Sy.YtjenpnjajjplkaaGreatDoor
open Go.Proofs
theorem Yr (m:Nat) (h:0<m):Abb (-(m:Int))=(revDigs m++[45]).reverse:=by
 rw[Abb,if_pos q_]
 have:(-(m:Int)).natAbs=m:=by omega
 rw[this]
set_option maxRecDepth 20000 in
theorem Yp (m:Nat) (h0:0<m) (hb:m≤9223372036854775808):Sy.Spec Tryz.prog 117 [Aa (-(m:Int))] [] (Ai (Cn (-(m:Int)))) []:=cT F117 Tryz.ntmps117 fun F hF=>by
 have hpos:=Ib m
 have hlen:=fun j=>J3 j m
 have hget:=fun j=>J4 j m
 have hsh:(revDigs m).length≤20:=C5 19 m q_
 have w1:IntKind.u64.wrap (0-IntKind.u64.wrap (-(m:Int)))=m:=by rw[IntKind.wrap_u64,IntKind.wrap_u64];omega
 rw[Cn,Yr m h0]
 generalize revDigs m=D at *
 ((conv=>whnf);repeat((first|refine aF ?_|refine aT ?_);(first|refine rG Γ hm ?_|refine rD Γ hm z_ ?_);conv=>whnf))
 refine⟨fun _=>?_,fun h=>absurd (of_decide_eq_false h) q_⟩
 refine Cb 3 1000 1 Ak E E ?_
 ((first|refine rG Γ hm ?_|refine rD Γ hm z_ ?_);(conv=>whnf);repeat((first|refine aF ?_|refine aT ?_);(first|refine rG Γ hm ?_|refine rD Γ hm z_ ?_);conv=>whnf))
 refine Dk D.length (fun j=>[(0,Aa (-(m:Int))),(3,.osl 1000),(4,Hq (m / 10 ^ j:Nat)),(5,Ab (decide (j<D.length)))]) (fun j=>[(1000,.row 1 Ak (D.take j))]) []
  ⟨⟨rfl,rfl,rfl,rfl,congrArg (fun z=>SV.val (.int .u64 z)) (by simpa using w1.symm),rfl,congrArg Ab (decide_eq_true hpos),rfl,trivial⟩,⟨.inl rfl,rfl,trivial⟩,rfl,rfl⟩ ?_
 intro j hj
 ((first|refine rG Γ hm ?_|refine rD Γ hm z_ ?_);(conv=>whnf);repeat((first|refine aF ?_|refine aT ?_);(first|refine rG Γ hm ?_|refine rD Γ hm z_ ?_);conv=>whnf))
 refine⟨fun h=>?_,fun h=>?_⟩
 ·have hlt:j<D.length:=of_decide_eq_true h
  have hgj:=hget j hlt
  have hlj:=hlen j
  have e:m / 10 ^ (j+1)=m / 10 ^ j / 10:=by rw[Nat.div_div_eq_div_mul,Nat.pow_succ]
  have hq:m / 10 ^ j≤m:=Nat.div_le_self _ _
  rw[e]at hlj
  ((first|refine rG Γ hm ?_|refine rD Γ hm z_ ?_);(conv=>whnf);repeat((first|refine aF ?_|refine aT ?_);(first|refine rG Γ hm ?_|refine rD Γ hm z_ ?_);conv=>whnf))
  refine⟨by decide,?_⟩
  ((conv=>whnf);repeat((first|refine aF ?_|refine aT ?_);(first|refine rG Γ hm ?_|refine rD Γ hm z_ ?_);conv=>whnf))
  refine Aw (Al Γ.toTy 23 E E E E E (.row E) (.lit (l:=[D[j]]) E ?_) y_ ?_ ?_) E E ?_
  ·rw[hgj]
   simp only[List.map_cons,List.map_nil,Ak]
   congr 3
   generalize m / 10 ^ j=q at *
   rw[Int.tmod_eq_emod_of_nonneg (Int.natCast_nonneg _),IntKind.wrap_u64,IntKind.wrap_u8]
   simp
  ·simp;omega
  ·simp;omega
  ((first|refine rG Γ hm ?_|refine rD Γ hm z_ ?_);(conv=>whnf);repeat((first|refine aF ?_|refine aT ?_);(first|refine rG Γ hm ?_|refine rD Γ hm z_ ?_);conv=>whnf))
  refine⟨by decide,?_⟩
  ((conv=>whnf);repeat((first|refine aF ?_|refine aT ?_);(first|refine rG Γ hm ?_|refine rD Γ hm z_ ?_);conv=>whnf))
  refine Dx [(1000,23)] hlt ⟨⟨E,E,E,E,congrArg (fun z=>SV.val (.int .u64 z)) ?_,E,congrArg Ab ?_,E,Y⟩,⟨.inl (congrArg (Ob.row 1 Ak) (List.take_succ_eq_append_getElem hlt)),E,Y⟩,E,E⟩
  ·rw[e,Int.tdiv_eq_ediv_of_nonneg (Int.natCast_nonneg _),IntKind.wrap_u64]
   generalize m / 10 ^ j=q at *
   omega
  ·rw[Int.tdiv_eq_ediv_of_nonneg (Int.natCast_nonneg _),IntKind.wrap_u64]
   generalize m / 10 ^ j=q at *
   refine decide_eq_decide.2 ?_
   omega
 ·have:j=D.length:=qB h
  subst this
  rw[List.take_length]
  ((first|refine rG Γ hm ?_|refine rD Γ hm z_ ?_);(conv=>whnf);repeat((first|refine aF ?_|refine aT ?_);(first|refine rG Γ hm ?_|refine rD Γ hm z_ ?_);conv=>whnf))
  refine⟨fun _=>?_,fun h=>absurd (of_decide_eq_false h) q_⟩
  ((first|refine rG Γ hm ?_|refine rD Γ hm z_ ?_);(conv=>whnf);repeat((first|refine aF ?_|refine aT ?_);(first|refine rG Γ hm ?_|refine rD Γ hm z_ ?_);conv=>whnf))
  refine Aw (Al Γ.toTy 30 E E E E E (.row E) (.lit (e:=Ak) (l:=[45]) E E) y_ (by simp;omega) (by simp;omega)) E E ?_
  have hDl:(D++[45]).length=D.length+1:=by simp
  generalize D++[45]=D at *
  ((first|refine rG Γ hm ?_|refine rD Γ hm z_ ?_);(conv=>whnf);repeat((first|refine aF ?_|refine aT ?_);(first|refine rG Γ hm ?_|refine rD Γ hm z_ ?_);conv=>whnf))
  refine iL ?_
  ((conv=>whnf);repeat((first|refine aF ?_|refine aT ?_);(first|refine rG Γ hm ?_|refine rD Γ hm z_ ?_);conv=>whnf))
  refine Dk (D.length / 2) (fun j=>[(3,.osl 1000),(6,Aa j),(7,Aa (D.length-1-j:Nat))]) (fun j=>[(1000,.row 1 Ak (K7 D j))]) [(1000,30)]
   ⟨⟨rfl,rfl,rfl,rfl,congrArg (fun z=>SV.val (.int .i64 z)) q_,rfl,trivial⟩,⟨.inl (congrArg (Ob.row 1 Ak) (U4 D)),rfl,trivial⟩,rfl,rfl⟩ ?_
  intro i hi
  have hul:=Cc D i
  ((first|refine rG Γ hm ?_|refine rD Γ hm z_ ?_);(conv=>whnf);repeat((first|refine aF ?_|refine aT ?_);(first|refine rG Γ hm ?_|refine rD Γ hm z_ ?_);conv=>whnf))
  refine⟨fun h2=>?_,fun h2=>?_⟩
  ·have hlt:2 * i+1<D.length:=by have:=of_decide_eq_true h2;omega
   obtain ⟨u,hu⟩:∃ u,K7 D i=u:=⟨_,rfl⟩
   obtain ⟨k,hk⟩:∃ k,D.length-1-i=k:=⟨_,rfl⟩
   rw[hu]at hul
   have hs:=U5 hu hlt hk q_ q_
   rw[hu,hk]
   ((first|refine rG Γ hm ?_|refine rD Γ hm z_ ?_);(conv=>whnf);repeat((first|refine aF ?_|refine aT ?_);(first|refine rG Γ hm ?_|refine rD Γ hm z_ ?_);conv=>whnf))
   refine⟨by omega,by omega,?_⟩
   ((conv=>whnf);repeat((first|refine aF ?_|refine aT ?_);(first|refine rG Γ hm ?_|refine rD Γ hm z_ ?_);conv=>whnf))
   refine⟨E,by omega,?_⟩
   ((conv=>whnf);repeat((first|refine aF ?_|refine aT ?_);(first|refine rG Γ hm ?_|refine rD Γ hm z_ ?_);conv=>whnf))
   refine⟨by omega,by omega,?_⟩
   ((conv=>whnf);repeat((first|refine aF ?_|refine aT ?_);(first|refine rG Γ hm ?_|refine rD Γ hm z_ ?_);conv=>whnf))
   refine⟨E,by omega,?_⟩
   ((conv=>whnf);repeat((first|refine aF ?_|refine aT ?_);(first|refine rG Γ hm ?_|refine rD Γ hm z_ ?_);conv=>whnf))
   refine⟨by omega,by omega,?_⟩
   ((conv=>whnf);repeat((first|refine aF ?_|refine aT ?_);(first|refine rG Γ hm ?_|refine rD Γ hm z_ ?_);conv=>whnf))
   refine⟨E,by omega,u[k],E,E,?_⟩
   ((conv=>whnf);repeat((first|refine aF ?_|refine aT ?_);(first|refine rG Γ hm ?_|refine rD Γ hm z_ ?_);conv=>whnf))
   refine⟨by omega,by simp;omega,?_⟩
   ((conv=>whnf);repeat((first|refine aF ?_|refine aT ?_);(first|refine rG Γ hm ?_|refine rD Γ hm z_ ?_);conv=>whnf))
   refine⟨E,by simp;omega,u[i],E,E,?_⟩
   ((conv=>whnf);repeat((first|refine aF ?_|refine aT ?_);(first|refine rG Γ hm ?_|refine rD Γ hm z_ ?_);conv=>whnf))
   refine⟨z_,?_⟩
   ((conv=>whnf);repeat((first|refine aF ?_|refine aT ?_);(first|refine rG Γ hm ?_|refine rD Γ hm z_ ?_);conv=>whnf))
   refine iL ?_
   ((conv=>whnf);repeat((first|refine aF ?_|refine aT ?_);(first|refine rG Γ hm ?_|refine rD Γ hm z_ ?_);conv=>whnf))
   refine iL ?_
   ((conv=>whnf);repeat((first|refine aF ?_|refine aT ?_);(first|refine rG Γ hm ?_|refine rD Γ hm z_ ?_);conv=>whnf))
   refine Dx [] q_ ⟨⟨E,E,E,E,congrArg (fun z=>SV.val (.int .i64 z)) q_,E,Y⟩,⟨.inl (congrArg (Ob.row 1 Ak) hs.symm),E,Y⟩,E,E⟩
  ·have h3:D.length≤2 * i+1:=by have:=of_decide_eq_false h2;omega
   rw[X9 D i h3]
   ((first|refine rG Γ hm ?_|refine rD Γ hm z_ ?_);(conv=>whnf);repeat((first|refine aF ?_|refine aT ?_);(first|refine rG Γ hm ?_|refine rD Γ hm z_ ?_);conv=>whnf))
   refine Aw (Cp Γ.toTy (bs:=D.reverse) E E E E E E E (.row E)) E E ?_
   ((first|refine rG Γ hm ?_|refine rD Γ hm z_ ?_);(conv=>whnf);repeat((first|refine aF ?_|refine aT ?_);(first|refine rG Γ hm ?_|refine rD Γ hm z_ ?_);conv=>whnf))
   exact dN
end Go.Sy.YtjenpnjajjplkaaGreatDoor
namespace Go.Sy.YtjenpnjajjplkaaGreatDoor
open Go.Proofs
attribute [local irreducible] Go.Sy.G Go.Sy.DR
set_option maxRecDepth 20000
set_option maxHeartbeats 4000000
def El (n:Int):Prop:=-9223372036854775808≤n∧n<9223372036854775808
theorem Agc (m:Nat) (h:0<m):Cn (-(m:Int))=⟨#[45]⟩++Cn (m:Int):=by
 rw[Cn,Yr m h,J8,List.reverse_append]
 exact(Abf [45] _).symm
theorem Qr {n:Int} (h:El n):(Cn n).size≤22:=by
 have hs:∀ m:Nat,m<10 ^ 20→(Cn (m:Int)).size≤21:=fun m hm2=>by
  rw[J8,Cf,List.length_reverse];exact C5 20 m hm2
 unfold El at h
 by_cases h0:0≤n
 ·obtain ⟨m,rfl⟩:=Int.eq_ofNat_of_zero_le h0
  have:=hs m q_
  omega
 ·obtain ⟨m,hmn⟩:∃ m:Nat,n=-(m:Int):=⟨n.natAbs,by omega⟩
  subst hmn
  have:=hs m q_
  rw[Agc m q_,ByteArray.size_append]
  show 1+_≤22
  omega
theorem Vb (n:Int) (h:El n):Sy.Spec Tryz.prog 117 [Aa n] [] (Ai (Cn n)) []:=by
 unfold El at h
 by_cases h0:0≤n
 ·obtain ⟨m,rfl⟩:=Int.eq_ofNat_of_zero_le h0
  exact Yo m q_
 ·obtain ⟨m,hmn⟩:∃ m:Nat,n=-(m:Int):=⟨n.natAbs,by omega⟩
  subst hmn
  exact Yp m q_ q_
def Aji (p:Nat→Bool) (j:Nat):List Int:=((List.range j).filter p).map Int.ofNat
def inDom (n:Net) (d:Domain) (i:Nat):Bool:=(nth n.ports i).dev == d.dev && Co (nth n.ports i) d.vlan
def Agm (n:Net) (i:Int):List Int:=Aji (inDom n (nth n.domains i)) n.ports.length
def Tc (n:Net) (i:Int):List Int:=if (0≤i∧i<n.domains.length)∧Ac n=true then Agm n i else []
theorem W5 (n:Net) (hn:n.Fin) (l:List Domain) (p:Domain→Bool) (f:FuncId) (first cap:List SV) (hc:(SV.clo (.func f) first cap).inn []=true) (hf:∀ x∈l,Hk Tryz.prog f (first++[Af x]++cap) (Ab (p x))) (hl:Aq l) :
  Sy.Spec Tryz.prog 251 [Aj n,.sl 6 Af l,.clo (.func f) first cap] [] (Aa (if Ac n=true then Bc p l else -1)) []:=cT F251 Tryz.ntmps251 fun F hF=>by
 have hr:=Bd n hn
 have q:=Db l p f first cap hc hf hl
 conv=>whnf
 refine c0 hr F25 ?_
 cases hb:Ac n
 ·rw[if_neg y_]
  refine oT ?_
  exact dN
 rw[if_pos rfl]
 refine oF ?_
 refine Jw q F163 E E (by simp only[By,hc,Bool.and_true];rfl) E E ?_
 refine oO ?_
 exact dN
theorem Wo (dev vlan:Int) (d:Domain):Sy.Spec Tryz.prog 252 [Af d,.ref 1 (Aa dev) 0,.ref 1 (Aa vlan) 0] [] (Ab (d.dev == dev && d.vlan == vlan)) []:=cT F252 Tryz.ntmps252 fun F hF=>by
 conv=>whnf
 (repeat' (first | (refine⟨fun h=>?_,fun h=>?_⟩<;>(repeat (first | simp only[beq_iff_eq]at h | simp only[beq_eq_false_iff_ne]at h))<;>((refine oO ?_))) | (refine At rfl (.cons .tmp .nil) ?_ rfl)))
 all_goals (refine congrArg Ab ?_)
 all_goals simp_all
def Oi (n:Net) (dev vlan:Int):Int:=if Ac n=true then Bz n dev vlan else -1
theorem Mw (n:Net) (hn:n.Fin) (dev vlan:Int):Sy.Spec Tryz.prog 168 [Aj n,Aa dev,Aa vlan] [] (Aa (Oi n dev vlan)) []:=cT F168 Tryz.ntmps168 fun F hF=>by
 have q:=W5 n hn n.domains (fun d=>d.dev == dev && d.vlan == vlan) 252 [] [.ref 1 (Aa dev) 0,.ref 1 (Aa vlan) 0] rfl (fun d _=>⟨⟨_,_,F252⟩,Wo dev vlan d⟩) hn.domains
 conv=>whnf
 refine A6 4 1 (Aa dev) E E E ?_
 refine A6 5 1 (Aa vlan) E E E ?_
 refine c0 q F251 ?_
 refine oO ?_
 exact dN
def E5 (n:Net) (i:Int):Int :=
 if (0≤i∧i<n.ports.length)∧0≤(nth n.ports i).link∧Ac n=true then
  (if (nth n.links (nth n.ports i).link).a=i then (nth n.links (nth n.ports i).link).b else (nth n.links (nth n.ports i).link).a) else -1
theorem Q0 {n:Net} (h:Ac n=true) {i:Nat} (hi:i<n.ports.length) (hl:0≤n.ports[i].link) :
  n.ports[i].link.toNat<n.links.length∧((nth n.links n.ports[i].link).a=i∨(nth n.links n.ports[i].link).b=i):=by
 have:=Ab4 h hi
 simp only[Ic,Ah,Bool.and_eq_true,Bool.or_eq_true,decide_eq_true_eq,beq_iff_eq]at this
 rcases this.2 with h1 | h1
 ·omega
 ·exact⟨by omega,h1.2⟩
theorem Wt (n:Net) (hn:n.Fin) (i:Int):Sy.Spec Tryz.prog 184 [Aj n,Aa i] [] (Aa (E5 n i)) []:=cT F184 Tryz.ntmps184 fun F hF=>by
 have hr:=Bd n hn
 conv=>whnf
 refine⟨fun h=>?_,fun h=>?_⟩
 ·have h1:i<0:=of_decide_eq_true h
  rw[E5,if_neg q_]
  (refine oT ?_;refine bT ?_;refine bT ?_)
  exact dN
 have h1:0≤i:=qB h
 refine oO ?_
 refine⟨fun h=>?_,fun h=>?_⟩
 ·have h2:n.ports.length≤i:=of_decide_eq_true h
  rw[E5,if_neg q_]
  (refine oT ?_;refine bT ?_)
  exact dN
 have h2:i<n.ports.length:=qB h
 have hk:i.toNat<n.ports.length:=by omega
 have e1:nth n.ports i=n.ports[i.toNat]:=Am hk
 have hlk:=fun (hb:Ac n=true)=>Q0 hb hk
 rw[E5,e1]
 obtain ⟨p,hp⟩:∃ p,n.ports[i.toNat]=p:=⟨_,rfl⟩
 rw[hp]at hlk ⊢
 refine oO ?_
 refine⟨E,h1,hk,?_⟩
 rw[hp]
 conv=>whnf
 refine⟨fun h=>?_,fun h=>?_⟩
 ·have h3:p.link<0:=of_decide_eq_true h
  rw[if_neg q_]
  refine oT ?_
  exact dN
 have h3:0≤p.link:=qB h
 refine oO ?_
 refine c0 hr F25 ?_
 cases hb:Ac n
 ·rw[if_neg y_]
  refine oT ?_
  exact dN
 rw[if_pos ⟨⟨h1,h2⟩,h3,rfl⟩]
 have hq:=hlk hb h3
 have e2:nth n.links p.link=n.links[p.link.toNat]:=Am hq.1
 rw[e2]
 obtain ⟨l,hl⟩:∃ l,n.links[p.link.toNat]'hq.1=l:=⟨_,rfl⟩
 rw[hl]
 refine oF ?_
 refine⟨E,h1,hk,?_⟩
 rw[hp]
 conv=>whnf
 refine⟨E,h3,hq.1,?_⟩
 rw[hl]
 conv=>whnf
 refine kW ?_
 refine⟨fun h=>?_,fun h=>?_⟩
 ·have h4:l.a=i:=by simpa using h
  rw[if_pos h4]
  refine oO ?_
  exact dN
 ·have h4:¬ l.a=i:=by simpa using h
  rw[if_neg h4]
  refine oO ?_
  exact dN
end Go.Sy.YtjenpnjajjplkaaGreatDoor
