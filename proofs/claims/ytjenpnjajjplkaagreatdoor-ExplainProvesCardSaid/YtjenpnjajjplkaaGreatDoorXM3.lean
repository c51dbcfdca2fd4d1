/-
  Ty N1 N2 N3 N4 N5 N6 N7 N8 N9 N10 N11 V1 I5 Sy25 Sy26 Sy27 Sy28 Sh E1 E2 A2 E3 E4: parts of a proof, joined by program.
-/
import Derived.Test.YtjenpnjajjplkaaGreatDoorXM2
import Derived.Test.YtjenpnjajjplkaaGreatDoorProg
import Derived.Test.YtjenpnjajjplkaaGreatDoorXM1
import Derived.ChangeKeysEq
import Derived.Below
import Derived.Lib.Join
import Derived.Shelf.Strings.OnBuilder
import Derived.Shelf.Small.Strs
import Derived.Shelf.Strings.Search1
import Derived.Shelf.Strings.Search2
import Derived.Shelf.Strings.Search3
import Derived.Shelf.Strings.Cut
import Derived.Shelf.Strings.Count
import Derived.Shelf.Strings.Prefix
set_option linter.all false
set_option linter.unusedVariables false
set_option linter.unusedSimpArgs false
set_option linter.deprecated false
namespace Go.Sy.YtjenpnjajjplkaaGreatDoor
open Go.Proofs
set_option maxRecDepth 100000
theorem ty1:Bc Tryz.prog 1=some ⟨.func,1,[.nilFunc]⟩:=by kernel_rfl
theorem ty2:Bc Tryz.prog 2=some ⟨.int .i64,1,[.int .i64 0]⟩:=by kernel_rfl
theorem ty3:Bc Tryz.prog 3=some ⟨.int .i64,1,[.int .i64 0]⟩:=by kernel_rfl
theorem ty4:Bc Tryz.prog 4=some ⟨.bool,1,[.bool false]⟩:=by kernel_rfl
theorem ty5:Bc Tryz.prog 5=some ⟨.int .u8,1,[.int .u8 0]⟩:=by kernel_rfl
theorem ty9:Bc Tryz.prog 9=some ⟨.string,1,[.string .empty]⟩:=by kernel_rfl
theorem ty22:Bc Tryz.prog 22=some ⟨.slice 66 17 240 [.int .i64 0,.int .i64 0,.string .empty,.string .empty,.string .empty,.string .empty,.string .empty,.int .u64 0,.int .u32 0,.int .i64 0,.int .i64 0,.int .i64 0,.int .i64 0,.slice none 0 0,.slice none 0 0,.slice none 0 0,.slice none 0 0],1,[.slice none 0 0]⟩:=by kernel_rfl
theorem ty24:Bc Tryz.prog 24=some ⟨.slice 5 1 1 [.int .u8 0],1,[.slice none 0 0]⟩:=by kernel_rfl
theorem ty28:Bc Tryz.prog 28=some ⟨.slice 4 1 1 [.bool false],1,[.slice none 0 0]⟩:=by kernel_rfl
theorem ty31:Bc Tryz.prog 31=some ⟨.slice 80 5 48 [.int .i64 0,.int .i64 0,.string .empty,.int .u64 0,.int .u32 0],1,[.slice none 0 0]⟩:=by kernel_rfl
theorem ty32:Bc Tryz.prog 32=some ⟨.slice 82 7 80 [.int .i64 0,.int .i64 0,.int .i64 0,.int .i64 0,.int .i64 0,.string .empty,.slice none 0 0],1,[.slice none 0 0]⟩:=by kernel_rfl
theorem ty33:Bc Tryz.prog 33=some ⟨.slice 124 3 24 [.int .i64 0,.int .i64 0,.int .i64 0],1,[.slice none 0 0]⟩:=by kernel_rfl
theorem ty34:Bc Tryz.prog 34=some ⟨.slice 84 6 64 [.int .i64 0,.int .i64 0,.int .i64 0,.int .i64 0,.int .i64 0,.slice none 0 0],1,[.slice none 0 0]⟩:=by kernel_rfl
theorem ty35:Bc Tryz.prog 35=some ⟨.slice 127 4 32 [.int .i64 0,.int .i64 0,.int .i64 0,.int .u64 0],1,[.slice none 0 0]⟩:=by kernel_rfl
theorem ty36:Bc Tryz.prog 36=some ⟨.slice 113 4 48 [.int .i64 0,.int .i64 0,.int .i64 0,.slice none 0 0],1,[.slice none 0 0]⟩:=by kernel_rfl
theorem ty37:Bc Tryz.prog 37=some ⟨.slice 116 5 80 [.int .i64 0,.int .i64 0,.string .empty,.slice none 0 0,.slice none 0 0],1,[.slice none 0 0]⟩:=by kernel_rfl
theorem ty38:Bc Tryz.prog 38=some ⟨.slice 132 5 40 [.int .i64 0,.int .i64 0,.int .i64 0,.int .u32 0,.int .i64 0],1,[.slice none 0 0]⟩:=by kernel_rfl
theorem ty40:Bc Tryz.prog 40=some ⟨.struct [(0,1),(1,1),(2,1),(3,1),(4,1),(5,1),(6,1),(7,1)],8,[.slice none 0 0,.slice none 0 0,.slice none 0 0,.slice none 0 0,.slice none 0 0,.slice none 0 0,.slice none 0 0,.slice none 0 0]⟩:=by kernel_rfl
theorem ty41:Bc Tryz.prog 41=some ⟨.int .i64,1,[.int .i64 0]⟩:=by kernel_rfl
theorem ty61:Bc Tryz.prog 61=some ⟨.int .u64,1,[.int .u64 0]⟩:=by kernel_rfl
theorem ty62:Bc Tryz.prog 62=some ⟨.int .u32,1,[.int .u32 0]⟩:=by kernel_rfl
theorem ty63:Bc Tryz.prog 63=some ⟨.slice 3 1 8 [.int .i64 0],1,[.slice none 0 0]⟩:=by kernel_rfl
theorem ty64:Bc Tryz.prog 64=some ⟨.slice 62 1 4 [.int .u32 0],1,[.slice none 0 0]⟩:=by kernel_rfl
theorem ty66:Bc Tryz.prog 66=some ⟨.struct [(0,1),(1,1),(2,1),(3,1),(4,1),(5,1),(6,1),(7,1),(8,1),(9,1),(10,1),(11,1),(12,1),(13,1),(14,1),(15,1),(16,1)],17,[.int .i64 0,.int .i64 0,.string .empty,.string .empty,.string .empty,.string .empty,.string .empty,.int .u64 0,.int .u32 0,.int .i64 0,.int .i64 0,.int .i64 0,.int .i64 0,.slice none 0 0,.slice none 0 0,.slice none 0 0,.slice none 0 0]⟩:=by kernel_rfl
theorem ty68:Bc Tryz.prog 68=some ⟨.slice 9 1 16 [.string .empty],1,[.slice none 0 0]⟩:=by kernel_rfl
theorem ty74:Bc Tryz.prog 74=some ⟨.slice 171 4 32 [.int .i64 0,.int .i64 0,.int .i64 0,.int .u32 0],1,[.slice none 0 0]⟩:=by kernel_rfl
theorem ty80:Bc Tryz.prog 80=some ⟨.struct [(0,1),(1,1),(2,1),(3,1),(4,1)],5,[.int .i64 0,.int .i64 0,.string .empty,.int .u64 0,.int .u32 0]⟩:=by kernel_rfl
theorem ty82:Bc Tryz.prog 82=some ⟨.struct [(0,1),(1,1),(2,1),(3,1),(4,1),(5,1),(6,1)],7,[.int .i64 0,.int .i64 0,.int .i64 0,.int .i64 0,.int .i64 0,.string .empty,.slice none 0 0]⟩:=by kernel_rfl
theorem ty84:Bc Tryz.prog 84=some ⟨.struct [(0,1),(1,1),(2,1),(3,1),(4,1),(5,1)],6,[.int .i64 0,.int .i64 0,.int .i64 0,.int .i64 0,.int .i64 0,.slice none 0 0]⟩:=by kernel_rfl
theorem ty85:Bc Tryz.prog 85=some ⟨.ptr,1,[.pointer none]⟩:=by kernel_rfl
theorem ty90:Bc Tryz.prog 90=some ⟨.struct [(0,0),(0,1)],1,[.int .u32 0]⟩:=by kernel_rfl
theorem ty94:Bc Tryz.prog 94=some ⟨.struct [(0,0),(0,2)],2,[.int .i32 0,.int .u32 0]⟩:=by kernel_rfl
theorem ty96:Bc Tryz.prog 96=some ⟨.struct [(0,0),(0,1),(1,2)],3,[.int .u32 0,.int .i32 0,.int .u32 0]⟩:=by kernel_rfl
theorem ty98:Bc Tryz.prog 98=some ⟨.struct [(0,3),(3,1),(4,8),(12,1),(13,1)],14,[.int .u32 0,.int .i32 0,.int .u32 0,.slice none 0 0,.slice none 0 0,.slice none 0 0,.slice none 0 0,.slice none 0 0,.slice none 0 0,.slice none 0 0,.slice none 0 0,.slice none 0 0,.int .i64 0,.int .i64 0]⟩:=by kernel_rfl
theorem ty113:Bc Tryz.prog 113=some ⟨.struct [(0,1),(1,1),(2,1),(3,1)],4,[.int .i64 0,.int .i64 0,.int .i64 0,.slice none 0 0]⟩:=by kernel_rfl
theorem ty116:Bc Tryz.prog 116=some ⟨.struct [(0,1),(1,1),(2,1),(3,1),(4,1)],5,[.int .i64 0,.int .i64 0,.string .empty,.slice none 0 0,.slice none 0 0]⟩:=by kernel_rfl
theorem ty124:Bc Tryz.prog 124=some ⟨.struct [(0,1),(1,1),(2,1)],3,[.int .i64 0,.int .i64 0,.int .i64 0]⟩:=by kernel_rfl
theorem ty127:Bc Tryz.prog 127=some ⟨.struct [(0,1),(1,1),(2,1),(3,1)],4,[.int .i64 0,.int .i64 0,.int .i64 0,.int .u64 0]⟩:=by kernel_rfl
theorem ty130:Bc Tryz.prog 130=some ⟨.struct [(0,1),(1,1)],2,[.int .u32 0,.int .i64 0]⟩:=by kernel_rfl
theorem ty132:Bc Tryz.prog 132=some ⟨.struct [(0,1),(1,1),(2,1),(3,2)],5,[.int .i64 0,.int .i64 0,.int .i64 0,.int .u32 0,.int .i64 0]⟩:=by kernel_rfl
theorem ty145:Bc Tryz.prog 145=some ⟨.slice 3 1 8 [.int .i64 0],1,[.slice none 0 0]⟩:=by kernel_rfl
theorem ty149:Bc Tryz.prog 149=some ⟨.func,1,[.nilFunc]⟩:=by kernel_rfl
theorem ty151:Bc Tryz.prog 151=some ⟨.struct [(0,8)],8,[.slice none 0 0,.slice none 0 0,.slice none 0 0,.slice none 0 0,.slice none 0 0,.slice none 0 0,.slice none 0 0,.slice none 0 0]⟩:=by kernel_rfl
theorem ty153:Bc Tryz.prog 153=some ⟨.func,1,[.nilFunc]⟩:=by kernel_rfl
theorem ty155:Bc Tryz.prog 155=some ⟨.func,1,[.nilFunc]⟩:=by kernel_rfl
theorem ty157:Bc Tryz.prog 157=some ⟨.func,1,[.nilFunc]⟩:=by kernel_rfl
theorem ty159:Bc Tryz.prog 159=some ⟨.func,1,[.nilFunc]⟩:=by kernel_rfl
theorem ty162:Bc Tryz.prog 162=some ⟨.func,1,[.nilFunc]⟩:=by kernel_rfl
theorem ty165:Bc Tryz.prog 165=some ⟨.func,1,[.nilFunc]⟩:=by kernel_rfl
theorem ty167:Bc Tryz.prog 167=some ⟨.func,1,[.nilFunc]⟩:=by kernel_rfl
theorem ty171:Bc Tryz.prog 171=some ⟨.struct [(0,1),(1,1),(2,1),(3,1)],4,[.int .i64 0,.int .i64 0,.int .i64 0,.int .u32 0]⟩:=by kernel_rfl
theorem ty173:Bc Tryz.prog 173=some ⟨.ptr,1,[.pointer none]⟩:=by kernel_rfl
theorem ty175:Bc Tryz.prog 175=some ⟨.struct [(0,8),(8,1),(9,1)],10,[.slice none 0 0,.slice none 0 0,.slice none 0 0,.slice none 0 0,.slice none 0 0,.slice none 0 0,.slice none 0 0,.slice none 0 0,.int .i64 0,.bool false]⟩:=by kernel_rfl
theorem ty178:Bc Tryz.prog 178=some ⟨.func,1,[.nilFunc]⟩:=by kernel_rfl
theorem ty181:Bc Tryz.prog 181=some ⟨.ptr,1,[.pointer none]⟩:=by kernel_rfl
theorem ty182:Bc Tryz.prog 182=some ⟨.array 28 2 1,2,[.slice none 0 0,.slice none 0 0]⟩:=by kernel_rfl
theorem ty183:Bc Tryz.prog 183=some ⟨.slice 191 7 56 [.int .i64 0,.int .i64 0,.int .i64 0,.int .i64 0,.int .i64 0,.int .u32 0,.int .i64 0],1,[.slice none 0 0]⟩:=by kernel_rfl
theorem ty185:Bc Tryz.prog 185=some ⟨.struct [(0,8),(8,2),(10,1)],11,[.slice none 0 0,.slice none 0 0,.slice none 0 0,.slice none 0 0,.slice none 0 0,.slice none 0 0,.slice none 0 0,.slice none 0 0,.slice none 0 0,.slice none 0 0,.slice none 0 0]⟩:=by kernel_rfl
theorem ty189:Bc Tryz.prog 189=some ⟨.struct [(0,1),(1,1)],2,[.int .i64 0,.int .i64 0]⟩:=by kernel_rfl
theorem ty191:Bc Tryz.prog 191=some ⟨.struct [(0,2),(2,4),(6,1)],7,[.int .i64 0,.int .i64 0,.int .i64 0,.int .i64 0,.int .i64 0,.int .u32 0,.int .i64 0]⟩:=by kernel_rfl
theorem ty209:Bc Tryz.prog 209=some ⟨.func,1,[.nilFunc]⟩:=by kernel_rfl
theorem ty239:Bc Tryz.prog 239=some ⟨.func,1,[.nilFunc]⟩:=by kernel_rfl
theorem ty241:Bc Tryz.prog 241=some ⟨.func,1,[.nilFunc]⟩:=by kernel_rfl
theorem ty243:Bc Tryz.prog 243=some ⟨.func,1,[.nilFunc]⟩:=by kernel_rfl
theorem ty245:Bc Tryz.prog 245=some ⟨.func,1,[.nilFunc]⟩:=by kernel_rfl
theorem ty247:Bc Tryz.prog 247=some ⟨.func,1,[.nilFunc]⟩:=by kernel_rfl
theorem ty264:Bc Tryz.prog 264=some ⟨.slice 267 3 24 [.int .i64 0,.int .i64 0,.int .u32 0],1,[.slice none 0 0]⟩:=by kernel_rfl
theorem ty267:Bc Tryz.prog 267=some ⟨.struct [(0,1),(1,1),(2,1)],3,[.int .i64 0,.int .i64 0,.int .u32 0]⟩:=by kernel_rfl
theorem ty272:Bc Tryz.prog 272=some ⟨.ptr,1,[.pointer none]⟩:=by kernel_rfl
theorem ty275:Bc Tryz.prog 275=some ⟨.int .u64,1,[.int .u64 0]⟩:=by kernel_rfl
theorem ty313:Bc Tryz.prog 313=some ⟨.struct [(0,1),(1,1)],2,[.pointer none,.slice none 0 0]⟩:=by kernel_rfl
theorem ty323:Bc Tryz.prog 323=some ⟨.func,1,[.nilFunc]⟩:=by kernel_rfl
theorem ty333:Bc Tryz.prog 333=some ⟨.ptr,1,[.pointer none]⟩:=by kernel_rfl
theorem ty335:Bc Tryz.prog 335=some ⟨.ptr,1,[.pointer none]⟩:=by kernel_rfl
theorem ty362:Bc Tryz.prog 362=some ⟨.ptr,1,[.pointer none]⟩:=by kernel_rfl
theorem ty366:Bc Tryz.prog 366=some ⟨.struct [(0,8)],8,[.slice none 0 0,.slice none 0 0,.slice none 0 0,.slice none 0 0,.slice none 0 0,.slice none 0 0,.slice none 0 0,.slice none 0 0]⟩:=by kernel_rfl
theorem ty369:Bc Tryz.prog 369=some ⟨.array 3 2 1,2,[.int .i64 0,.int .i64 0]⟩:=by kernel_rfl
theorem ty400:Bc Tryz.prog 400=some ⟨.func,1,[.nilFunc]⟩:=by kernel_rfl
theorem ty402:Bc Tryz.prog 402=some ⟨.func,1,[.nilFunc]⟩:=by kernel_rfl
theorem tq80:Mg Tryz.prog 80=some [.int .i64,.int .i64,.string,.int .u64,.int .u32]:=by kernel_rfl
theorem tq124:Mg Tryz.prog 124=some [.int .i64,.int .i64,.int .i64]:=by kernel_rfl
theorem tq127:Mg Tryz.prog 127=some [.int .i64,.int .i64,.int .i64,.int .u64]:=by kernel_rfl
theorem tq130:Mg Tryz.prog 130=some [.int .u32,.int .i64]:=by kernel_rfl
theorem tq171:Mg Tryz.prog 171=some [.int .i64,.int .i64,.int .i64,.int .u32]:=by kernel_rfl
theorem tq189:Mg Tryz.prog 189=some [.int .i64,.int .i64]:=by kernel_rfl
theorem tq267:Mg Tryz.prog 267=some [.int .i64,.int .i64,.int .u32]:=by kernel_rfl
def tab:Tr TI:=(.nd 132 (⟨.struct [(0,1),(1,1),(2,1),(3,2)],5,[.int .i64 0,.int .i64 0,.int .i64 0,.int .u32 0,.int .i64 0]⟩) (.nd 61 (⟨.int .u64,1,[.int .u64 0]⟩) (.nd 31 (⟨.slice 80 5 48 [.int .i64 0,.int .i64 0,.string .empty,.int .u64 0,.int .u32 0],1,[.slice none 0 0]⟩) (.nd 5 (⟨.int .u8,1,[.int .u8 0]⟩) (.nd 3 (⟨.int .i64,1,[.int .i64 0]⟩) (.nd 2 (⟨.int .i64,1,[.int .i64 0]⟩) (.nd 1 (⟨.func,1,[.nilFunc]⟩) .lf .lf) .lf) (.nd 4 (⟨.bool,1,[.bool false]⟩) .lf .lf)) (.nd 24 (⟨.slice 5 1 1 [.int .u8 0],1,[.slice none 0 0]⟩) (.nd 22 (⟨.slice 66 17 240 [.int .i64 0,.int .i64 0,.string .empty,.string .empty,.string .empty,.string .empty,.string .empty,.int .u64 0,.int .u32 0,.int .i64 0,.int .i64 0,.int .i64 0,.int .i64 0,.slice none 0 0,.slice none 0 0,.slice none 0 0,.slice none 0 0],1,[.slice none 0 0]⟩) (.nd 9 (⟨.string,1,[.string .empty]⟩) .lf .lf) .lf) (.nd 28 (⟨.slice 4 1 1 [.bool false],1,[.slice none 0 0]⟩) .lf .lf))) (.nd 36 (⟨.slice 113 4 48 [.int .i64 0,.int .i64 0,.int .i64 0,.slice none 0 0],1,[.slice none 0 0]⟩) (.nd 34 (⟨.slice 84 6 64 [.int .i64 0,.int .i64 0,.int .i64 0,.int .i64 0,.int .i64 0,.slice none 0 0],1,[.slice none 0 0]⟩) (.nd 33 (⟨.slice 124 3 24 [.int .i64 0,.int .i64 0,.int .i64 0],1,[.slice none 0 0]⟩) (.nd 32 (⟨.slice 82 7 80 [.int .i64 0,.int .i64 0,.int .i64 0,.int .i64 0,.int .i64 0,.string .empty,.slice none 0 0],1,[.slice none 0 0]⟩) .lf .lf) .lf) (.nd 35 (⟨.slice 127 4 32 [.int .i64 0,.int .i64 0,.int .i64 0,.int .u64 0],1,[.slice none 0 0]⟩) .lf .lf)) (.nd 40 (⟨.struct [(0,1),(1,1),(2,1),(3,1),(4,1),(5,1),(6,1),(7,1)],8,[.slice none 0 0,.slice none 0 0,.slice none 0 0,.slice none 0 0,.slice none 0 0,.slice none 0 0,.slice none 0 0,.slice none 0 0]⟩) (.nd 38 (⟨.slice 132 5 40 [.int .i64 0,.int .i64 0,.int .i64 0,.int .u32 0,.int .i64 0],1,[.slice none 0 0]⟩) (.nd 37 (⟨.slice 116 5 80 [.int .i64 0,.int .i64 0,.string .empty,.slice none 0 0,.slice none 0 0],1,[.slice none 0 0]⟩) .lf .lf) .lf) (.nd 41 (⟨.int .i64,1,[.int .i64 0]⟩) .lf .lf)))) (.nd 85 (⟨.ptr,1,[.pointer none]⟩) (.nd 68 (⟨.slice 9 1 16 [.string .empty],1,[.slice none 0 0]⟩) (.nd 64 (⟨.slice 62 1 4 [.int .u32 0],1,[.slice none 0 0]⟩) (.nd 63 (⟨.slice 3 1 8 [.int .i64 0],1,[.slice none 0 0]⟩) (.nd 62 (⟨.int .u32,1,[.int .u32 0]⟩) .lf .lf) .lf) (.nd 66 (⟨.struct [(0,1),(1,1),(2,1),(3,1),(4,1),(5,1),(6,1),(7,1),(8,1),(9,1),(10,1),(11,1),(12,1),(13,1),(14,1),(15,1),(16,1)],17,[.int .i64 0,.int .i64 0,.string .empty,.string .empty,.string .empty,.string .empty,.string .empty,.int .u64 0,.int .u32 0,.int .i64 0,.int .i64 0,.int .i64 0,.int .i64 0,.slice none 0 0,.slice none 0 0,.slice none 0 0,.slice none 0 0]⟩) .lf .lf)) (.nd 82 (⟨.struct [(0,1),(1,1),(2,1),(3,1),(4,1),(5,1),(6,1)],7,[.int .i64 0,.int .i64 0,.int .i64 0,.int .i64 0,.int .i64 0,.string .empty,.slice none 0 0]⟩) (.nd 80 (⟨.struct [(0,1),(1,1),(2,1),(3,1),(4,1)],5,[.int .i64 0,.int .i64 0,.string .empty,.int .u64 0,.int .u32 0]⟩) (.nd 74 (⟨.slice 171 4 32 [.int .i64 0,.int .i64 0,.int .i64 0,.int .u32 0],1,[.slice none 0 0]⟩) .lf .lf) .lf) (.nd 84 (⟨.struct [(0,1),(1,1),(2,1),(3,1),(4,1),(5,1)],6,[.int .i64 0,.int .i64 0,.int .i64 0,.int .i64 0,.int .i64 0,.slice none 0 0]⟩) .lf .lf))) (.nd 113 (⟨.struct [(0,1),(1,1),(2,1),(3,1)],4,[.int .i64 0,.int .i64 0,.int .i64 0,.slice none 0 0]⟩) (.nd 96 (⟨.struct [(0,0),(0,1),(1,2)],3,[.int .u32 0,.int .i32 0,.int .u32 0]⟩) (.nd 94 (⟨.struct [(0,0),(0,2)],2,[.int .i32 0,.int .u32 0]⟩) (.nd 90 (⟨.struct [(0,0),(0,1)],1,[.int .u32 0]⟩) .lf .lf) .lf) (.nd 98 (⟨.struct [(0,3),(3,1),(4,8),(12,1),(13,1)],14,[.int .u32 0,.int .i32 0,.int .u32 0,.slice none 0 0,.slice none 0 0,.slice none 0 0,.slice none 0 0,.slice none 0 0,.slice none 0 0,.slice none 0 0,.slice none 0 0,.slice none 0 0,.int .i64 0,.int .i64 0]⟩) .lf .lf)) (.nd 127 (⟨.struct [(0,1),(1,1),(2,1),(3,1)],4,[.int .i64 0,.int .i64 0,.int .i64 0,.int .u64 0]⟩) (.nd 124 (⟨.struct [(0,1),(1,1),(2,1)],3,[.int .i64 0,.int .i64 0,.int .i64 0]⟩) (.nd 116 (⟨.struct [(0,1),(1,1),(2,1),(3,1),(4,1)],5,[.int .i64 0,.int .i64 0,.string .empty,.slice none 0 0,.slice none 0 0]⟩) .lf .lf) .lf) (.nd 130 (⟨.struct [(0,1),(1,1)],2,[.int .u32 0,.int .i64 0]⟩) .lf .lf))))) (.nd 191 (⟨.struct [(0,2),(2,4),(6,1)],7,[.int .i64 0,.int .i64 0,.int .i64 0,.int .i64 0,.int .i64 0,.int .u32 0,.int .i64 0]⟩) (.nd 167 (⟨.func,1,[.nilFunc]⟩) (.nd 155 (⟨.func,1,[.nilFunc]⟩) (.nd 151 (⟨.struct [(0,8)],8,[.slice none 0 0,.slice none 0 0,.slice none 0 0,.slice none 0 0,.slice none 0 0,.slice none 0 0,.slice none 0 0,.slice none 0 0]⟩) (.nd 149 (⟨.func,1,[.nilFunc]⟩) (.nd 145 (⟨.slice 3 1 8 [.int .i64 0],1,[.slice none 0 0]⟩) .lf .lf) .lf) (.nd 153 (⟨.func,1,[.nilFunc]⟩) .lf .lf)) (.nd 162 (⟨.func,1,[.nilFunc]⟩) (.nd 159 (⟨.func,1,[.nilFunc]⟩) (.nd 157 (⟨.func,1,[.nilFunc]⟩) .lf .lf) .lf) (.nd 165 (⟨.func,1,[.nilFunc]⟩) .lf .lf))) (.nd 181 (⟨.ptr,1,[.pointer none]⟩) (.nd 175 (⟨.struct [(0,8),(8,1),(9,1)],10,[.slice none 0 0,.slice none 0 0,.slice none 0 0,.slice none 0 0,.slice none 0 0,.slice none 0 0,.slice none 0 0,.slice none 0 0,.int .i64 0,.bool false]⟩) (.nd 173 (⟨.ptr,1,[.pointer none]⟩) (.nd 171 (⟨.struct [(0,1),(1,1),(2,1),(3,1)],4,[.int .i64 0,.int .i64 0,.int .i64 0,.int .u32 0]⟩) .lf .lf) .lf) (.nd 178 (⟨.func,1,[.nilFunc]⟩) .lf .lf)) (.nd 185 (⟨.struct [(0,8),(8,2),(10,1)],11,[.slice none 0 0,.slice none 0 0,.slice none 0 0,.slice none 0 0,.slice none 0 0,.slice none 0 0,.slice none 0 0,.slice none 0 0,.slice none 0 0,.slice none 0 0,.slice none 0 0]⟩) (.nd 183 (⟨.slice 191 7 56 [.int .i64 0,.int .i64 0,.int .i64 0,.int .i64 0,.int .i64 0,.int .u32 0,.int .i64 0],1,[.slice none 0 0]⟩) (.nd 182 (⟨.array 28 2 1,2,[.slice none 0 0,.slice none 0 0]⟩) .lf .lf) .lf) (.nd 189 (⟨.struct [(0,1),(1,1)],2,[.int .i64 0,.int .i64 0]⟩) .lf .lf)))) (.nd 275 (⟨.int .u64,1,[.int .u64 0]⟩) (.nd 245 (⟨.func,1,[.nilFunc]⟩) (.nd 241 (⟨.func,1,[.nilFunc]⟩) (.nd 239 (⟨.func,1,[.nilFunc]⟩) (.nd 209 (⟨.func,1,[.nilFunc]⟩) .lf .lf) .lf) (.nd 243 (⟨.func,1,[.nilFunc]⟩) .lf .lf)) (.nd 267 (⟨.struct [(0,1),(1,1),(2,1)],3,[.int .i64 0,.int .i64 0,.int .u32 0]⟩) (.nd 264 (⟨.slice 267 3 24 [.int .i64 0,.int .i64 0,.int .u32 0],1,[.slice none 0 0]⟩) (.nd 247 (⟨.func,1,[.nilFunc]⟩) .lf .lf) .lf) (.nd 272 (⟨.ptr,1,[.pointer none]⟩) .lf .lf))) (.nd 362 (⟨.ptr,1,[.pointer none]⟩) (.nd 333 (⟨.ptr,1,[.pointer none]⟩) (.nd 323 (⟨.func,1,[.nilFunc]⟩) (.nd 313 (⟨.struct [(0,1),(1,1)],2,[.pointer none,.slice none 0 0]⟩) .lf .lf) .lf) (.nd 335 (⟨.ptr,1,[.pointer none]⟩) .lf .lf)) (.nd 400 (⟨.func,1,[.nilFunc]⟩) (.nd 369 (⟨.array 3 2 1,2,[.int .i64 0,.int .i64 0]⟩) (.nd 366 (⟨.struct [(0,8)],8,[.slice none 0 0,.slice none 0 0,.slice none 0 0,.slice none 0 0,.slice none 0 0,.slice none 0 0,.slice none 0 0,.slice none 0 0]⟩) .lf .lf) .lf) (.nd 402 (⟨.func,1,[.nilFunc]⟩) .lf .lf))))))
def etab:Tr (List EK):=(.nd 130 ([.int .u32,.int .i64]) (.nd 124 ([.int .i64,.int .i64,.int .i64]) (.nd 80 ([.int .i64,.int .i64,.string,.int .u64,.int .u32]) .lf .lf) (.nd 127 ([.int .i64,.int .i64,.int .i64,.int .u64]) .lf .lf)) (.nd 189 ([.int .i64,.int .i64]) (.nd 171 ([.int .i64,.int .i64,.int .i64,.int .u32]) .lf .lf) (.nd 267 ([.int .i64,.int .i64,.int .u32]) .lf .lf)))
theorem tab_ok:tab.all (fun t i=>Bc Tryz.prog t=some i):=⟨ty132,⟨ty61,⟨ty31,⟨ty5,⟨ty3,⟨ty2,⟨ty1,trivial,trivial⟩,trivial⟩,⟨ty4,trivial,trivial⟩⟩,⟨ty24,⟨ty22,⟨ty9,trivial,trivial⟩,trivial⟩,⟨ty28,trivial,trivial⟩⟩⟩,⟨ty36,⟨ty34,⟨ty33,⟨ty32,trivial,trivial⟩,trivial⟩,⟨ty35,trivial,trivial⟩⟩,⟨ty40,⟨ty38,⟨ty37,trivial,trivial⟩,trivial⟩,⟨ty41,trivial,trivial⟩⟩⟩⟩,⟨ty85,⟨ty68,⟨ty64,⟨ty63,⟨ty62,trivial,trivial⟩,trivial⟩,⟨ty66,trivial,trivial⟩⟩,⟨ty82,⟨ty80,⟨ty74,trivial,trivial⟩,trivial⟩,⟨ty84,trivial,trivial⟩⟩⟩,⟨ty113,⟨ty96,⟨ty94,⟨ty90,trivial,trivial⟩,trivial⟩,⟨ty98,trivial,trivial⟩⟩,⟨ty127,⟨ty124,⟨ty116,trivial,trivial⟩,trivial⟩,⟨ty130,trivial,trivial⟩⟩⟩⟩⟩,⟨ty191,⟨ty167,⟨ty155,⟨ty151,⟨ty149,⟨ty145,trivial,trivial⟩,trivial⟩,⟨ty153,trivial,trivial⟩⟩,⟨ty162,⟨ty159,⟨ty157,trivial,trivial⟩,trivial⟩,⟨ty165,trivial,trivial⟩⟩⟩,⟨ty181,⟨ty175,⟨ty173,⟨ty171,trivial,trivial⟩,trivial⟩,⟨ty178,trivial,trivial⟩⟩,⟨ty185,⟨ty183,⟨ty182,trivial,trivial⟩,trivial⟩,⟨ty189,trivial,trivial⟩⟩⟩⟩,⟨ty275,⟨ty245,⟨ty241,⟨ty239,⟨ty209,trivial,trivial⟩,trivial⟩,⟨ty243,trivial,trivial⟩⟩,⟨ty267,⟨ty264,⟨ty247,trivial,trivial⟩,trivial⟩,⟨ty272,trivial,trivial⟩⟩⟩,⟨ty362,⟨ty333,⟨ty323,⟨ty313,trivial,trivial⟩,trivial⟩,⟨ty335,trivial,trivial⟩⟩,⟨ty400,⟨ty369,⟨ty366,trivial,trivial⟩,trivial⟩,⟨ty402,trivial,trivial⟩⟩⟩⟩⟩⟩
theorem Ajb:etab.all (fun t i=>Mg Tryz.prog t=some i):=⟨tq130,⟨tq124,⟨tq80,trivial,trivial⟩,⟨tq127,trivial,trivial⟩⟩,⟨tq189,⟨tq171,trivial,trivial⟩,⟨tq267,trivial,trivial⟩⟩⟩
def Γ:TyE Tryz.prog:=⟨⟨fun t=>tab.look t,fun _ _ h=>Aik (Tr.look_ok tab_ok h)⟩,fun t=>etab.look t,fun _ _ h=>Ahn (Tr.look_ok Ajb h)⟩
theorem hm:Tryz.prog.follows .mixedOrders=true:=by kernel_rfl
abbrev fT (i:Nat) (fn:Func):Prop:=Fun Tryz.prog i fn (Aco fn)
theorem fN {P : Program} {f : FuncId} {fn : Func} (h : P.funcs[f]? = some fn) (hb : fn.body = some (Aco fn) := by exact rfl) (hn : (fn.name == "runtime.NumGoroutine") = false := by kernel_rfl) : Fun P f fn (Aco fn) := ⟨h, hb, hn⟩
theorem cT {f:FuncId} {fn:Func} {c:Code} {A:List SV} {H:Obs} {R:SV} {H':Obs} (hF:Fun Tryz.prog f fn c) {n:Nat} (hn':fn.ntmps=n)
  (h:∀ (F:Fr) (hF:∀ k,F.k0 k≠.new→k∈H.keys),Iy ⟨Tryz.prog,Γ.toTy,F,n,Tn Tryz.prog fn F R H',H.keys,hF⟩ Γ 100 [.code c] ⟨argσ A,mkh H⟩) (hn:Adg A n=true:=by exact rfl):Sy.Spec Tryz.prog f A H R H':=Aai Γ hm 100 hF hn' hn h
theorem F8:fT 8 Tryz.f8:=fN Tryz.func8
theorem F11:fT 11 Tryz.f11:=fN Tryz.func11
theorem F13:fT 13 Tryz.f13:=fN Tryz.func13
theorem F23:fT 23 Tryz.f23:=fN Tryz.func23
theorem F24:fT 24 Tryz.f24:=fN Tryz.func24
theorem F25:fT 25 Tryz.f25:=fN Tryz.func25
theorem F26:fT 26 Tryz.f26:=fN Tryz.func26
theorem F27:fT 27 Tryz.f27:=fN Tryz.func27
theorem F28:fT 28 Tryz.f28:=fN Tryz.func28
theorem F29:fT 29 Tryz.f29:=fN Tryz.func29
theorem F30:fT 30 Tryz.f30:=fN Tryz.func30
theorem F33:fT 33 Tryz.f33:=fN Tryz.func33
theorem F52:fT 52 Tryz.f52:=fN Tryz.func52
theorem F57:fT 57 Tryz.f57:=fN Tryz.func57
theorem F60:fT 60 Tryz.f60:=fN Tryz.func60
theorem F61:fT 61 Tryz.f61:=fN Tryz.func61
theorem F62:fT 62 Tryz.f62:=fN Tryz.func62
theorem F63:fT 63 Tryz.f63:=fN Tryz.func63
theorem F64:fT 64 Tryz.f64:=fN Tryz.func64
theorem F65:fT 65 Tryz.f65:=fN Tryz.func65
theorem F66:fT 66 Tryz.f66:=fN Tryz.func66
theorem F67:fT 67 Tryz.f67:=fN Tryz.func67
theorem F68:fT 68 Tryz.f68:=fN Tryz.func68
theorem F69:fT 69 Tryz.f69:=fN Tryz.func69
theorem F70:fT 70 Tryz.f70:=fN Tryz.func70
theorem F71:fT 71 Tryz.f71:=fN Tryz.func71
theorem F72:fT 72 Tryz.f72:=fN Tryz.func72
theorem F73:fT 73 Tryz.f73:=fN Tryz.func73
theorem F74:fT 74 Tryz.f74:=fN Tryz.func74
theorem F75:fT 75 Tryz.f75:=fN Tryz.func75
theorem F76:fT 76 Tryz.f76:=fN Tryz.func76
theorem F77:fT 77 Tryz.f77:=fN Tryz.func77
theorem F78:fT 78 Tryz.f78:=fN Tryz.func78
theorem F79:fT 79 Tryz.f79:=fN Tryz.func79
theorem F80:fT 80 Tryz.f80:=fN Tryz.func80
theorem F81:fT 81 Tryz.f81:=fN Tryz.func81
theorem F82:fT 82 Tryz.f82:=fN Tryz.func82
theorem F83:fT 83 Tryz.f83:=fN Tryz.func83
theorem F84:fT 84 Tryz.f84:=fN Tryz.func84
theorem F85:fT 85 Tryz.f85:=fN Tryz.func85
theorem F86:fT 86 Tryz.f86:=fN Tryz.func86
theorem F87:fT 87 Tryz.f87:=fN Tryz.func87
theorem F88:fT 88 Tryz.f88:=fN Tryz.func88
theorem F89:fT 89 Tryz.f89:=fN Tryz.func89
theorem F90:fT 90 Tryz.f90:=fN Tryz.func90
theorem F91:fT 91 Tryz.f91:=fN Tryz.func91
theorem F92:fT 92 Tryz.f92:=fN Tryz.func92
theorem F93:fT 93 Tryz.f93:=fN Tryz.func93
theorem F94:fT 94 Tryz.f94:=fN Tryz.func94
theorem F95:fT 95 Tryz.f95:=fN Tryz.func95
theorem F96:fT 96 Tryz.f96:=fN Tryz.func96
theorem F97:fT 97 Tryz.f97:=fN Tryz.func97
theorem F98:fT 98 Tryz.f98:=fN Tryz.func98
theorem F99:fT 99 Tryz.f99:=fN Tryz.func99
theorem F100:fT 100 Tryz.f100:=fN Tryz.func100
theorem F101:fT 101 Tryz.f101:=fN Tryz.func101
theorem F102:fT 102 Tryz.f102:=fN Tryz.func102
theorem F103:fT 103 Tryz.f103:=fN Tryz.func103
theorem F111:fT 111 Tryz.f111:=fN Tryz.func111
theorem F112:fT 112 Tryz.f112:=fN Tryz.func112
theorem F117:fT 117 Tryz.f117:=fN Tryz.func117
theorem F121:fT 121 Tryz.f121:=fN Tryz.func121
theorem F150:fT 150 Tryz.f150:=fN Tryz.func150
theorem F151:fT 151 Tryz.f151:=fN Tryz.func151
theorem F152:fT 152 Tryz.f152:=fN Tryz.func152
theorem F153:fT 153 Tryz.f153:=fN Tryz.func153
theorem F154:fT 154 Tryz.f154:=fN Tryz.func154
theorem F155:fT 155 Tryz.f155:=fN Tryz.func155
theorem F156:fT 156 Tryz.f156:=fN Tryz.func156
theorem F157:fT 157 Tryz.f157:=fN Tryz.func157
theorem F158:fT 158 Tryz.f158:=fN Tryz.func158
theorem F159:fT 159 Tryz.f159:=fN Tryz.func159
theorem F160:fT 160 Tryz.f160:=fN Tryz.func160
theorem F161:fT 161 Tryz.f161:=fN Tryz.func161
theorem F162:fT 162 Tryz.f162:=fN Tryz.func162
theorem F163:fT 163 Tryz.f163:=fN Tryz.func163
theorem F164:fT 164 Tryz.f164:=fN Tryz.func164
theorem F165:fT 165 Tryz.f165:=fN Tryz.func165
theorem F166:fT 166 Tryz.f166:=fN Tryz.func166
theorem F167:fT 167 Tryz.f167:=fN Tryz.func167
theorem F168:fT 168 Tryz.f168:=fN Tryz.func168
theorem F169:fT 169 Tryz.f169:=fN Tryz.func169
theorem F170:fT 170 Tryz.f170:=fN Tryz.func170
theorem F171:fT 171 Tryz.f171:=fN Tryz.func171
theorem F172:fT 172 Tryz.f172:=fN Tryz.func172
theorem F173:fT 173 Tryz.f173:=fN Tryz.func173
theorem F174:fT 174 Tryz.f174:=fN Tryz.func174
theorem F175:fT 175 Tryz.f175:=fN Tryz.func175
theorem F176:fT 176 Tryz.f176:=fN Tryz.func176
theorem F177:fT 177 Tryz.f177:=fN Tryz.func177
theorem F178:fT 178 Tryz.f178:=fN Tryz.func178
theorem F179:fT 179 Tryz.f179:=fN Tryz.func179
theorem F180:fT 180 Tryz.f180:=fN Tryz.func180
theorem F181:fT 181 Tryz.f181:=fN Tryz.func181
theorem F182:fT 182 Tryz.f182:=fN Tryz.func182
theorem F183:fT 183 Tryz.f183:=fN Tryz.func183
theorem F184:fT 184 Tryz.f184:=fN Tryz.func184
theorem F185:fT 185 Tryz.f185:=fN Tryz.func185
theorem F186:fT 186 Tryz.f186:=fN Tryz.func186
theorem F187:fT 187 Tryz.f187:=fN Tryz.func187
theorem F188:fT 188 Tryz.f188:=fN Tryz.func188
theorem F189:fT 189 Tryz.f189:=fN Tryz.func189
theorem F190:fT 190 Tryz.f190:=fN Tryz.func190
theorem F191:fT 191 Tryz.f191:=fN Tryz.func191
theorem F192:fT 192 Tryz.f192:=fN Tryz.func192
theorem F193:fT 193 Tryz.f193:=fN Tryz.func193
theorem F194:fT 194 Tryz.f194:=fN Tryz.func194
theorem F204:fT 204 Tryz.f204:=fN Tryz.func204
theorem F205:fT 205 Tryz.f205:=fN Tryz.func205
theorem F206:fT 206 Tryz.f206:=fN Tryz.func206
theorem F237:fT 237 Tryz.f237:=fN Tryz.func237
theorem F243:fT 243 Tryz.f243:=fN Tryz.func243
theorem F249:fT 249 Tryz.f249:=fN Tryz.func249
theorem F250:fT 250 Tryz.f250:=fN Tryz.func250
theorem F251:fT 251 Tryz.f251:=fN Tryz.func251
theorem F252:fT 252 Tryz.f252:=fN Tryz.func252
theorem F253:fT 253 Tryz.f253:=fN Tryz.func253
theorem F254:fT 254 Tryz.f254:=fN Tryz.func254
theorem F258:fT 258 Tryz.f258:=fN Tryz.func258
theorem F260:fT 260 Tryz.f260:=fN Tryz.func260
theorem F261:fT 261 Tryz.f261:=fN Tryz.func261
theorem F262:fT 262 Tryz.f262:=fN Tryz.func262
theorem F263:fT 263 Tryz.f263:=fN Tryz.func263
theorem F264:fT 264 Tryz.f264:=fN Tryz.func264
theorem F265:fT 265 Tryz.f265:=fN Tryz.func265
theorem F266:fT 266 Tryz.f266:=fN Tryz.func266
theorem F280:fT 280 Tryz.f280:=fN Tryz.func280
theorem F281:fT 281 Tryz.f281:=fN Tryz.func281
theorem F282:fT 282 Tryz.f282:=fN Tryz.func282
theorem F283:fT 283 Tryz.f283:=fN Tryz.func283
theorem F284:fT 284 Tryz.f284:=fN Tryz.func284
theorem F285:fT 285 Tryz.f285:=fN Tryz.func285
theorem F286:fT 286 Tryz.f286:=fN Tryz.func286
theorem F287:fT 287 Tryz.f287:=fN Tryz.func287
theorem F288:fT 288 Tryz.f288:=fN Tryz.func288
theorem F299:fT 299 Tryz.f299:=fN Tryz.func299
theorem F301:fT 301 Tryz.f301:=fN Tryz.func301
theorem F302:fT 302 Tryz.f302:=fN Tryz.func302
theorem F304:fT 304 Tryz.f304:=fN Tryz.func304
theorem F307:fT 307 Tryz.f307:=fN Tryz.func307
theorem F308:fT 308 Tryz.f308:=fN Tryz.func308
theorem F324:fT 324 Tryz.f324:=fN Tryz.func324
theorem F325:fT 325 Tryz.f325:=fN Tryz.func325
theorem F326:fT 326 Tryz.f326:=fN Tryz.func326
theorem F327:fT 327 Tryz.f327:=fN Tryz.func327
theorem F337:fT 337 Tryz.f337:=fN Tryz.func337
theorem F338:fT 338 Tryz.f338:=fN Tryz.func338
theorem F339:fT 339 Tryz.f339:=fN Tryz.func339
theorem F340:fT 340 Tryz.f340:=fN Tryz.func340
theorem F341:fT 341 Tryz.f341:=fN Tryz.func341
theorem F342:fT 342 Tryz.f342:=fN Tryz.func342
theorem F343:fT 343 Tryz.f343:=fN Tryz.func343
theorem F344:fT 344 Tryz.f344:=fN Tryz.func344
theorem F345:fT 345 Tryz.f345:=fN Tryz.func345
theorem F346:fT 346 Tryz.f346:=fN Tryz.func346
theorem F347:fT 347 Tryz.f347:=fN Tryz.func347
theorem F348:fT 348 Tryz.f348:=fN Tryz.func348
theorem F349:fT 349 Tryz.f349:=fN Tryz.func349
theorem F350:fT 350 Tryz.f350:=fN Tryz.func350
theorem F365:fT 365 Tryz.f365:=fN Tryz.func365
theorem F366:fT 366 Tryz.f366:=fN Tryz.func366
theorem F370:fT 370 Tryz.f370:=fN Tryz.func370
theorem F371:fT 371 Tryz.f371:=fN Tryz.func371
theorem F382:fT 382 Tryz.f382:=fN Tryz.func382
theorem F383:fT 383 Tryz.f383:=fN Tryz.func383
theorem F384:fT 384 Tryz.f384:=fN Tryz.func384
theorem F385:fT 385 Tryz.f385:=fN Tryz.func385
theorem F386:fT 386 Tryz.f386:=fN Tryz.func386
theorem F387:fT 387 Tryz.f387:=fN Tryz.func387
theorem F388:fT 388 Tryz.f388:=fN Tryz.func388
theorem F404:fT 404 Tryz.f404:=fN Tryz.func404
theorem F405:fT 405 Tryz.f405:=fN Tryz.func405
theorem F406:fT 406 Tryz.f406:=fN Tryz.func406
theorem F407:fT 407 Tryz.f407:=fN Tryz.func407
theorem F408:fT 408 Tryz.f408:=fN Tryz.func408
theorem F409:fT 409 Tryz.f409:=fN Tryz.func409
theorem F410:fT 410 Tryz.f410:=fN Tryz.func410
theorem F411:fT 411 Tryz.f411:=fN Tryz.func411
theorem F412:fT 412 Tryz.f412:=fN Tryz.func412
theorem F413:fT 413 Tryz.f413:=fN Tryz.func413
theorem F414:fT 414 Tryz.f414:=fN Tryz.func414
theorem F415:fT 415 Tryz.f415:=fN Tryz.func415
theorem F428:fT 428 Tryz.f428:=fN Tryz.func428
theorem F439:fT 439 Tryz.f439:=fN Tryz.func439
theorem F440:fT 440 Tryz.f440:=fN Tryz.func440
theorem F441:fT 441 Tryz.f441:=fN Tryz.func441
theorem F442:fT 442 Tryz.f442:=fN Tryz.func442
theorem F445:fT 445 Tryz.f445:=fN Tryz.func445
theorem F446:fT 446 Tryz.f446:=fN Tryz.func446
theorem F448:fT 448 Tryz.f448:=fN Tryz.func448
theorem rg {F:Fr} {n:Nat} {B:Exit→Act→World→Prop} {bn:List Nat} {hbn:∀ k,F.k0 k≠.new→k∈bn} {k:List KI} {s:SS} (h:Iy ⟨Tryz.prog,Γ.toTy,F,n,B,bn,hbn⟩ Γ 400 k s):G ⟨Tryz.prog,Γ.toTy,F,n,B,bn,hbn⟩ k s:=rG Γ hm h
theorem rd {F:Fr} {n:Nat} {B:Exit→Act→World→Prop} {bn:List Nat} {hbn:∀ k,F.k0 k≠.new→k∈bn} {k:List KI} {s:SS} {all:Array Oper} {done:List Stp} {rest:List Oper} (hs:all.toList=done.map (·.o)++rest) (h:O5 ⟨Tryz.prog,Γ.toTy,F,n,B,bn,hbn⟩ Γ 400 k all done rest s):DR ⟨Tryz.prog,Γ.toTy,F,n,B,bn,hbn⟩ k all done rest s:=rD Γ hm hs h
structure Bq (Q:Prop):Prop where out:Q
theorem oO {P Q:Prop} (h:Q) (e:Bq Q→P:=by intro hb;refine rg ?_;(conv=>whnf);exact hb.out):P:=e ⟨h⟩
theorem oF {P Q:Prop} (h:Q) (e:Bq Q→P:=by intro hb;refine rg ?_;(conv=>whnf);refine aF ?_;refine rg ?_;(conv=>whnf);exact hb.out):P:=e ⟨h⟩
theorem oT {P Q:Prop} (h:Q) (e:Bq Q→P:=by intro hb;refine rg ?_;(conv=>whnf);refine aT ?_;refine rg ?_;(conv=>whnf);exact hb.out):P:=e ⟨h⟩
theorem bF {P Q:Prop} (h:Q) (e:Bq Q→P:=by intro hb;refine aF ?_;refine rg ?_;(conv=>whnf);exact hb.out):P:=e ⟨h⟩
theorem bT {P Q:Prop} (h:Q) (e:Bq Q→P:=by intro hb;refine aT ?_;refine rg ?_;(conv=>whnf);exact hb.out):P:=e ⟨h⟩
theorem oD {P Q:Prop} (h:Q) (e:Bq Q→P:=by intro hb;refine rd z_ ?_;(conv=>whnf);exact hb.out):P:=e ⟨h⟩
theorem dN {P:Prop} (h:P:=by
 apply At
 ·exact E
 ·(repeat (first | exact ResVs.nil | (apply ResVs.cons;(first | exact .tmp | exact .cell rfl rfl rfl rfl))))
 ·exact E
 ·exact E):P:=h
theorem iL {a:Int} {K:Prop} (h:K) (e:I64 a:=by unfold I64;omega):I64 a∧K:=⟨e,h⟩
theorem iW {a:Int} {K Q:Prop} (h:Q) (e:I64 a:=by unfold I64;omega) (e2:Bq Q→K:=by intro hb;(conv=>whnf);exact hb.out):I64 a∧K:=⟨e,e2 ⟨h⟩⟩
theorem kW {α:Sort _} {a b:α} {K Q:Prop} (h:Q) (e:a=b:=by kernel_rfl) (e2:Bq Q→K:=by intro hb;(conv=>whnf);exact hb.out):a=b∧K:=⟨e,e2 ⟨h⟩⟩
theorem c0 {C:Cx} {k:List KI} {s:SS} {all:Array Oper} {o:Oper} {rest:List Oper} {f:FuncId} {fn:Func} {c:Code} {xs:List Operand} {ts:Array TypeId} {A:List SV} {R:SV} (hs:Sy.Spec C.P f A [] R []) (hf:Fun C.P f fn c) (hg:G C (.ops all rest::k) (s.upd o.dst ⟨R,[],[]⟩)) (h:o.op=.call ⟨.value (.func f),xs.toArray,ts⟩:=by exact rfl)
  (hA:A=xs.map (ev s):=by exact rfl) (hok:(Bn [] A && R.inn [])=true:=by exact rfl) (hd:K4 C.n o=true:=by exact rfl) (hw:C1 C.n all o s=some true:=by exact rfl):G C (.ops all (o::rest)::k) s:=I9 hs hf h hA hok hd hw hg
theorem cD {C:Cx} {k:List KI} {s:SS} {all:Array Oper} {done:List Stp} {o:Oper} {rest:List Oper} {f:FuncId} {fn:Func} {c:Code} {xs:List Operand} {ts:Array TypeId} {A:List SV} {R:SV} (hs:Sy.Spec C.P f A [] R []) (hf:Fun C.P f fn c) (hg:DR C k all (done++[⟨done.length,o,⟨R,[],[]⟩,true⟩]) rest (s.upd o.dst ⟨R,[],[]⟩)) (h:o.op=.call ⟨.value (.func f),xs.toArray,ts⟩:=by exact rfl)
  (hA:A=xs.map (ev s):=by exact rfl) (hok:(Bn [] A && R.inn [])=true:=by exact rfl) (hi:all[done.length]? = some o:=by kernel_rfl) (hw:C1 C.n all o s=some true:=by exact rfl):DR C k all done (o::rest) s:=Ahw hs hf h hA hok hi hw hg
theorem qA {p q:Prop} [Decidable p] (h:decide p=true) (e:p→q:=by intro _h;omega):q:=e (of_decide_eq_true h)
theorem qB {p q:Prop} [Decidable p] (h:decide p=false) (e:¬ p→q:=by intro _h;omega):q:=e (of_decide_eq_false h)
end Go.Sy.YtjenpnjajjplkaaGreatDoor
namespace Go.Sy.YtjenpnjajjplkaaGreatDoor
open Go.Proofs
structure Device where
 (row prio:Int) (name:ByteArray) (mac vtep:Int)
structure Port where
 (row dev native cost link:Int) (name:ByteArray) (tagged:List Int)
structure Link where
 (row a b:Int)
structure Domain where
 (dev vlan vni irb row:Int) (peers:List Int)
structure Static where
 (row domain port mac:Int)
structure Flood where
 (row dev vni:Int) (addrs:List Int)
structure Vrf where
 (row dev:Int) (name:ByteArray) (imports exports:List Int)
structure Irb where
 (row domain vrf addr bits:Int)
structure Net where
 (devices:List Device) (ports:List Port) (links:List Link) (domains:List Domain) (statics:List Static) (floods:List Flood) (vrfs:List Vrf) (irbs:List Irb)
def Ap (d:Device):SV:=.agg [Aa d.row,Aa d.prio,Ak d.name,Ig d.mac,A5 d.vtep]
def As (p:Port):SV:=.agg [Aa p.row,Aa p.dev,Aa p.native,Aa p.cost,Aa p.link,Ak p.name,.sl 1 Aa p.tagged]
def Bg (l:Link):SV:=.agg [Aa l.row,Aa l.a,Aa l.b]
def Af (d:Domain):SV:=.agg [Aa d.dev,Aa d.vlan,Aa d.vni,Aa d.irb,Aa d.row,.sl 1 Aa d.peers]
def Av (s:Static):SV:=.agg [Aa s.row,Aa s.domain,Aa s.port,Ig s.mac]
def Ax (f:Flood):SV:=.agg [Aa f.row,Aa f.dev,Aa f.vni,.sl 1 A5 f.addrs]
def Bh (v:Vrf):SV:=.agg [Aa v.row,Aa v.dev,Ak v.name,.sl 1 Aa v.imports,.sl 1 Aa v.exports]
def Bf (i:Irb):SV:=.agg [Aa i.row,Aa i.domain,Aa i.vrf,A5 i.addr,Aa i.bits]
def B1 (n:Net):List SV:=[.sl 5 Ap n.devices,.sl 7 As n.ports,.sl 3 Bg n.links,.sl 6 Af n.domains,.sl 4 Av n.statics,.sl 4 Ax n.floods,.sl 5 Bh n.vrfs,.sl 5 Bf n.irbs]
def Ae (n:Net):SV:=.agg [.sl 5 Ap n.devices,.sl 7 As n.ports,.sl 3 Bg n.links,.sl 6 Af n.domains,.sl 4 Av n.statics,.sl 4 Ax n.floods,.sl 5 Bh n.vrfs,.sl 5 Bf n.irbs]
instance:Inhabited Device:=⟨⟨0,0,.empty,0,0⟩⟩
instance:Inhabited Port:=⟨⟨0,0,0,0,0,.empty,[]⟩⟩
instance:Inhabited Link:=⟨⟨0,0,0⟩⟩
instance:Inhabited Domain:=⟨⟨0,0,0,0,0,[]⟩⟩
instance:Inhabited Static:=⟨⟨0,0,0,0⟩⟩
instance:Inhabited Flood:=⟨⟨0,0,0,[]⟩⟩
instance:Inhabited Vrf:=⟨⟨0,0,.empty,[],[]⟩⟩
instance:Inhabited Irb:=⟨⟨0,0,0,0,0⟩⟩
def Ar (i:Int) (n:Nat):Bool:=decide (0≤i) && decide (i<n)
def inB (l:List Int) (x:Int):Bool:=l.any (· == x)
def nth {α:Type} [Inhabited α] (l:List α) (i:Int):α:=(l[i.toNat]?).getD default
theorem Ad {α:Type} [Inhabited α] {l:List α} {i:Int} (h:i.toNat<l.length):nth l i=l[i.toNat]:=by
 simp[nth,h]
def Bd {α:Type} (p:α→Bool) (l:List α):Int:=match l.findIdx? p with | some i=>(i:Int) | none=>-1
theorem B8 {α:Type} {p:α→Bool} {l:List α} {j:Nat} (h:j<l.length) (h1:∀ i (hi:i<l.length),i<j→p l[i]=false) (h2:p l[j]=true):Bd p l=j:=by
 have:l.findIdx? p=some j:=by
  rw[List.findIdx?_eq_some_iff_getElem]
  exact⟨h,h2,fun i hi=>by simp[h1 i q_ hi]⟩
 simp[Bd,this]
theorem C7 {α:Type} {p:α→Bool} {l:List α} (h1:∀ i (hi:i<l.length),p l[i]=false):Bd p l=-1:=by
 have:l.findIdx? p=none:=by
  rw[List.findIdx?_eq_none_iff]
  intro x hx
  obtain ⟨i,hi,rfl⟩:=List.mem_iff_getElem.1 hx
  exact h1 i hi
 simp[Bd,this]
theorem Ot {α:Type} (p:α→Bool) (l:List α):Bd p l<l.length:=by
 unfold Bd
 split
 ·rename_i i h
  rw[List.findIdx?_eq_some_iff_getElem]at h
  obtain ⟨h,_⟩:=h
  omega
 ·omega
theorem Ai7 {α:Type} (p:α→Bool) (l:List α):-1≤Bd p l:=by
 unfold Bd
 split<;>omega
theorem Ia {α:Type} (p:α→Bool) (l:List α):decide (0≤Bd p l)=l.any p:=by
 unfold Bd
 split
 ·rename_i i h
  rw[List.findIdx?_eq_some_iff_getElem]at h
  obtain ⟨h,h2,_⟩:=h
  have:l.any p=true:=List.any_eq_true.2 ⟨_,List.getElem_mem h,h2⟩
  rw[this]
  simp
 ·rename_i h
  rw[List.findIdx?_eq_none_iff]at h
  have:l.any p=false:=by
   rw[List.any_eq_false]
   intro x hx
   simp[h x hx]
  rw[this]
  simp
def Do {α:Type} (p:Nat→α→Bool) (l:List α):Bool:=l.zipIdx.all fun q=>p q.2 q.1
theorem allB_iff {α:Type} {p:Nat→α→Bool} {l:List α}:Do p l=true↔∀ i (h:i<l.length),p i l[i]=true:=by
 simp only[Do,List.all_eq_true]
 constructor
 ·intro h i hi
  exact h (l[i],i) (by rw[List.mk_mem_zipIdx_iff_getElem?];simp[hi])
 ·rintro h ⟨x,i⟩ hx
  rw[List.mk_mem_zipIdx_iff_getElem?]at hx
  obtain ⟨hi,rfl⟩:=List.getElem?_eq_some_iff.1 hx
  exact h i hi
theorem Afl {α:Type} {p:Nat→α→Bool} {l:List α} (h:∀ i (h:i<l.length),p i l[i]=true):Do p l=true:=allB_iff.2 h
theorem Br {α:Type} {p:Nat→α→Bool} {l:List α} {i:Nat} (h:i<l.length) (h1:p i l[i]=false):Do p l=false:=by
 cases hh:Do p l with
 | false=>rfl
 | true=>have:=allB_iff.1 hh i h;rw[h1]at this;cases this
def Dp {α:Type} (p:Nat→α→Bool) (l:List α) (j:Nat):Prop:=∀ i (h:i<l.length),i<j→p i l[i]=true
theorem A7 {α:Type} (p:Nat→α→Bool) (l:List α):Dp p l 0:=fun i h hj=>absurd hj q_
theorem A6 {α:Type} {p:Nat→α→Bool} {l:List α} {j:Nat} (hI:Dp p l j) (hj:j<l.length) (h:p j l[j]=true):Dp p l (j+1):=by
 intro i hi hij
 rcases Nat.lt_or_ge i j with h1 | h1
 ·exact hI i hi h1
 ·have:i=j:=by omega
  subst this
  exact h
theorem C2 {α:Type} {p:Nat→α→Bool} {l:List α} {j:Nat} (hI:Dp p l j) (hj:l.length≤j):Do p l=true:=Afl fun i hi=>hI i hi q_
def Ag {α:Type} (l:List α):Prop:=l.length<2147483648
end Go.Sy.YtjenpnjajjplkaaGreatDoor
namespace Go.Sy.YtjenpnjajjplkaaGreatDoor
open Go.Proofs
attribute [local irreducible] Go.Sy.G Go.Sy.DR
set_option maxRecDepth 20000
set_option maxHeartbeats 4000000
theorem Du {α:Type} (sz:Nat) (e:α→SV) (l:List α) (i:Int):Sy.Spec Tryz.prog 81 [.sl sz e l,Aa i] [] (Ab (Ar i l.length)) []:=cT F81 Tryz.ntmps81 fun F hF=>by
 conv=>whnf
 (repeat' (first | (refine⟨fun h=>?_,fun h=>?_⟩<;>(repeat (first | simp only[decide_eq_true_eq]at h | simp only[decide_eq_false_iff_not]at h))<;>((refine oO ?_))) | (refine At rfl (.cons .tmp .nil) ?_ rfl)))
 all_goals (refine congrArg Ab ?_)
 all_goals grind [Ar]
theorem Abw {α:Type} (sz:Nat) (e:α→SV) (l:List α) (i:Int):Sy.Spec Tryz.prog 170 [.sl sz e l,Aa i] [] (Ab (Ar i l.length)) []:=cT F170 Tryz.ntmps170 fun F hF=>by
 conv=>whnf
 (repeat' (first | (refine⟨fun h=>?_,fun h=>?_⟩<;>(repeat (first | simp only[decide_eq_true_eq]at h | simp only[decide_eq_false_iff_not]at h))<;>((refine oO ?_))) | (refine At rfl (.cons .tmp .nil) ?_ rfl)))
 all_goals (refine congrArg Ab ?_)
 all_goals grind [Ar]
theorem Zf {α:Type} (sz:Nat) (e:α→SV) (l:List α) (i:Int):Sy.Spec Tryz.prog 176 [.sl sz e l,Aa i] [] (Ab (Ar i l.length)) []:=cT F176 Tryz.ntmps176 fun F hF=>by
 conv=>whnf
 (repeat' (first | (refine⟨fun h=>?_,fun h=>?_⟩<;>(repeat (first | simp only[decide_eq_true_eq]at h | simp only[decide_eq_false_iff_not]at h))<;>((refine oO ?_))) | (refine At rfl (.cons .tmp .nil) ?_ rfl)))
 all_goals (refine congrArg Ab ?_)
 all_goals grind [Ar]
theorem Kj {α:Type} (sz:Nat) (e:α→SV) (l:List α) (i:Int):Sy.Spec Tryz.prog 177 [.sl sz e l,Aa i] [] (Ab (Ar i l.length)) []:=cT F177 Tryz.ntmps177 fun F hF=>by
 conv=>whnf
 (repeat' (first | (refine⟨fun h=>?_,fun h=>?_⟩<;>(repeat (first | simp only[decide_eq_true_eq]at h | simp only[decide_eq_false_iff_not]at h))<;>((refine oO ?_))) | (refine At rfl (.cons .tmp .nil) ?_ rfl)))
 all_goals (refine congrArg Ab ?_)
 all_goals grind [Ar]
theorem Ew {α:Type} (sz:Nat) (e:α→SV) (l:List α) (i:Int):Sy.Spec Tryz.prog 178 [.sl sz e l,Aa i] [] (Ab (Ar i l.length)) []:=cT F178 Tryz.ntmps178 fun F hF=>by
 conv=>whnf
 (repeat' (first | (refine⟨fun h=>?_,fun h=>?_⟩<;>(repeat (first | simp only[decide_eq_true_eq]at h | simp only[decide_eq_false_iff_not]at h))<;>((refine oO ?_))) | (refine At rfl (.cons .tmp .nil) ?_ rfl)))
 all_goals (refine congrArg Ab ?_)
 all_goals grind [Ar]
theorem Abv {α:Type} (sz:Nat) (e:α→SV) (l:List α) (i:Int):Sy.Spec Tryz.prog 181 [.sl sz e l,Aa i] [] (Ab (Ar i l.length)) []:=cT F181 Tryz.ntmps181 fun F hF=>by
 conv=>whnf
 (repeat' (first | (refine⟨fun h=>?_,fun h=>?_⟩<;>(repeat (first | simp only[decide_eq_true_eq]at h | simp only[decide_eq_false_iff_not]at h))<;>((refine oO ?_))) | (refine At rfl (.cons .tmp .nil) ?_ rfl)))
 all_goals (refine congrArg Ab ?_)
 all_goals grind [Ar]
theorem Aha (l:List Int) (x:Int) (hl:Ag l):Sy.Spec Tryz.prog 175 [.sl 1 Aa l,Aa x] [] (Aa (Bd (· == x) l)) []:=cT F175 Tryz.ntmps175 fun F hF=>by
 unfold Ag at hl
 conv=>whnf
 refine Az l.length (fun j=>∀ i (h:i<l.length),i<j→(l[i] == x)=false) (fun j=>[(0,.sl 1 Aa l),(1,Aa x),(7,Aa l.length),(8,Aa j)]) (fun _=>[]) [] (fun i h hj=>absurd hj q_) ⟨⟨E,E,E,E,E,E,E,E,Y⟩,Y,E,E⟩ ?_
 intro j hj hI
 refine oO ?_
 (repeat' (first | (refine⟨fun h=>?_,fun h=>?_⟩<;>(repeat (first | simp only[decide_eq_true_eq]at h | simp only[decide_eq_false_iff_not]at h | simp only[beq_iff_eq]at h | simp only[beq_eq_false_iff_ne]at h))<;>((refine oO ?_))) | (refine At rfl (.cons .tmp .nil) ?_ rfl) | (refine⟨z_,?_⟩;((conv=>whnf))) | (refine⟨by (omega),by (omega),?_⟩;((conv=>whnf))) | (refine⟨by (unfold I64;omega),?_⟩;((conv=>whnf))) | refine Ay [] hI q_ ?_ ⟨⟨rfl,rfl,rfl,rfl,rfl,rfl,rfl,rfl,trivial⟩,trivial,rfl,rfl⟩))
 all_goals try (refine congrArg Aa ?_)
 ·exact B8 q_ hI (by simpa using h.symm)
 ·intro i hi hij
  rcases Nat.lt_or_ge i j with h1 | h1
  ·exact hI i hi h1
  ·have:i=j:=by omega
   subst this
   simpa using Ne.symm h
 ·exact C7 (fun i hi=>hI i hi q_)
theorem Dk (l:List Int) (x:Int) (hl:Ag l):Sy.Spec Tryz.prog 100 [.sl 1 Aa l,Aa x] [] (Ab (inB l x)) []:=cT F100 Tryz.ntmps100 fun F hF=>by
 conv=>whnf
 (repeat' (first | (refine At rfl (.cons .tmp .nil) ?_ rfl) | (refine c0 (Aha _ _ hl) F175 ?_;((refine oO ?_)))))
 exact congrArg Ab (Ia _ _).symm
def B5 (p:Port) (v:Int):Bool:=v != 0 && (v == p.native || inB p.tagged v)
theorem Ts (p:Port) (v:Int) (hl:Ag p.tagged):Sy.Spec Tryz.prog 179 [As p,Aa v] [] (Ab (B5 p v)) []:=cT F179 Tryz.ntmps179 fun F hF=>by
 conv=>whnf
 (repeat' (first | (refine⟨fun h=>?_,fun h=>?_⟩<;>(repeat (first | simp only[beq_iff_eq]at h | simp only[beq_eq_false_iff_ne]at h | simp only[bne_iff_ne]at h | simp only[bne_eq_false_iff_eq]at h))<;>((refine oO ?_))) | (refine At rfl (.cons .tmp .nil) ?_ rfl) | (refine c0 (Dk _ _ hl) F100 ?_;((refine oO ?_)))))
 all_goals (refine congrArg Ab ?_)
 all_goals grind [B5]
def Ua (l:List Int) (least most:Int) (i:Nat) (x:Int):Bool:=decide (least≤x) && decide (x≤most) && (i == 0 || decide (nth l ((i:Int)-1)<x))
def Hm (l:List Int) (least most:Int):Bool:=decide (0<l.length) && decide (l.length≤16) && Do (Ua l least most) l
theorem Uh (l:List Int) (least most:Int) (hl:Ag l):Sy.Spec Tryz.prog 180 [.sl 1 Aa l,Aa least,Aa most] [] (Ab (Hm l least most)) []:=cT F180 Tryz.ntmps180 fun F hF=>by
 unfold Ag at hl
 conv=>whnf
 refine Az l.length (fun j=>Dp (Ua l least most) l j) (fun j=>[(0,.sl 1 Aa l),(1,Aa least),(2,Aa most),(9,.sl 1 Aa l),(10,Aa l.length),(11,Aa j)]) (fun _=>[]) [] (A7 _ _) ⟨⟨E,E,E,E,E,E,E,E,E,E,E,E,Y⟩,Y,E,E⟩ ?_
 intro j hj hI
 refine oO ?_
 (repeat' (first | (refine⟨fun h=>?_,fun h=>?_⟩<;>(repeat (first | simp only[decide_eq_true_eq]at h | simp only[decide_eq_false_iff_not]at h))<;>((refine oO ?_);repeat((first|refine aF ?_|refine aT ?_);(refine oO ?_)))) | (refine At rfl (.cons .tmp .nil) ?_ rfl) | (refine⟨z_,?_⟩;((conv=>whnf))) | (refine⟨by (first | (unfold I64;omega) | omega),by (omega),?_⟩;((conv=>whnf))) | (refine⟨by (unfold I64;omega),?_⟩;((conv=>whnf))) | refine Ay [] hI q_ ?_ ⟨⟨rfl,rfl,rfl,rfl,rfl,rfl,rfl,rfl,rfl,rfl,rfl,rfl,trivial⟩,trivial,rfl,rfl⟩))
 all_goals try (refine congrArg Ab ?_)
 all_goals try simp only[Int.toNat_natCast,Int.pred_toNat]at *
 ·rw[Hm,Br (i:=j) q_ (by simp[Ua];omega)];simp
 ·rw[Hm,Br (i:=j) q_ (by simp[Ua];omega)];simp
 ·rw[Hm,Br (i:=j) q_ (by simp only[Ua,Ad (show ((j:Int)-1).toNat<l.length by omega),Int.pred_toNat,Int.toNat_natCast];simp;omega)];simp
 ·exact A6 hI q_ (by simp only[Ua,Ad (show ((j:Int)-1).toNat<l.length by omega),Int.pred_toNat,Int.toNat_natCast];simp;omega)
 ·exact A6 hI q_ (by simp[Ua];omega)
 ·rw[Hm,C2 hI q_,Bool.eq_iff_iff];simp;omega
 ·rw[Hm];simp;omega
theorem Xi (l:List Int) (most:Int) (hl:Ag l):Sy.Spec Tryz.prog 84 [.sl 1 Aa l,Aa most] [] (Ab (decide (l.length=0) || Hm l 1 most)) []:=cT F84 Tryz.ntmps84 fun F hF=>by
 conv=>whnf
 (repeat' (first | (refine⟨fun h=>?_,fun h=>?_⟩<;>(repeat (first | simp only[beq_iff_eq]at h | simp only[beq_eq_false_iff_ne]at h))<;>((refine oO ?_))) | (refine At rfl (.cons .tmp .nil) ?_ rfl) | (refine c0 (Uh l 1 most hl) F180 ?_;((refine oO ?_)))))
 all_goals (refine congrArg Ab ?_)
 all_goals grind
theorem Kv {K:List Nat}:∀ (a b:List SV),Bn K (a++b)=(Bn K a && Bn K b)
 | [],b=>by simp[Bn]
 | x::a,b=>by simp[Bn,Kv a b,Bool.and_assoc]
theorem Cp {f:FuncId} {first cap xs:List SV} (hc:(SV.clo (.func f) first cap).inn []=true) (hx:Bn [] xs=true):Bn [] (first++xs++cap)=true:=by
 simp only[SV.inn,Bool.and_eq_true]at hc
 rw[Kv,Kv,hc.1,hc.2,hx]
 rfl
theorem Da (l:List Domain) (p:Domain→Bool) (f:FuncId) (first cap:List SV) (hc:(SV.clo (.func f) first cap).inn []=true) (hf:∀ x∈l,Eu Tryz.prog f (first++[Af x]++cap) (Ab (p x))) (hl:Ag l) :
  Sy.Spec Tryz.prog 163 [.sl 6 Af l,.clo (.func f) first cap] [] (Aa (Bd p l)) []:=cT F163 Tryz.ntmps163 fun F hF=>by
 unfold Ag at hl
 have hin:∀ x:Domain,Bn [] (first++[Af x]++cap)=true:=fun x=>Cp hc rfl
 conv=>whnf
 refine Az l.length (fun j=>Dp (fun _ x=>!(p x)) l j) (fun j=>[(0,.sl 6 Af l),(1,.clo (.func f) first cap),(7,Aa l.length),(8,Aa j)]) (fun _=>[]) [] (A7 _ _) ⟨⟨E,E,Ba _,hc,E,E,E,E,Y⟩,Y,E,E⟩ ?_
 intro j hj hI
 refine oO ?_
 refine⟨fun h=>?_,fun h=>?_⟩
 ·have h:=of_decide_eq_true h
  have hj2:j<l.length:=by omega
  refine oO ?_
  refine⟨E,by omega,by omega,?_⟩
  conv=>whnf
  refine Hb (hf l[j] (List.getElem_mem hj2)) E E E (by simp only[hin];rfl) E E ?_
  refine oO ?_
  refine⟨fun h2=>?_,fun h2=>?_⟩
  ·refine oO ?_
   refine At E (.cons .tmp .nil) (congrArg Aa ?_) E
   exact B8 hj2 (fun i hi hij=>by simpa using hI i hi hij) h2
  ·refine oO ?_
   refine iW ?_
   exact Ay [] hI hj2 (A6 hI hj2 (by simp[h2])) ⟨⟨E,E,Ba _,hc,E,E,E,E,Y⟩,Y,E,E⟩
 ·have h:=of_decide_eq_false h
  refine oO ?_
  refine At E (.cons .tmp .nil) (congrArg Aa ?_) E
  exact C7 (fun i hi=>by simpa using hI i hi q_)
theorem J1 (l:List Port) (p:Port→Bool) (f:FuncId) (first cap:List SV) (hc:(SV.clo (.func f) first cap).inn []=true) (hf:∀ x∈l,Eu Tryz.prog f (first++[As x]++cap) (Ab (p x))) (hl:Ag l) :
  Sy.Spec Tryz.prog 121 [.sl 7 As l,.clo (.func f) first cap] [] (Aa (Bd p l)) []:=cT F121 Tryz.ntmps121 fun F hF=>by
 unfold Ag at hl
 have hin:∀ x:Port,Bn [] (first++[As x]++cap)=true:=fun x=>Cp hc rfl
 conv=>whnf
 refine Az l.length (fun j=>Dp (fun _ x=>!(p x)) l j) (fun j=>[(0,.sl 7 As l),(1,.clo (.func f) first cap),(7,Aa l.length),(8,Aa j)]) (fun _=>[]) [] (A7 _ _) ⟨⟨E,E,Ba _,hc,E,E,E,E,Y⟩,Y,E,E⟩ ?_
 intro j hj hI
 refine oO ?_
 refine⟨fun h=>?_,fun h=>?_⟩
 ·have h:=of_decide_eq_true h
  have hj2:j<l.length:=by omega
  refine oO ?_
  refine⟨E,by omega,by omega,?_⟩
  conv=>whnf
  refine Hb (hf l[j] (List.getElem_mem hj2)) E E E (by simp only[hin];rfl) E E ?_
  refine oO ?_
  refine⟨fun h2=>?_,fun h2=>?_⟩
  ·refine oO ?_
   refine At E (.cons .tmp .nil) (congrArg Aa ?_) E
   exact B8 hj2 (fun i hi hij=>by simpa using hI i hi hij) h2
  ·refine oO ?_
   refine iW ?_
   exact Ay [] hI hj2 (A6 hI hj2 (by simp[h2])) ⟨⟨E,E,Ba _,hc,E,E,E,E,Y⟩,Y,E,E⟩
 ·have h:=of_decide_eq_false h
  refine oO ?_
  refine At E (.cons .tmp .nil) (congrArg Aa ?_) E
  exact C7 (fun i hi=>by simpa using hI i hi q_)
theorem Afj (l:List Port) (p:Nat→Port→Bool) (f:FuncId) (first cap:List SV) (hc:(SV.clo (.func f) first cap).inn []=true) (hf:∀ i (h:i<l.length),Eu Tryz.prog f (first++[Aa i,As l[i]]++cap) (Ab (p i l[i]))) (hl:Ag l) :
  Sy.Spec Tryz.prog 73 [.sl 7 As l,.clo (.func f) first cap] [] (Ab (Do p l)) []:=cT F73 Tryz.ntmps73 fun F hF=>by
 unfold Ag at hl
 have hin:∀ (i:Nat) (x:Port),Bn [] (first++[Aa i,As x]++cap)=true:=fun i x=>Cp hc rfl
 conv=>whnf
 refine Az l.length (fun j=>Dp p l j) (fun j=>[(0,.sl 7 As l),(1,.clo (.func f) first cap),(7,.sl 7 As l),(8,Aa l.length),(9,Aa j)]) (fun _=>[]) [] (A7 _ _) ⟨⟨E,E,Ba _,hc,E,E,E,E,E,E,Y⟩,Y,E,E⟩ ?_
 intro j hj hI
 refine oO ?_
 refine⟨fun h=>?_,fun h=>?_⟩
 ·have h:=of_decide_eq_true h
  have hj2:j<l.length:=by omega
  refine oO ?_
  refine⟨E,by omega,by omega,?_⟩
  conv=>whnf
  refine Hb (hf j hj2) E E E (by simp only[hin];rfl) E E ?_
  refine oO ?_
  refine⟨fun h2=>?_,fun h2=>?_⟩
  ·refine oO ?_
   refine At E (.cons .tmp .nil) (congrArg Ab ?_) E
   exact Br hj2 (by simpa using h2)
  ·refine oO ?_
   refine iW ?_
   exact Ay [] hI hj2 (A6 hI hj2 (by simpa using h2)) ⟨⟨E,E,Ba _,hc,E,E,E,E,E,E,Y⟩,Y,E,E⟩
 ·have h:=of_decide_eq_false h
  refine oO ?_
  refine At E (.cons .tmp .nil) (congrArg Ab ?_) E
  exact C2 hI q_
theorem Afk (l:List Link) (p:Nat→Link→Bool) (f:FuncId) (first cap:List SV) (hc:(SV.clo (.func f) first cap).inn []=true) (hf:∀ i (h:i<l.length),Eu Tryz.prog f (first++[Aa i,Bg l[i]]++cap) (Ab (p i l[i]))) (hl:Ag l) :
  Sy.Spec Tryz.prog 75 [.sl 3 Bg l,.clo (.func f) first cap] [] (Ab (Do p l)) []:=cT F75 Tryz.ntmps75 fun F hF=>by
 unfold Ag at hl
 have hin:∀ (i:Nat) (x:Link),Bn [] (first++[Aa i,Bg x]++cap)=true:=fun i x=>Cp hc rfl
 conv=>whnf
 refine Az l.length (fun j=>Dp p l j) (fun j=>[(0,.sl 3 Bg l),(1,.clo (.func f) first cap),(7,.sl 3 Bg l),(8,Aa l.length),(9,Aa j)]) (fun _=>[]) [] (A7 _ _) ⟨⟨E,E,Ba _,hc,E,E,E,E,E,E,Y⟩,Y,E,E⟩ ?_
 intro j hj hI
 refine oO ?_
 refine⟨fun h=>?_,fun h=>?_⟩
 ·have h:=of_decide_eq_true h
  have hj2:j<l.length:=by omega
  refine oO ?_
  refine⟨E,by omega,by omega,?_⟩
  conv=>whnf
  refine Hb (hf j hj2) E E E (by simp only[hin];rfl) E E ?_
  refine oO ?_
  refine⟨fun h2=>?_,fun h2=>?_⟩
  ·refine oO ?_
   refine At E (.cons .tmp .nil) (congrArg Ab ?_) E
   exact Br hj2 (by simpa using h2)
  ·refine oO ?_
   refine iW ?_
   exact Ay [] hI hj2 (A6 hI hj2 (by simpa using h2)) ⟨⟨E,E,Ba _,hc,E,E,E,E,E,E,Y⟩,Y,E,E⟩
 ·have h:=of_decide_eq_false h
  refine oO ?_
  refine At E (.cons .tmp .nil) (congrArg Ab ?_) E
  exact C2 hI q_
theorem Tc (l:List Domain) (p:Nat→Domain→Bool) (f:FuncId) (first cap:List SV) (hc:(SV.clo (.func f) first cap).inn []=true) (hf:∀ i (h:i<l.length),Eu Tryz.prog f (first++[Aa i,Af l[i]]++cap) (Ab (p i l[i]))) (hl:Ag l) :
  Sy.Spec Tryz.prog 70 [.sl 6 Af l,.clo (.func f) first cap] [] (Ab (Do p l)) []:=cT F70 Tryz.ntmps70 fun F hF=>by
 unfold Ag at hl
 have hin:∀ (i:Nat) (x:Domain),Bn [] (first++[Aa i,Af x]++cap)=true:=fun i x=>Cp hc rfl
 conv=>whnf
 refine Az l.length (fun j=>Dp p l j) (fun j=>[(0,.sl 6 Af l),(1,.clo (.func f) first cap),(7,.sl 6 Af l),(8,Aa l.length),(9,Aa j)]) (fun _=>[]) [] (A7 _ _) ⟨⟨E,E,Ba _,hc,E,E,E,E,E,E,Y⟩,Y,E,E⟩ ?_
 intro j hj hI
 refine oO ?_
 refine⟨fun h=>?_,fun h=>?_⟩
 ·have h:=of_decide_eq_true h
  have hj2:j<l.length:=by omega
  refine oO ?_
  refine⟨E,by omega,by omega,?_⟩
  conv=>whnf
  refine Hb (hf j hj2) E E E (by simp only[hin];rfl) E E ?_
  refine oO ?_
  refine⟨fun h2=>?_,fun h2=>?_⟩
  ·refine oO ?_
   refine At E (.cons .tmp .nil) (congrArg Ab ?_) E
   exact Br hj2 (by simpa using h2)
  ·refine oO ?_
   refine iW ?_
   exact Ay [] hI hj2 (A6 hI hj2 (by simpa using h2)) ⟨⟨E,E,Ba _,hc,E,E,E,E,E,E,Y⟩,Y,E,E⟩
 ·have h:=of_decide_eq_false h
  refine oO ?_
  refine At E (.cons .tmp .nil) (congrArg Ab ?_) E
  exact C2 hI q_
theorem Aav (l:List Static) (p:Nat→Static→Bool) (f:FuncId) (first cap:List SV) (hc:(SV.clo (.func f) first cap).inn []=true) (hf:∀ i (h:i<l.length),Eu Tryz.prog f (first++[Aa i,Av l[i]]++cap) (Ab (p i l[i]))) (hl:Ag l) :
  Sy.Spec Tryz.prog 77 [.sl 4 Av l,.clo (.func f) first cap] [] (Ab (Do p l)) []:=cT F77 Tryz.ntmps77 fun F hF=>by
 unfold Ag at hl
 have hin:∀ (i:Nat) (x:Static),Bn [] (first++[Aa i,Av x]++cap)=true:=fun i x=>Cp hc rfl
 conv=>whnf
 refine Az l.length (fun j=>Dp p l j) (fun j=>[(0,.sl 4 Av l),(1,.clo (.func f) first cap),(7,.sl 4 Av l),(8,Aa l.length),(9,Aa j)]) (fun _=>[]) [] (A7 _ _) ⟨⟨E,E,Ba _,hc,E,E,E,E,E,E,Y⟩,Y,E,E⟩ ?_
 intro j hj hI
 refine oO ?_
 refine⟨fun h=>?_,fun h=>?_⟩
 ·have h:=of_decide_eq_true h
  have hj2:j<l.length:=by omega
  refine oO ?_
  refine⟨E,by omega,by omega,?_⟩
  conv=>whnf
  refine Hb (hf j hj2) E E E (by simp only[hin];rfl) E E ?_
  refine oO ?_
  refine⟨fun h2=>?_,fun h2=>?_⟩
  ·refine oO ?_
   refine At E (.cons .tmp .nil) (congrArg Ab ?_) E
   exact Br hj2 (by simpa using h2)
  ·refine oO ?_
   refine iW ?_
   exact Ay [] hI hj2 (A6 hI hj2 (by simpa using h2)) ⟨⟨E,E,Ba _,hc,E,E,E,E,E,E,Y⟩,Y,E,E⟩
 ·have h:=of_decide_eq_false h
  refine oO ?_
  refine At E (.cons .tmp .nil) (congrArg Ab ?_) E
  exact C2 hI q_
theorem Acs (l:List Flood) (p:Nat→Flood→Bool) (f:FuncId) (first cap:List SV) (hc:(SV.clo (.func f) first cap).inn []=true) (hf:∀ i (h:i<l.length),Eu Tryz.prog f (first++[Aa i,Ax l[i]]++cap) (Ab (p i l[i]))) (hl:Ag l) :
  Sy.Spec Tryz.prog 79 [.sl 4 Ax l,.clo (.func f) first cap] [] (Ab (Do p l)) []:=cT F79 Tryz.ntmps79 fun F hF=>by
 unfold Ag at hl
 have hin:∀ (i:Nat) (x:Flood),Bn [] (first++[Aa i,Ax x]++cap)=true:=fun i x=>Cp hc rfl
 conv=>whnf
 refine Az l.length (fun j=>Dp p l j) (fun j=>[(0,.sl 4 Ax l),(1,.clo (.func f) first cap),(7,.sl 4 Ax l),(8,Aa l.length),(9,Aa j)]) (fun _=>[]) [] (A7 _ _) ⟨⟨E,E,Ba _,hc,E,E,E,E,E,E,Y⟩,Y,E,E⟩ ?_
 intro j hj hI
 refine oO ?_
 refine⟨fun h=>?_,fun h=>?_⟩
 ·have h:=of_decide_eq_true h
  have hj2:j<l.length:=by omega
  refine oO ?_
  refine⟨E,by omega,by omega,?_⟩
  conv=>whnf
  refine Hb (hf j hj2) E E E (by simp only[hin];rfl) E E ?_
  refine oO ?_
  refine⟨fun h2=>?_,fun h2=>?_⟩
  ·refine oO ?_
   refine At E (.cons .tmp .nil) (congrArg Ab ?_) E
   exact Br hj2 (by simpa using h2)
  ·refine oO ?_
   refine iW ?_
   exact Ay [] hI hj2 (A6 hI hj2 (by simpa using h2)) ⟨⟨E,E,Ba _,hc,E,E,E,E,E,E,Y⟩,Y,E,E⟩
 ·have h:=of_decide_eq_false h
  refine oO ?_
  refine At E (.cons .tmp .nil) (congrArg Ab ?_) E
  exact C2 hI q_
theorem Ah3 (l:List Vrf) (p:Nat→Vrf→Bool) (f:FuncId) (first cap:List SV) (hc:(SV.clo (.func f) first cap).inn []=true) (hf:∀ i (h:i<l.length),Eu Tryz.prog f (first++[Aa i,Bh l[i]]++cap) (Ab (p i l[i]))) (hl:Ag l) :
  Sy.Spec Tryz.prog 82 [.sl 5 Bh l,.clo (.func f) first cap] [] (Ab (Do p l)) []:=cT F82 Tryz.ntmps82 fun F hF=>by
 unfold Ag at hl
 have hin:∀ (i:Nat) (x:Vrf),Bn [] (first++[Aa i,Bh x]++cap)=true:=fun i x=>Cp hc rfl
 conv=>whnf
 refine Az l.length (fun j=>Dp p l j) (fun j=>[(0,.sl 5 Bh l),(1,.clo (.func f) first cap),(7,.sl 5 Bh l),(8,Aa l.length),(9,Aa j)]) (fun _=>[]) [] (A7 _ _) ⟨⟨E,E,Ba _,hc,E,E,E,E,E,E,Y⟩,Y,E,E⟩ ?_
 intro j hj hI
 refine oO ?_
 refine⟨fun h=>?_,fun h=>?_⟩
 ·have h:=of_decide_eq_true h
  have hj2:j<l.length:=by omega
  refine oO ?_
  refine⟨E,by omega,by omega,?_⟩
  conv=>whnf
  refine Hb (hf j hj2) E E E (by simp only[hin];rfl) E E ?_
  refine oO ?_
  refine⟨fun h2=>?_,fun h2=>?_⟩
  ·refine oO ?_
   refine At E (.cons .tmp .nil) (congrArg Ab ?_) E
   exact Br hj2 (by simpa using h2)
  ·refine oO ?_
   refine iW ?_
   exact Ay [] hI hj2 (A6 hI hj2 (by simpa using h2)) ⟨⟨E,E,Ba _,hc,E,E,E,E,E,E,Y⟩,Y,E,E⟩
 ·have h:=of_decide_eq_false h
  refine oO ?_
  refine At E (.cons .tmp .nil) (congrArg Ab ?_) E
  exact C2 hI q_
theorem Ah4 (l:List Irb) (p:Nat→Irb→Bool) (f:FuncId) (first cap:List SV) (hc:(SV.clo (.func f) first cap).inn []=true) (hf:∀ i (h:i<l.length),Eu Tryz.prog f (first++[Aa i,Bf l[i]]++cap) (Ab (p i l[i]))) (hl:Ag l) :
  Sy.Spec Tryz.prog 85 [.sl 5 Bf l,.clo (.func f) first cap] [] (Ab (Do p l)) []:=cT F85 Tryz.ntmps85 fun F hF=>by
 unfold Ag at hl
 have hin:∀ (i:Nat) (x:Irb),Bn [] (first++[Aa i,Bf x]++cap)=true:=fun i x=>Cp hc rfl
 conv=>whnf
 refine Az l.length (fun j=>Dp p l j) (fun j=>[(0,.sl 5 Bf l),(1,.clo (.func f) first cap),(7,.sl 5 Bf l),(8,Aa l.length),(9,Aa j)]) (fun _=>[]) [] (A7 _ _) ⟨⟨E,E,Ba _,hc,E,E,E,E,E,E,Y⟩,Y,E,E⟩ ?_
 intro j hj hI
 refine oO ?_
 refine⟨fun h=>?_,fun h=>?_⟩
 ·have h:=of_decide_eq_true h
  have hj2:j<l.length:=by omega
  refine oO ?_
  refine⟨E,by omega,by omega,?_⟩
  conv=>whnf
  refine Hb (hf j hj2) E E E (by simp only[hin];rfl) E E ?_
  refine oO ?_
  refine⟨fun h2=>?_,fun h2=>?_⟩
  ·refine oO ?_
   refine At E (.cons .tmp .nil) (congrArg Ab ?_) E
   exact Br hj2 (by simpa using h2)
  ·refine oO ?_
   refine iW ?_
   exact Ay [] hI hj2 (A6 hI hj2 (by simpa using h2)) ⟨⟨E,E,Ba _,hc,E,E,E,E,E,E,Y⟩,Y,E,E⟩
 ·have h:=of_decide_eq_false h
  refine oO ?_
  refine At E (.cons .tmp .nil) (congrArg Ab ?_) E
  exact C2 hI q_
theorem Ah2 (l:List Int) (p:Nat→Int→Bool) (f:FuncId) (first cap:List SV) (hc:(SV.clo (.func f) first cap).inn []=true) (hf:∀ i (h:i<l.length),Eu Tryz.prog f (first++[Aa i,Aa l[i]]++cap) (Ab (p i l[i]))) (hl:Ag l) :
  Sy.Spec Tryz.prog 172 [.sl 1 Aa l,.clo (.func f) first cap] [] (Ab (Do p l)) []:=cT F172 Tryz.ntmps172 fun F hF=>by
 unfold Ag at hl
 have hin:∀ (i:Nat) (x:Int),Bn [] (first++[Aa i,Aa x]++cap)=true:=fun i x=>Cp hc rfl
 conv=>whnf
 refine Az l.length (fun j=>Dp p l j) (fun j=>[(0,.sl 1 Aa l),(1,.clo (.func f) first cap),(7,.sl 1 Aa l),(8,Aa l.length),(9,Aa j)]) (fun _=>[]) [] (A7 _ _) ⟨⟨E,E,Ba _,hc,E,E,E,E,E,E,Y⟩,Y,E,E⟩ ?_
 intro j hj hI
 refine oO ?_
 refine⟨fun h=>?_,fun h=>?_⟩
 ·have h:=of_decide_eq_true h
  have hj2:j<l.length:=by omega
  refine oO ?_
  refine⟨E,by omega,by omega,?_⟩
  conv=>whnf
  refine Hb (hf j hj2) E E E (by simp only[hin];rfl) E E ?_
  refine oO ?_
  refine⟨fun h2=>?_,fun h2=>?_⟩
  ·refine oO ?_
   refine At E (.cons .tmp .nil) (congrArg Ab ?_) E
   exact Br hj2 (by simpa using h2)
  ·refine oO ?_
   refine iW ?_
   exact Ay [] hI hj2 (A6 hI hj2 (by simpa using h2)) ⟨⟨E,E,Ba _,hc,E,E,E,E,E,E,Y⟩,Y,E,E⟩
 ·have h:=of_decide_eq_false h
  refine oO ?_
  refine At E (.cons .tmp .nil) (congrArg Ab ?_) E
  exact C2 hI q_
structure Net.Fin (n:Net):Prop where
 devices:Ag n.devices
 ports:Ag n.ports
 links:Ag n.links
 domains:Ag n.domains
 statics:Ag n.statics
 floods:Ag n.floods
 vrfs:Ag n.vrfs
 irbs:Ag n.irbs
 tagged:∀ p∈n.ports,Ag p.tagged
 peers:∀ d∈n.domains,Ag d.peers
 addrs:∀ f∈n.floods,Ag f.addrs
 imports:∀ v∈n.vrfs,Ag v.imports
 exports:∀ v∈n.vrfs,Ag v.exports
def Dn (n:Net) (dev vlan:Int):Int:=Bd (fun d=>d.dev == dev && d.vlan == vlan) n.domains
theorem Ajd (dev vlan:Int) (d:Domain):Sy.Spec Tryz.prog 253 [Af d,.ref 1 (Aa dev) 0,.ref 1 (Aa vlan) 0] [] (Ab (d.dev == dev && d.vlan == vlan)) []:=cT F253 Tryz.ntmps253 fun F hF=>by
 conv=>whnf
 (repeat' (first | (refine⟨fun h=>?_,fun h=>?_⟩<;>(repeat (first | simp only[beq_iff_eq]at h | simp only[beq_eq_false_iff_ne]at h))<;>((refine oO ?_))) | (refine At rfl (.cons .tmp .nil) ?_ rfl)))
 all_goals (refine congrArg Ab ?_)
 all_goals simp_all
theorem Jn (n:Net) (dev vlan:Int) (hl:Ag n.domains):Sy.Spec Tryz.prog 171 [Ae n,Aa dev,Aa vlan] [] (Aa (Dn n dev vlan)) []:=cT F171 Tryz.ntmps171 fun F hF=>by
 conv=>whnf
 refine A1 4 1 (Aa dev) E E E ?_
 refine A1 5 1 (Aa vlan) E E E ?_
 refine c0 (Da n.domains (fun d=>d.dev == dev && d.vlan == vlan) 253 [] [.ref 1 (Aa dev) 0,.ref 1 (Aa vlan) 0] E (fun d _=>⟨⟨_,_,F253⟩,Ajd dev vlan d⟩) hl) F163 ?_
 refine oO ?_
 exact dN
def Ae8 (n:Net):Bool:=decide (n.devices.length≤8) && decide (n.ports.length≤40) && decide (n.links.length≤20) && decide (n.domains.length≤48) && decide (n.statics.length≤64) && decide (n.floods.length≤48) && decide (n.vrfs.length≤16) && decide (n.irbs.length≤48)
theorem fewS (n:Net):Sy.Spec Tryz.prog 69 [Ae n] [] (Ab (Ae8 n)) []:=cT F69 Tryz.ntmps69 fun F hF=>by
 conv=>whnf
 (repeat' (first | (refine⟨fun h=>?_,fun h=>?_⟩<;>(repeat (first | simp only[decide_eq_true_eq]at h | simp only[decide_eq_false_iff_not]at h))<;>((refine oO ?_);repeat((refine aF ?_);(refine oO ?_)))) | (refine At rfl (.cons .tmp .nil) ?_ rfl)))
 all_goals (refine congrArg Ab ?_)
 all_goals (unfold Ae8;rw[Bool.eq_iff_iff];simp;omega)
def K6 (n:Net) (i:Nat) (d:Domain):Bool :=
 Ar d.dev n.devices.length && decide (1≤d.vlan) && decide (d.vlan≤4094) && decide (0≤d.vni) && decide (d.vni≤16777215) && (d.irb == -1 || Ar d.irb n.irbs.length && (nth n.irbs d.irb).domain == i) && Dn n d.dev d.vlan == i
theorem bareS (n:Net) (i:Nat) (d:Domain) (hl:Ag n.domains):Sy.Spec Tryz.prog 71 [Ae n,Aa i,Af d] [] (Ab (K6 n i d)) []:=cT F71 Tryz.ntmps71 fun F hF=>by
 conv=>whnf
 (repeat' (first | (refine⟨fun h=>?_,fun h=>?_⟩<;>(repeat (first | simp only[Ar]at h | simp only[decide_eq_true_eq]at h | simp only[decide_eq_false_iff_not]at h | simp only[beq_iff_eq]at h | simp only[beq_eq_false_iff_ne]at h | simp only[Bool.and_eq_true]at h | simp only[Bool.and_eq_false_iff]at h))<;>((refine oO ?_);repeat((first|refine aF ?_|refine aT ?_);(refine oO ?_)))) | (refine At rfl (.cons .tmp .nil) ?_ rfl) | (refine⟨z_,?_⟩;((conv=>whnf))) | (refine⟨by (omega),by (omega),?_⟩;((conv=>whnf))) | (refine c0 (Du 5 Ap n.devices d.dev) F81 ?_;((refine oO ?_))) | (refine c0 (Abw 5 Bf n.irbs d.irb) F170 ?_;((refine oO ?_))) | (refine c0 (Jn n d.dev d.vlan hl) F171 ?_;((refine oO ?_)))))
 all_goals (refine congrArg Ab ?_)
 all_goals (clear hF;grind [K6,Ar,Ad])
def Ac2 (n:Net) (d:Domain):Bool:=(nth n.devices d.dev).vtep != 0
theorem Ajr (n:Net) (d:Domain) (hd:Ar d.dev n.devices.length=true):Sy.Spec Tryz.prog 254 [Ae n,Af d] [] (Ab (Ac2 n d)) []:=cT F254 Tryz.ntmps254 fun F hF=>by
 simp only[Ar,Bool.and_eq_true,decide_eq_true_eq]at hd
 conv=>whnf
 (repeat' (first | (refine At rfl (.cons .tmp .nil) ?_ rfl) | (refine⟨z_,?_⟩;((conv=>whnf))) | (refine⟨by (omega),by (omega),?_⟩;((conv=>whnf)))))
 all_goals (refine congrArg Ab ?_)
 all_goals (clear hF;grind [Ac2,Ad])
def Wl (n:Net) (i:Nat) (d:Domain) (k:Int):Bool :=
 Ar k n.domains.length && k != i && Ar (nth n.domains k).dev n.devices.length && (nth n.domains k).dev != d.dev && (nth n.domains k).vni == d.vni && d.vni != 0 && Ac2 n (nth n.domains k) && Ac2 n d && inB (nth n.domains k).peers i
theorem peerS (n:Net) (i:Nat) (d:Domain) (k:Int) (hn:n.Fin) (hd:Ar d.dev n.devices.length=true):Sy.Spec Tryz.prog 174 [Ae n,Aa i,Af d,Aa k] [] (Ab (Wl n i d k)) []:=cT F174 Tryz.ntmps174 fun F hF=>by
 conv=>whnf
 (repeat' (first | (refine⟨fun h=>?_,fun h=>?_⟩<;>(repeat (first | simp only[Ar]at h | simp only[decide_eq_true_eq]at h | simp only[decide_eq_false_iff_not]at h | simp only[beq_iff_eq]at h | simp only[beq_eq_false_iff_ne]at h | simp only[bne_iff_ne]at h | simp only[bne_eq_false_iff_eq]at h | simp only[Bool.and_eq_true]at h | simp only[Bool.and_eq_false_iff]at h | simp only[Bool.not_eq_true']at h | simp only[Bool.not_eq_false']at h))<;>((refine oO ?_);repeat((first|refine aF ?_|refine aT ?_);(refine oO ?_)))) | (refine At rfl (.cons .tmp .nil) ?_ rfl) | (refine⟨z_,?_⟩;((conv=>whnf))) | (refine⟨by (omega),by (omega),?_⟩;((conv=>whnf))) | (refine c0 (Ew 6 Af n.domains k) F178 ?_;((refine oO ?_))) | (refine c0 (Du 5 Ap n.devices (n.domains[k.toNat]'q_).dev) F81 ?_;((refine oO ?_))) | (refine c0 (Ajr n (n.domains[k.toNat]'q_) (by simp only[Ar,Bool.and_eq_true,decide_eq_true_eq];omega)) F254 ?_;((refine oO ?_))) | (refine c0 (Ajr n d hd) F254 ?_;((refine oO ?_))) | (refine c0 (Dk (n.domains[k.toNat]'q_).peers i (hn.peers _ (List.getElem_mem _))) F100 ?_;((refine oO ?_)))))
 all_goals (refine congrArg Ab ?_;clear hF;grind [Wl,Ar,Ad])
def Xl (n:Net) (i:Nat) (d:Domain):Bool:=Do (fun at_ k=>Wl n i d k && Bd (· == k) d.peers == at_) d.peers
theorem peers1 (n:Net) (i:Nat) (d:Domain) (at_:Nat) (k:Int) (hn:n.Fin) (hp:Ag d.peers) (hd:Ar d.dev n.devices.length=true) :
  Sy.Spec Tryz.prog 173 [Aa at_,Aa k,.ref 8 (Ae n) 0,.ref 1 (Aa i) 0,.ref 6 (Af d) 0] [] (Ab (Wl n i d k && Bd (· == k) d.peers == at_)) []:=cT F173 Tryz.ntmps173 fun F hF=>by
 conv=>whnf
 (repeat' (first | (refine⟨fun h=>?_,fun h=>?_⟩<;>((refine oO ?_))) | (refine At rfl (.cons .tmp .nil) ?_ rfl) | (refine c0 (peerS n i d k hn hd) F174 ?_;((refine oO ?_))) | (refine c0 (Aha d.peers k hp) F175 ?_;((refine oO ?_)))))
 all_goals (refine congrArg Ab ?_;clear hF;grind)
theorem peersS (n:Net) (i:Nat) (d:Domain) (hn:n.Fin) (hp:Ag d.peers) (hd:Ar d.dev n.devices.length=true):Sy.Spec Tryz.prog 72 [Ae n,Aa i,Af d] [] (Ab (Xl n i d)) []:=cT F72 Tryz.ntmps72 fun F hF=>by
 conv=>whnf
 refine A1 3 8 (Ae n) E E E ?_
 refine A1 4 1 (Aa i) E E E ?_
 refine A1 5 6 (Af d) E E E ?_
 refine c0 (Ah2 d.peers (fun at_ k=>Wl n i d k && Bd (· == k) d.peers == at_) 173 [] [.ref 8 (Ae n) 0,.ref 1 (Aa i) 0,.ref 6 (Af d) 0] E (fun a ha=>⟨⟨_,_,F173⟩,peers1 n i d a d.peers[a] hn hp hd⟩) hp) F172 ?_
 refine oO ?_
 exact dN
def C6 (n:Net) (dev vlan:Int):Bool:=decide (0≤Dn n dev vlan)
def Ki (n:Net) (i:Nat) (p:Port):Bool :=
 Ar p.dev n.devices.length && decide (0≤p.native) && decide (p.native≤4094) && (decide (p.tagged.length=0) || Hm p.tagged 1 4094) && !inB p.tagged p.native && !(p.native == 0 && decide (p.tagged.length=0)) &&
  Do (fun _ v=>C6 n p.dev v) p.tagged && !(decide (0<p.native) && !C6 n p.dev p.native) &&
  (p.link == -1 || Ar p.link n.links.length && ((nth n.links p.link).a == i || (nth n.links p.link).b == i))
theorem Ab5 (n:Net) (i:Nat) (p:Port) (hn:n.Fin) (hp:Ag p.tagged):Sy.Spec Tryz.prog 74 [Ae n,Aa i,As p] [] (Ab (Ki n i p)) []:=cT F74 Tryz.ntmps74 fun F hF=>by
 conv=>whnf
 (repeat' (first | (refine⟨fun h=>?_,fun h=>?_⟩<;>(repeat (first | simp only[Ar]at h | simp only[decide_eq_true_eq]at h | simp only[decide_eq_false_iff_not]at h | simp only[beq_iff_eq]at h | simp only[beq_eq_false_iff_ne]at h | simp only[Bool.and_eq_true]at h | simp only[Bool.or_eq_true]at h | simp only[Bool.and_eq_false_iff]at h | simp only[Bool.or_eq_false_iff]at h | simp only[Bool.not_eq_true']at h | simp only[Bool.not_eq_false']at h))<;>((refine oO ?_);repeat((first|refine aF ?_|refine aT ?_);(refine oO ?_)))) | (refine At rfl (.cons .tmp .nil) ?_ rfl) | (refine c0 (Du 5 Ap n.devices p.dev) F81 ?_;((refine oO ?_))) | (refine c0 (Xi p.tagged 4094 hp) F84 ?_;((refine oO ?_))) | (refine c0 (Dk p.tagged p.native hp) F100 ?_;((refine oO ?_)))))
 all_goals first | (refine congrArg Ab ?_;clear hF;grind [Ki,Ar]) | skip
 all_goals (
  refine A1 3 8 (Ae n) E E E ?_
  refine A1 5 7 (As p) E E E ?_
  refine Az p.tagged.length (fun j=>Dp (fun _ v=>C6 n p.dev v) p.tagged j) (fun j=>[(1,Aa i),(3,.ref 8 (Ae n) 0),(5,.ref 7 (As p) 0),(51,.sl 1 Aa p.tagged),(52,Aa p.tagged.length),(53,Aa j)]) (fun _=>[]) [] (A7 _ _) ⟨⟨E,E,E,E,E,E,E,E,E,E,E,E,Y⟩,Y,E,E⟩ ?_
  intro j hj hI
  have hsh:=hp
  unfold Ag at hsh
  ((first|refine rG Γ hm ?_|refine rD Γ hm z_ ?_);(conv=>whnf);repeat((first|refine aF ?_|refine aT ?_);(first|refine rG Γ hm ?_|refine rD Γ hm z_ ?_);conv=>whnf)))
 all_goals (
  (repeat' (first | (refine⟨fun h=>?_,fun h=>?_⟩<;>(repeat (first | simp only[Ar]at h | simp only[decide_eq_true_eq]at h | simp only[decide_eq_false_iff_not]at h | simp only[beq_iff_eq]at h | simp only[beq_eq_false_iff_ne]at h | simp only[Bool.and_eq_true]at h | simp only[Bool.and_eq_false_iff]at h))<;>((refine oO ?_);repeat((refine aF ?_);(refine oO ?_)))) | (refine At rfl (.cons .tmp .nil) ?_ rfl) | (refine⟨z_,?_⟩;((conv=>whnf))) | (refine⟨by (omega),by (omega),?_⟩;((conv=>whnf))) | (refine⟨by (unfold I64;omega),?_⟩;((conv=>whnf))) | (refine c0 (Jn n p.dev (p.tagged[j]'q_) hn.domains) F171 ?_;((refine oO ?_))) | (refine c0 (Jn n p.dev p.native hn.domains) F171 ?_;((refine oO ?_))) | (refine c0 (Zf 3 Bg n.links p.link) F176 ?_;((refine oO ?_))) | refine Ay [] hI q_ ?_ ⟨⟨rfl,rfl,rfl,rfl,rfl,rfl,rfl,rfl,rfl,rfl,rfl,rfl,trivial⟩,trivial,rfl,rfl⟩)))
 all_goals first
  | exact A6 hI q_ (by simp only[C6,decide_eq_true_eq];omega)
  | (refine congrArg Ab ?_
     have h0:Do (fun _ v=>C6 n p.dev v) p.tagged=false:=Br (i:=j) q_ (by simp only[C6,decide_eq_false_iff_not];omega)
     clear hF hI;grind [Ki])
  | (refine congrArg Ab ?_
     have h0:Do (fun _ v=>C6 n p.dev v) p.tagged=true:=C2 hI q_
     clear hF hI;grind [Ki,Ar,C6,Ad])
def Wq (n:Net) (i:Nat) (l:Link):Bool :=
 Ar l.a n.ports.length && Ar l.b n.ports.length && (nth n.ports l.a).dev != (nth n.ports l.b).dev && (nth n.ports l.a).link == i && (nth n.ports l.b).link == i
theorem Ab6 (n:Net) (i:Nat) (l:Link):Sy.Spec Tryz.prog 76 [Ae n,Aa i,Bg l] [] (Ab (Wq n i l)) []:=cT F76 Tryz.ntmps76 fun F hF=>by
 conv=>whnf
 (repeat' (first | (refine⟨fun h=>?_,fun h=>?_⟩<;>(repeat (first | simp only[Ar]at h | simp only[decide_eq_true_eq]at h | simp only[decide_eq_false_iff_not]at h | simp only[beq_iff_eq]at h | simp only[beq_eq_false_iff_ne]at h | simp only[bne_iff_ne]at h | simp only[bne_eq_false_iff_eq]at h | simp only[Bool.and_eq_true]at h | simp only[Bool.and_eq_false_iff]at h | simp only[Bool.not_eq_true']at h | simp only[Bool.not_eq_false']at h))<;>((refine oO ?_);repeat((first|refine aF ?_|refine aT ?_);(refine oO ?_)))) | (refine At rfl (.cons .tmp .nil) ?_ rfl) | (refine⟨z_,?_⟩;((conv=>whnf))) | (refine⟨by (omega),by (omega),?_⟩;((conv=>whnf))) | (refine c0 (Kj 7 As n.ports l.a) F177 ?_;((refine oO ?_))) | (refine c0 (Kj 7 As n.ports l.b) F177 ?_;((refine oO ?_)))))
 all_goals (refine congrArg Ab ?_;clear hF;grind [Wq,Ar,Ad])
def M2 (n:Net) (s:Static):Bool :=
 Ar s.domain n.domains.length && Ar s.port n.ports.length && (nth n.ports s.port).dev == (nth n.domains s.domain).dev && B5 (nth n.ports s.port) (nth n.domains s.domain).vlan
theorem Xt (n:Net) (i:Nat) (s:Static) (hn:n.Fin):Sy.Spec Tryz.prog 78 [Ae n,Aa i,Av s] [] (Ab (M2 n s)) []:=cT F78 Tryz.ntmps78 fun F hF=>by
 conv=>whnf
 (repeat' (first | (refine⟨fun h=>?_,fun h=>?_⟩<;>(repeat (first | simp only[Ar]at h | simp only[decide_eq_true_eq]at h | simp only[decide_eq_false_iff_not]at h | simp only[beq_iff_eq]at h | simp only[beq_eq_false_iff_ne]at h | simp only[Bool.and_eq_true]at h | simp only[Bool.and_eq_false_iff]at h | simp only[Bool.not_eq_true']at h | simp only[Bool.not_eq_false']at h))<;>((refine oO ?_);repeat((refine aT ?_);(refine oO ?_)))) | (refine At rfl (.cons .tmp .nil) ?_ rfl) | (refine⟨z_,?_⟩;((conv=>whnf))) | (refine⟨by (omega),by (omega),?_⟩;((conv=>whnf))) | (refine c0 (Ew 6 Af n.domains s.domain) F178 ?_;((refine oO ?_))) | (refine c0 (Kj 7 As n.ports s.port) F177 ?_;((refine oO ?_))) | (refine c0 (Ts (n.ports[s.port.toNat]'q_) (n.domains[s.domain.toNat]'q_).vlan (hn.tagged _ (List.getElem_mem _))) F179 ?_;((refine oO ?_)))))
 all_goals (refine congrArg Ab ?_;clear hF;grind [M2,Ar,Ad])
def Zx (n:Net) (i:Nat) (x:Irb):Bool :=
 Ar x.domain n.domains.length && Ar x.vrf n.vrfs.length && (nth n.domains x.domain).dev == (nth n.vrfs x.vrf).dev && (nth n.domains x.domain).irb == i && decide (1≤x.bits) && decide (x.bits≤30)
theorem Ae1 (n:Net) (i:Nat) (x:Irb):Sy.Spec Tryz.prog 86 [Ae n,Aa i,Bf x] [] (Ab (Zx n i x)) []:=cT F86 Tryz.ntmps86 fun F hF=>by
 conv=>whnf
 (repeat' (first | (refine⟨fun h=>?_,fun h=>?_⟩<;>(repeat (first | simp only[Ar]at h | simp only[decide_eq_true_eq]at h | simp only[decide_eq_false_iff_not]at h | simp only[beq_iff_eq]at h | simp only[beq_eq_false_iff_ne]at h | simp only[Bool.and_eq_true]at h | simp only[Bool.and_eq_false_iff]at h))<;>((refine rd z_ ?_);(conv=>whnf);repeat((refine aF ?_);(refine rd z_ ?_);(conv=>whnf)))) | (refine At rfl (.cons .tmp .nil) ?_ rfl) | (refine⟨z_,?_⟩;((conv=>whnf))) | (refine⟨by (omega),by (omega),?_⟩;((conv=>whnf))) | (refine cD (Ew 6 Af n.domains x.domain) F178 ?_;((refine rd z_ ?_);(conv=>whnf))) | (refine cD (Abv 5 Bh n.vrfs x.vrf) F181 ?_;((refine rd z_ ?_);(conv=>whnf)))))
 all_goals (refine congrArg Ab ?_;clear hF;grind [Zx,Ar,Ad])
def K1 (n:Net) (f:Flood):Bool:=Ar f.dev n.devices.length && decide (f.addrs.length≤16)
theorem right1 (n:Net) (i:Nat) (f:Flood):Sy.Spec Tryz.prog 80 [Aa i,Ax f,.ref 8 (Ae n) 0] [] (Ab (K1 n f)) []:=cT F80 Tryz.ntmps80 fun F hF=>by
 conv=>whnf
 (repeat' (first | (refine⟨fun h=>?_,fun h=>?_⟩<;>(repeat (first | simp only[Ar]at h | simp only[decide_eq_true_eq]at h | simp only[decide_eq_false_iff_not]at h | simp only[Bool.and_eq_true]at h | simp only[Bool.and_eq_false_iff]at h))<;>((refine oO ?_))) | (refine At rfl (.cons .tmp .nil) ?_ rfl) | (refine c0 (Du 5 Ap n.devices f.dev) F81 ?_;((refine oO ?_)))))
 all_goals (refine congrArg Ab ?_;clear hF;grind [K1,Ar])
def Y3 (l:List Int) (most:Int):Bool:=decide (l.length=0) || Hm l 1 most
def Aft (n:Net) (v:Vrf):Bool:=Ar v.dev n.devices.length && Y3 v.imports 65535 && Y3 v.exports 65535
theorem right2 (n:Net) (i:Nat) (v:Vrf) (h1:Ag v.imports) (h2:Ag v.exports):Sy.Spec Tryz.prog 83 [Aa i,Bh v,.ref 8 (Ae n) 0] [] (Ab (Aft n v)) []:=cT F83 Tryz.ntmps83 fun F hF=>by
 conv=>whnf
 (repeat' (first | (refine⟨fun h=>?_,fun h=>?_⟩<;>(repeat (first | simp only[Ar]at h | simp only[decide_eq_true_eq]at h | simp only[decide_eq_false_iff_not]at h | simp only[Bool.and_eq_true]at h | simp only[Bool.or_eq_true]at h | simp only[Bool.and_eq_false_iff]at h | simp only[Bool.or_eq_false_iff]at h))<;>((refine oO ?_);repeat((refine aF ?_);(refine oO ?_)))) | (refine At rfl (.cons .tmp .nil) ?_ rfl) | (refine c0 (Du 5 Ap n.devices v.dev) F81 ?_;((refine oO ?_))) | (refine c0 (Xi v.imports 65535 h1) F84 ?_;((refine oO ?_))) | (refine c0 (Xi v.exports 65535 h2) F84 ?_;((refine oO ?_)))))
 all_goals (refine congrArg Ab ?_;clear hF;grind [Aft,Y3,Ar])
def Ac (n:Net):Bool :=
 Ae8 n && Do (K6 n) n.domains && Do (Xl n) n.domains && Do (Ki n) n.ports && Do (Wq n) n.links && Do (fun _=>M2 n) n.statics && Do (fun _=>K1 n) n.floods && Do (fun _=>Aft n) n.vrfs && Do (Zx n) n.irbs
theorem Ahz {n:Net} (h:Do (K6 n) n.domains=true) {i:Nat} (hi:i<n.domains.length):Ar n.domains[i].dev n.devices.length=true:=by
 have:=allB_iff.1 h i hi
 simp only[K6,Bool.and_eq_true]at this
 exact this.1.1.1.1.1.1
theorem Aw (n:Net) (hn:n.Fin):Sy.Spec Tryz.prog 25 [Ae n] [] (Ab (Ac n)) []:=cT F25 Tryz.ntmps25 fun F hF=>by
 conv=>whnf
 refine A1 1 8 (Ae n) E E E ?_
 (repeat' (first | (refine⟨fun h=>?_,fun h=>?_⟩<;>((refine oO ?_);repeat((refine aF ?_);(refine oO ?_)))) | (refine At rfl (.cons .tmp .nil) ?_ rfl) | (refine c0 (fewS n) F69 ?_;((refine oO ?_))) | (refine c0 (Tc n.domains (K6 n) 71 [Ae n] [] rfl (fun i h=>⟨⟨_,_,F71⟩,bareS n i n.domains[i] hn.domains⟩) hn.domains) F70 ?_;((refine oO ?_))) | (refine I9 (Tc n.domains (Xl n) 72 [Ae n] [] rfl (fun i h=>⟨⟨_,_,F72⟩,peersS n i n.domains[i] hn (hn.peers _ (List.getElem_mem _)) (Ahz ‹_› h)⟩) hn.domains) F70 rfl rfl rfl rfl rfl ?_;((refine oO ?_))) | (refine I9 (Afj n.ports (Ki n) 74 [Ae n] [] rfl (fun i h=>⟨⟨_,_,F74⟩,Ab5 n i n.ports[i] hn (hn.tagged _ (List.getElem_mem _))⟩) hn.ports) F73 rfl rfl rfl rfl rfl ?_;((refine oO ?_))) | (refine c0 (Afk n.links (Wq n) 76 [Ae n] [] rfl (fun i h=>⟨⟨_,_,F76⟩,Ab6 n i n.links[i]⟩) hn.links) F75 ?_;((refine oO ?_))) | (refine c0 (Aav n.statics (fun _=>M2 n) 78 [Ae n] [] rfl (fun i h=>⟨⟨_,_,F78⟩,Xt n i n.statics[i] hn⟩) hn.statics) F77 ?_;((refine oO ?_))) | (refine c0 (Acs n.floods (fun _=>K1 n) 80 [] [.ref 8 (Ae n) 0] rfl (fun i h=>⟨⟨_,_,F80⟩,right1 n i n.floods[i]⟩) hn.floods) F79 ?_;((refine oO ?_))) | (refine I9 (Ah3 n.vrfs (fun _=>Aft n) 83 [] [.ref 8 (Ae n) 0] rfl (fun i h=>⟨⟨_,_,F83⟩,right2 n i n.vrfs[i] (hn.imports _ (List.getElem_mem _)) (hn.exports _ (List.getElem_mem _))⟩) hn.vrfs) F82 rfl rfl rfl rfl rfl ?_;((refine oO ?_))) | (refine c0 (Ah4 n.irbs (Zx n) 86 [Ae n] [] rfl (fun i h=>⟨⟨_,_,F86⟩,Ae1 n i n.irbs[i]⟩) hn.irbs) F85 ?_;((refine oO ?_)))))
 all_goals (refine congrArg Ab ?_)
 all_goals (clear hF;simp_all[Ac])
theorem Li {α:Type} {p:α→Bool} {l:List α} {j:Nat} (hI:Dp (fun _ x=>!(p x)) l j) (hj:l.length≤j):l.any p=false:=by
 rw[List.any_eq_false]
 intro x hx
 obtain ⟨i,hi,rfl⟩:=List.mem_iff_getElem.1 hx
 simpa using hI i hi q_
theorem Qh {α:Type} {p:α→Bool} {l:List α} {j:Nat} (hj:j<l.length) (h:p l[j]=true):l.any p=true:=List.any_eq_true.2 ⟨_,List.getElem_mem hj,h⟩
def orI:List Int→Int
 | []=>0
 | x::l=>if x=0 then orI l else x
end Go.Sy.YtjenpnjajjplkaaGreatDoor
namespace Go.Sy.YtjenpnjajjplkaaGreatDoor
open Go.Proofs
structure LineM where
 row:Int
 kind:Int
 dev:ByteArray
 port:ByteArray
 peer:ByteArray
 far:ByteArray
 name:ByteArray
 mac:Int
 addr:Int
 bits:Int
 vlan:Int
 num:Int
 cost:Int
 tagged:List Int
 imports:List Int
 exports:List Int
 addrs:List Int
def C4 (l:LineM):List SV:=[Aa l.row,Aa l.kind,Ak l.dev,Ak l.port,Ak l.peer,Ak l.far,Ak l.name,Ig l.mac,A5 l.addr,Aa l.bits,Aa l.vlan,Aa l.num,Aa l.cost,.sl 1 Aa l.tagged,.sl 1 Aa l.imports,.sl 1 Aa l.exports,.sl 1 A5 l.addrs]
def Au (l:LineM):SV:=.agg [Aa l.row,Aa l.kind,Ak l.dev,Ak l.port,Ak l.peer,Ak l.far,Ak l.name,Ig l.mac,A5 l.addr,Aa l.bits,Aa l.vlan,Aa l.num,Aa l.cost,.sl 1 Aa l.tagged,.sl 1 Aa l.imports,.sl 1 Aa l.exports,.sl 1 A5 l.addrs]
theorem Age (x:Int) (l:List Int):orI (x::l)=Sh x (orI l):=by
 rw[orI];unfold Sh;split<;>simp_all
theorem CmpOK.const {α:Type}:CmpOK (fun _ _:α=>(0:Int)):=⟨fun _ _=>by simp,fun _ _ _ _ _=>by simp⟩
theorem CmpOK.or {α:Type} {c:α→α→Int} {d:α→α→List Int} (hc:CmpOK c) (hd:CmpOK (fun x y=>orI (d x y))):CmpOK (fun x y=>orI (c x y::d x y)):=by
 have h:=hc.then hd
 simp only[Age]
 exact h
end Go.Sy.YtjenpnjajjplkaaGreatDoor
namespace Go.Sy
theorem Aa2 {C:Cx} {k:List KI} {s:SS} (d:Nat) {sz:Nat} {α β:Type} {e:α→SV} {l:List α} {e':β→SV} {l':List β} (h:s.h d=.row sz e l) (hl:l'.length=l.length)
  (hv:∀ (M:Nat→Prop) (w:World) (i:Nat) (h1:i<l.length) (h2:i<l'.length) (v:Value),RdD M w (e l[i]) v→RdD M w (e' l'[i]) v) (hg:G C k ⟨s.σ,upd s.h d (.row sz e' l')⟩):G C k s:=fun κ a w hs =>
 hg κ a w ⟨hs.defers,hs.size,hs.inv,hs.ctx,hs.slot,fun i=>by
  show ObOK κ w i (upd s.h d (.row sz e' l') i)
  by_cases hi:i=d
  ·subst hi
   rw[Bm]
   have:=hs.obj i
   rw[h]at this
   rcases this with ⟨h1,rfl⟩ | ⟨b,cap,cs,T,fr,e1,e2,e3,e4,e5,e6⟩
   ·exact .inl ⟨h1,List.eq_nil_of_length_eq_zero (by simpa using hl)⟩
   ·refine .inr ⟨b,cap,cs,T,fr,by rw[hl];exact e1,e2,e3,e4,by omega,fun i x hx=>?_⟩
    obtain ⟨hi2,rfl⟩:=hx
    obtain ⟨_,u,hu,hrest⟩:=e6 i (e (l[i]'q_)) ⟨by omega,rfl⟩
    exact⟨hi2,u,hv _ _ i q_ hi2 u hu,hrest⟩
  ·rw[Ca _ _ hi];exact hs.obj i⟩
theorem Adx {κ:Ka} {w:World} {x:SV}:∀ {l:List SV} {cs:List Value} {i:Nat},RdL κ w l cs→(∀ y v,l[i]? = some y→Rd κ w y v→Rd κ w x v)→RdL κ w (l.set i x) cs
 | [],_,_,h,_=>h
 | y::l,cs,0,h,hx=>by
  simp only[RdL,List.set_cons_zero]at h ⊢
  obtain ⟨v,r,e1,e2,e3⟩:=h
  exact⟨v,r,e1,hx y v E e2,e3⟩
 | y::l,cs,i+1,h,hx=>by
  simp only[RdL,List.set_cons_succ]at h ⊢
  obtain ⟨v,r,e1,e2,e3⟩:=h
  exact⟨v,r,e1,e2,Adx e3 (fun z u hz hu=>hx z u hz hu)⟩
theorem Aie {C:Cx} {k:List KI} {s:SS} (b i d sz:Nat) {α:Type} (e:α→SV) {l:List SV} (hb:s.h b=.box l) (h:l[i]? = some (.val (.slice none 0 0))) (hd:s.h d=.fresh) (hbd:Nat.beq b d=false)
  (hg:G C k ⟨s.σ,upd (upd s.h b (.box (l.set i (.osl d)))) d (.row sz e [])⟩):G C k s:=fun κ a w hs=>by
 have hne:b≠d:=fun e=>by rw[e,Nat.beq_refl]at hbd;cases hbd
 have hnew:κ d=.new:=by have:=hs.obj d;rwa [hd]at this
 obtain ⟨st,inv⟩:=Ey hs.inv hnew (e:=.nil) (Grew.refl w) (fun b hb=>by cases hb)
 refine hg (C8 κ d .nil) a w ⟨hs.defers,hs.size,inv,hs.ctx.step inv st,fun j=>Rd.step st _ _ (hs.slot j),fun j=>?_⟩
 show ObOK _ w j (upd (upd s.h b (.box (l.set i (.osl d)))) d (.row sz e []) j)
 by_cases hj:j=d
 ·subst hj;rw[Bm];exact .inl ⟨Aq _ _ _,rfl⟩
 ·rw[Ca _ _ hj]
  by_cases hjb:j=b
  ·subst hjb
   rw[Bm]
   have:=ObOK.step st hj _ (hs.obj j)
   rw[hb]at this
   obtain ⟨b',cs,T,fr,e1,e2,e3,e4,e5⟩:=this
   refine⟨b',cs,T,fr,e1,e2,e3,e4,Adx e5 fun y v hy hv=>?_⟩
   rw[h]at hy
   cases hy
   simp only[Rd]at hv
   simp only[Rd,Aq]
   exact hv
  ·rw[Ca _ _ hjb];exact ObOK.step st hj _ (hs.obj j)
theorem Ln {P:Program} (w:World) {t e:TypeId} (h:P.underlying t=some (.slice e)) (ad:Option Addr) (n cap c1 c2:Nat):(Op.equal t (.slice ad n cap) (.slice none c1 c2)).run P w=.ok ad.isNone w:=by
 have key:∀ d,(Op.equalIn (d+1) t (.slice ad n cap) (.slice none c1 c2)).run P w=.ok ad.isNone w:=fun d=>by
  cases ad<;>simp[Op.equalIn,run_underlying h]
 exact key 9999
inductive NilT (s:SS):SV→List Nat→Nat→Prop
 | sl {sz:Nat} {α:Type} {e:α→SV} {l:List α}:NilT s (.sl sz e l) [] l.length
 | row {k sz:Nat} {α:Type} {e:α→SV} {l:List α} (h:s.h k=.row sz e l):NilT s (.osl k) [k] l.length
theorem NilT.at {C:Cx} {s:SS} {κ:Ka} {a:Act} {w:World} {x:Operand} {rd:List Nat} {n:Nat} (hs:St C.F C.n s κ a w) (hx:NilT s (ev s x) rd n):∃ (ad:Option Addr) (m cap:Nat),a.eval x=.slice ad m cap∧(ad.isNone=true→n=0):=by
 have h1:Rd κ w (ev s x) (a.eval x):=hs.ev x
 generalize ev s x=y at *
 cases hx with
 | @sl sz α e l =>
  simp only[Rd,RdD]at h1
  rcases h1 with ⟨rfl,a',cap,h1⟩ | ⟨b,off,cap,h1,_⟩
  ·exact⟨_,_,_,h1,fun _=>rfl⟩
  ·exact⟨_,_,_,h1,fun h=>by cases h⟩
 | @row k' sz α e l hr =>
  have hob:=hs.obj k'
  rw[hr]at hob
  simp only[Rd]at h1
  rcases hob with ⟨hκ,hl⟩ | ⟨b,cap,_,_,_,hκ,_⟩
  ·rw[hκ]at h1
   exact⟨_,_,_,h1,fun _=>by rw[hl];rfl⟩
  ·rw[hκ]at h1
   exact⟨_,_,_,h1,fun h=>by cases h⟩
theorem D2 {C:Cx} {k:List KI} {s:SS} {all:Array Oper} {o:Oper} {rest:List Oper} {op:BinOp} {t yt:TypeId} {ti:TI} {et:TypeId} {sz eb n:Nat} {ez:List Value} {x y:Operand} {rd:List Nat} (h:o.op=.binOp op t x y yt) (hop:op=.eql∨op=.neq)
  (ht:C.Γ.get t=some ti) (hk:ti.k=.slice et sz eb ez) (hy:ev s y=.val (.slice none 0 0)) (hx:NilT s (ev s x) rd n) (hd:K4 C.n o=true) (hw:C1 C.n all o s=some true)
  (hg:∀ b:Bool,(b=true→n=0)→G C (.ops all rest::k) (s.upd o.dst ⟨.val (.bool (if op=.eql then b else !b)),rd,[]⟩)):G C (.ops all (o::rest)::k) s:=fun κ a w hs=>by
 have h2:Rd κ w (ev s y) (a.eval y):=hs.ev y
 rw[hy]at h2
 obtain ⟨ad,m,cap,e1,e2⟩:=hx.at hs
 obtain ⟨d,info,z,k1,k2,_⟩:=C.Γ.ok t ti ht
 rw[hk]at k2
 simp only[TK.ok]at k2
 have hrun:=Ln (P:=C.P) w (t:=t) (e:=et) (by first | exact k2.1 ▸ k1 | (rw[k1,k2.1])) ad m cap 0 0
 have hG:=hg ad.isNone e2
 have hv:=h2.val
 refine wpList_step fun K hK=>?_
 rw[if_pos (M0 hs (Dj hw).2 (Dj hw).1)]
 have hx':(execOp a.eval o).run C.P w=.ok (.value (.bool (if op=.eql then ad.isNone else !ad.isNone))) w:=by
  rcases hop with rfl | rfl<;>simp[execOp,h,e1,hv,eqGuard,binOp,hrun]
 simp only[Oper.wp,hx',Oper.upon]
 exact hK _ _ (hG κ _ w (hs.put (U:=⟨.val (.bool (if op=.eql then ad.isNone else !ad.isNone)),rd,[]⟩) (U6 hd) (Step.refl _ κ w) hs.inv (by simp[Rd]) (fun p hp=>by cases hp)))
def KeepL (s:SS):List (Nat × Ob)→Prop
 | []=>True
 | (k,o)::r=>s.h k=o∧KeepL s r
theorem KeepL.all {s:SS}:∀ {l:List (Nat × Ob)},KeepL s l→∀ p∈l,s.h p.1=p.2
 | [],_,p,hp=>by cases hp
 | (k,o)::r,h,p,hp=>by
  rcases List.mem_cons.1 hp with rfl | hp
  ·exact h.1
  ·exact KeepL.all h.2 p hp
theorem We {κ:Ka} {w w':World} (hi:Inv κ w) (g:Grew w w'):Step (fun _=>False) κ w κ w'∧Inv κ w' :=
 ⟨⟨g.size,g.os,g.tape,g.output,rfl,fun b hb=>g.blk b (hi.mbnd b hb),fun b hb _=>g.blk b hb,fun k b _ hb=>g.blk b (hi.bnd k b hb),fun _ _=>rfl,fun _ h=>h.elim,fun _ h=>.inl h⟩,
  ⟨hi.inj,fun k b h=>Nat.lt_of_lt_of_le (hi.bnd k b h) g.size,hi.apart,fun b h=>Nat.lt_of_lt_of_le (hi.mbnd b h) g.size⟩⟩
theorem Spec.of_calls {P:Program} {f:FuncId} {A:List SV} {H:Obs} {u:Value}
  (h:∀ (κ:Ka) (w:World) (vs:List Value),Inv κ w→RdL κ w A vs→H.ok κ w→Calls P f vs.toArray w fun e w'=>e=.returned u∧RowKit.Below w.heap.size w w'):Spec P f A H (.val u) H:=by
 intro κ w vs hi _ hr ho
 refine(h κ w vs hi hr ho).mono fun e w' hw=>?_
 obtain ⟨he,hw⟩:=hw
 have g:Grew w w':=⟨hw.os,hw.tape,hw.output,hw.size,hw.block⟩
 have st:=We hi g
 exact⟨u,κ,he,(Ctx.refl κ w).step st.2 st.1,st.2,by simp[Rd],fun p hp=>ObOK.step st.1 y_ p.2 (ho p hp)⟩
theorem Aa5 {κ:Ka} {w:World} {l:List ByteArray} {v:Value} (h:Rd κ w (.sl 1 Ak l) v) :
  (l=[]∧∃ a c,v=.slice a 0 c)∨∃ b o c,v=.slice (some ⟨b,o,none⟩) l.length c∧l.length≤c∧b<w.heap.size∧∀ (j:Nat) x,l[j]? = some x→w.cell? ⟨b,o+j,none⟩=some (.string x):=by
 simp only[Rd,RdD]at h
 rcases h with ⟨h1,h2⟩ | ⟨b,off,cap,h1,h0,h2,h3,h4⟩
 ·exact .inl ⟨h1,h2⟩
 ·refine .inr ⟨b,off,cap,h1,h0,h3,fun j x hj=>?_⟩
  obtain ⟨hlt,he⟩:=List.getElem?_eq_some_iff.1 hj
  obtain ⟨u,h5,h6⟩:=h4 j hlt
  rw[he]at h5
  simp only[Ak,RdD]at h5
  subst h5
  have:=h6.2.2 0 q_
  simp only[Nat.mul_one,Nat.add_zero]at this
  exact this
theorem Ox {P:Program} {o:Oper} {s:SS} {x y:Operand} {at_:Array TypeId} {k k':IntKind} {m n:Int} (h:o.op=.call ⟨.builtin .min,#[x,y],at_⟩)
  (hx:ev s x=.val (.int k m)) (hy:ev s y=.val (.int k' n)):Good P o s ⟨.val (.int k (if n<m then n else m)),[],[]⟩ :=
 Good.pure fun κ a w _ hr ho=>by
  have h1:=hr x (by simp[h,Op.operands,Call.operands])
  have h2:=hr y (by simp[h,Op.operands,Call.operands])
  rw[hx]at h1
  rw[hy]at h2
  refine⟨.int k (if n<m then n else m),?_,by simp[Rd]⟩
  simp[execOp,h,resolve,invoke,builtin,Builtin.min_,Builtin.min2,h1.val,h2.val]
theorem Z4 {P:Program} {o:Oper} {s:SS} {x y:Operand} {at_:Array TypeId} {k k':IntKind} {m n:Int} (h:o.op=.call ⟨.builtin .min,#[x,y],at_⟩)
  (hx:ev s x=.val (.int k m)) (hy:ev s y=.val (.int k' n)) (hle:m≤n):Good P o s ⟨.val (.int k m),[],[]⟩:=by
 have:=Ox (P:=P) h hx hy
 rwa [if_neg q_]at this
def Ct (l:List ByteArray) (sep:ByteArray):ByteArray:=⟨(Lib.join (l.map (·.data.toList)) sep.data.toList).toArray⟩
def Lz (l:List ByteArray):Nat:=(l.map (·.size)).sum
theorem Adi:∀ (l:List (List UInt8)) (sep:List UInt8),(Lib.join l sep).length≤(l.map (·.length)).sum+sep.length * l.length
 | [],_=>by simp[Lib.join_nil]
 | x::r,sep=>by
  rw[Lib.join_length]
  have:Lib.lens (x::r)=((x::r).map (·.length)).sum:=by
   clear sep
   induction (x::r) with
   | nil=>rfl
   | cons a t ih=>simp[Lib.lens,ih]
  rw[this,List.length_cons,Nat.mul_succ]
  omega
theorem Ag5 {l:List ByteArray} {sep:ByteArray} (h1:Lz l≤70368744177664) (h2:sep.size * l.length≤70368744177664):(Lib.join (l.map (·.data.toList)) sep.data.toList).length≤140737488355328:=by
 have:=Adi (l.map (·.data.toList)) sep.data.toList
 have e:(l.map (·.data.toList)).map (·.length)=l.map (·.size):=by
  rw[List.map_map]
  apply List.map_congr_left
  intro a _
  rfl
 rw[e,List.length_map]at this
 have e2:sep.data.toList.length=sep.size:=rfl
 rw[e2]at this
 unfold Lz at h1
 omega
end Go.Sy
namespace Go.Proofs
open Go.Shelf
def Tryz.lays156_ren:Go.Shelf.Ren:=⟨fun | 156=>182 | 165=>255 | 166=>256 | 169=>257 | 240=>319 | 241=>320 | 276=>379 | 277=>380 | n=>n,fun | 31=>68 | 9=>9 | 3=>3 | 4=>4 | 0=>0 | 20=>20 | 72=>313 | 76=>316 | 70=>311 | 37=>24 | 75=>315 | 127=>352 | 164=>380 | 5=>5 | 80=>292 | n=>n,fun | n=>n⟩
theorem Tryz.lays156:Go.Proofs.Lays.n156 Tryz.prog Tryz.lays156_ren:={
 mixed:=by kernel_rfl
 f156:=Tryz.func182.trans (congrArg some Go.Sy.z_)
 f165:=Tryz.func255.trans (congrArg some Go.Sy.z_)
 f166:=Tryz.func256.trans (congrArg some Go.Sy.z_)
 f169:=Tryz.func257.trans (congrArg some Go.Sy.z_)
 f240:=Tryz.func319.trans (congrArg some Go.Sy.z_)
 f241:=Tryz.func320.trans (congrArg some Go.Sy.z_)
 f276:=Tryz.func379.trans (congrArg some Go.Sy.z_)
 f277:=Tryz.func380.trans (congrArg some Go.Sy.z_)
 t0:=Tryz.underlying0
 a0:=Tryz.isAgg0
 z0:=Tryz.sizeOf0
 v0:=Tryz.zeroValue0
 t3:=Tryz.underlying3
 a3:=Tryz.isAgg3
 z3:=Tryz.sizeOf3
 v3:=Tryz.zeroValue3
 t4:=Tryz.underlying4
 a4:=Tryz.isAgg4
 z4:=Tryz.sizeOf4
 v4:=Tryz.zeroValue4
 t9:=Tryz.underlying9
 a9:=Tryz.isAgg9
 z9:=Tryz.sizeOf9
 v9:=Tryz.zeroValue9
 t20:=Tryz.underlying20
 a20:=Tryz.isAgg20
 z20:=Tryz.sizeOf20
 v20:=Tryz.zeroValue20
 t31:=Tryz.underlying68
 a31:=Tryz.isAgg68
 z31:=Tryz.sizeOf68
 v31:=Tryz.zeroValue68
 t37:=Tryz.underlying24
 a37:=Tryz.isAgg24
 z37:=Tryz.sizeOf24
 v37:=Tryz.zeroValue24
 t70:=Tryz.underlying311
 a70:=Tryz.isAgg311
 z70:=Tryz.sizeOf311
 v70:=Tryz.zeroValue311
 t72:=Tryz.underlying313
 a72:=Tryz.isAgg313
 z72:=Tryz.sizeOf313
 v72:=Tryz.zeroValue313
 t75:=Tryz.underlying315
 a75:=Tryz.isAgg315
 z75:=Tryz.sizeOf315
 v75:=Tryz.zeroValue315
 t76:=Tryz.underlying316
 a76:=Tryz.isAgg316
 z76:=Tryz.sizeOf316
 v76:=Tryz.zeroValue316
 t127:=Tryz.underlying352
 a127:=Tryz.isAgg352
 z127:=Tryz.sizeOf352
 v127:=Tryz.zeroValue352
 t164:=Tryz.underlying380
 a164:=Tryz.isAgg380
 z164:=Tryz.sizeOf380
 v164:=Tryz.zeroValue380 }
theorem Tryz.Builder_Extra_156:Builder.Extra Tryz.prog Tryz.lays156_ren:={
 sizeBuilder:=by kernel_rfl
 liesBuilder:=by kernel_rfl
 t5:=Tryz.underlying5
 a5:=Tryz.isAgg5
 z5:=Tryz.sizeOf5
 v5:=Tryz.zeroValue5
 infoByte:=by kernel_rfl
 cellsByte:=by kernel_rfl
 sizeByte:=by kernel_rfl
 neB5:=by decide }
open Go.RowKit in
theorem Tryz.strings_Join_none (a:Option Addr) (c:Nat) (sep:ByteArray) (w:World) :
  Calls Tryz.prog 182 #[.slice a 0 c,.string sep] w fun e w'=>e=.returned (.string ⟨#[]⟩)∧w'=w:=Any.strings_Join_none Tryz.lays156 Tryz.Builder_Extra_156 a c sep w
open Go.RowKit in
theorem Tryz.strings_Join (bk o c:Nat) (xs:List ByteArray) (sep:ByteArray) (w:World) (hcells:∀ (j:Nat) x,xs[j]? = some x→w.cell? ⟨bk,o+j,none⟩=some (.string x)) (hbk:bk<w.heap.size) (hN:xs.length≤140737488355328) (hcap:xs.length≤c) (hlen:(Lib.join (xs.map (·.data.toList)) sep.data.toList).length≤140737488355328) :
  Calls Tryz.prog 182 #[.slice (some ⟨bk,o,none⟩) xs.length c,.string sep] w fun e w'=>e=.returned (.string ⟨(Lib.join (xs.map (·.data.toList)) sep.data.toList).toArray⟩)∧Below w.heap.size w w':=Any.strings_Join Tryz.lays156 Tryz.Builder_Extra_156 bk o c xs sep w hcells hbk hN hcap hlen
open Go.RowKit in
open Go.RowKit Go.Lib in
def Tryz.lays143_ren:Go.Shelf.Ren:=⟨fun | 143=>261 | 219=>289 | 217=>290 | 225=>351 | 224=>352 | 267=>353 | 266=>354 | 314=>416 | n=>n,fun | 9=>9 | 3=>3 | 4=>4 | 5=>5 | 46=>275 | 146=>403 | 51=>62 | n=>n,fun | 1=>2 | n=>n⟩
theorem Tryz.lays143:Go.Proofs.Lays.n143 Tryz.prog Tryz.lays143_ren:={
 mixed:=by kernel_rfl
 f143:=Tryz.func261.trans (congrArg some Go.Sy.z_)
 f217:=Tryz.func290.trans (congrArg some Go.Sy.z_)
 f219:=Tryz.func289.trans (congrArg some Go.Sy.z_)
 f224:=Tryz.func352.trans (congrArg some Go.Sy.z_)
 f225:=Tryz.func351.trans (congrArg some Go.Sy.z_)
 f266:=Tryz.func354.trans (congrArg some Go.Sy.z_)
 f267:=Tryz.func353.trans (congrArg some Go.Sy.z_)
 f314:=Tryz.func416.trans (congrArg some Go.Sy.z_)
 t3:=Tryz.underlying3
 a3:=Tryz.isAgg3
 z3:=Tryz.sizeOf3
 v3:=Tryz.zeroValue3
 t4:=Tryz.underlying4
 a4:=Tryz.isAgg4
 z4:=Tryz.sizeOf4
 v4:=Tryz.zeroValue4
 t5:=Tryz.underlying5
 a5:=Tryz.isAgg5
 z5:=Tryz.sizeOf5
 v5:=Tryz.zeroValue5
 t9:=Tryz.underlying9
 a9:=Tryz.isAgg9
 z9:=Tryz.sizeOf9
 v9:=Tryz.zeroValue9
 t46:=Tryz.underlying275
 a46:=Tryz.isAgg275
 z46:=Tryz.sizeOf275
 v46:=Tryz.zeroValue275
 t51:=Tryz.underlying62
 a51:=Tryz.isAgg62
 z51:=Tryz.sizeOf62
 v51:=Tryz.zeroValue62
 t146:=Tryz.underlying403
 a146:=Tryz.isAgg403
 z146:=Tryz.sizeOf403
 v146:=Tryz.zeroValue403
 g1:=by kernel_rfl }
open Go.RowKit Go.Lib in
theorem Tryz.strings_Index_one (s:ByteArray) (c:UInt8) (w:World) :
  Calls Tryz.prog 261 #[.string s,.string ⟨#[c]⟩] w fun e w'=>e=.returned (.int .i64 (Lib.indexByte s.data.toList c))∧w'=w:=Any.strings_Index_one Tryz.lays143 s c w
def Tryz.lays138_ren:Go.Shelf.Ren:=⟨fun | 138=>260 | 195=>321 | 218=>323 | 143=>261 | 219=>289 | 217=>290 | 225=>351 | 224=>352 | 267=>353 | 266=>354 | 314=>416 | n=>n,fun | 9=>9 | 3=>3 | 4=>4 | 5=>5 | 0=>0 | 46=>275 | 146=>403 | 51=>62 | n=>n,fun | 1=>2 | n=>n⟩
theorem Tryz.lays138:Go.Proofs.Lays.n138 Tryz.prog Tryz.lays138_ren:={
 mixed:=by kernel_rfl
 f138:=Tryz.func260.trans (congrArg some Go.Sy.z_)
 f143:=Tryz.func261.trans (congrArg some Go.Sy.z_)
 f195:=Tryz.func321.trans (congrArg some Go.Sy.z_)
 f217:=Tryz.func290.trans (congrArg some Go.Sy.z_)
 f218:=Tryz.func323.trans (congrArg some Go.Sy.z_)
 f219:=Tryz.func289.trans (congrArg some Go.Sy.z_)
 f224:=Tryz.func352.trans (congrArg some Go.Sy.z_)
 f225:=Tryz.func351.trans (congrArg some Go.Sy.z_)
 f266:=Tryz.func354.trans (congrArg some Go.Sy.z_)
 f267:=Tryz.func353.trans (congrArg some Go.Sy.z_)
 f314:=Tryz.func416.trans (congrArg some Go.Sy.z_)
 t0:=Tryz.underlying0
 a0:=Tryz.isAgg0
 z0:=Tryz.sizeOf0
 v0:=Tryz.zeroValue0
 t3:=Tryz.underlying3
 a3:=Tryz.isAgg3
 z3:=Tryz.sizeOf3
 v3:=Tryz.zeroValue3
 t4:=Tryz.underlying4
 a4:=Tryz.isAgg4
 z4:=Tryz.sizeOf4
 v4:=Tryz.zeroValue4
 t5:=Tryz.underlying5
 a5:=Tryz.isAgg5
 z5:=Tryz.sizeOf5
 v5:=Tryz.zeroValue5
 t9:=Tryz.underlying9
 a9:=Tryz.isAgg9
 z9:=Tryz.sizeOf9
 v9:=Tryz.zeroValue9
 t46:=Tryz.underlying275
 a46:=Tryz.isAgg275
 z46:=Tryz.sizeOf275
 v46:=Tryz.zeroValue275
 t51:=Tryz.underlying62
 a51:=Tryz.isAgg62
 z51:=Tryz.sizeOf62
 v51:=Tryz.zeroValue62
 t146:=Tryz.underlying403
 a146:=Tryz.isAgg403
 z146:=Tryz.sizeOf403
 v146:=Tryz.zeroValue403
 g1:=by kernel_rfl }
open Go.RowKit Go.Lib in
theorem Tryz.strings_Count_one (s:ByteArray) (c:UInt8) (w:World) :
  Calls Tryz.prog 260 #[.string s,.string ⟨#[c]⟩] w fun e w'=>e=.returned (.int .i64 (Lib.countByte s.data.toList c))∧w'=w:=Any.strings_Count_one Tryz.lays138 s c w
end Go.Proofs
namespace Go.Sy.YtjenpnjajjplkaaGreatDoor
open Go.Proofs
theorem Ys (l:List ByteArray) (sep:ByteArray) (h0:l.length≤70368744177664) (h1:Lz l≤70368744177664) (h2:sep.size * l.length≤70368744177664) :
  Sy.Spec Tryz.prog 182 [.sl 1 Ak l,Ak sep] [] (Ak (Ct l sep)) [] :=
 Spec.of_calls fun κ w vs hi hr _=>by
  simp only[RdL]at hr
  obtain ⟨v,r,rfl,h3,u,r',rfl,h4,rfl⟩:=hr
  have h4':u=.string sep:=by simpa only [Ak,Rd] using h4
  subst h4'
  rcases Aa5 h3 with ⟨rfl,a,c,rfl⟩ | ⟨b,o,c,rfl,hc,hb,hcell⟩
  ·exact(Tryz.strings_Join_none a c sep w).mono fun e w' ⟨he,hw⟩=>⟨he,hw ▸ RowKit.Below.refl _ _⟩
  ·exact Tryz.strings_Join b o c l sep w hcell hb q_ hc (Ag5 h1 h2)
theorem Ad2 (s:ByteArray) (c:UInt8) (m:Int) (hm:Lib.indexByte s.data.toList c=m):Sy.Spec Tryz.prog 261 [Ak s,Ak ⟨#[c]⟩] [] (Aa m) [] :=
 Spec.of_calls fun κ w vs hi hr _=>by
  subst hm
  simp only[RdL]at hr
  obtain ⟨v,r,rfl,h3,u,r',rfl,h4,rfl⟩:=hr
  have h3':v=.string s:=by simpa only [Ak,Rd] using h3
  have h4':u=.string ⟨#[c]⟩:=by simpa only [Ak,Rd] using h4
  subst h3' h4'
  exact(Tryz.strings_Index_one s c w).mono fun e w' ⟨he,hw⟩=>⟨he,hw ▸ RowKit.Below.refl _ _⟩
theorem Ad3 (s:ByteArray) (c:UInt8) (n:Nat) (hn:s.data.toList.count c=n):Sy.Spec Tryz.prog 260 [Ak s,Ak ⟨#[c]⟩] [] (Aa n) [] :=
 Spec.of_calls fun κ w vs hi hr _=>by
  subst hn
  simp only[RdL]at hr
  obtain ⟨v,r,rfl,h3,u,r',rfl,h4,rfl⟩:=hr
  have h3':v=.string s:=by simpa only [Ak,Rd] using h3
  have h4':u=.string ⟨#[c]⟩:=by simpa only [Ak,Rd] using h4
  subst h3' h4'
  exact(Tryz.strings_Count_one s c w).mono fun e w' ⟨he,hw⟩=>⟨he,hw ▸ RowKit.Below.refl _ _⟩
def Jq (c:UInt8) (l:List UInt8):Nat:=(Lib.indexByte l c).toNat
def Bi (c:UInt8) (l:List UInt8):Nat→List UInt8
 | 0=>l
 | j+1=>(Bi c l j).drop (Jq c (Bi c l j)+1)
def D6 (c:UInt8) (l:List UInt8) (j:Nat):List UInt8:=(Bi c l j).take (Jq c (Bi c l j))
def mkT (l:List UInt8):ByteArray:=⟨l.toArray⟩
def An (c:UInt8) (s:ByteArray):List ByteArray :=
 (List.range (s.data.toList.count c)).map (fun j=>mkT (D6 c s.data.toList j))++[mkT (Bi c s.data.toList (s.data.toList.count c))]
theorem D1:∀ {l:List UInt8} {c:UInt8},c∈l→0≤Lib.indexByte l c∧(Lib.indexByte l c).toNat<l.length
 | b::l,c,h=>by
  unfold Lib.indexByte
  by_cases hb:b == c
  ·rw[if_pos hb];simp
  ·rw[if_neg hb]
   have hm':c∈l:=by
    rcases List.mem_cons.1 h with h | h
    ·exact absurd (by simp[h]) hb
    ·exact h
   have:=D1 hm'
   rw[if_neg (by simp;omega)]
   simp only[List.length_cons]
   omega
theorem Ju:∀ {l:List UInt8} {c:UInt8},c∈l→(l.drop (Jq c l+1)).count c+1=l.count c
 | b::l,c,h=>by
  unfold Jq Lib.indexByte
  by_cases hb:b == c
  ·rw[if_pos hb,List.count_cons,if_pos hb];simp
  ·rw[if_neg hb]
   have hm':c∈l:=by
    rcases List.mem_cons.1 h with h | h
    ·exact absurd (by simp[h]) hb
    ·exact h
   have h1:=D1 hm'
   rw[if_neg (by simp;omega),List.count_cons,if_neg hb,Nat.add_zero,← Ju hm']
   have e:(Lib.indexByte l c+1).toNat=Jq c l+1:=by unfold Jq;omega
   rw[e,List.drop_succ_cons]
theorem Mv (c:UInt8) (l:List UInt8):∀ j,j≤l.count c→(Bi c l j).count c+j=l.count c
 | 0,_=>rfl
 | j+1,h=>by
  have ih:=Mv c l j q_
  have hm':c∈Bi c l j:=List.count_pos_iff.1 q_
  have:=Ju hm'
  rw[Bi]
  omega
theorem Ub {c:UInt8} {l:List UInt8} {j:Nat} (h:j<l.count c):c∈Bi c l j :=
 List.count_pos_iff.1 (by have:=Mv c l j q_;omega)
def Ha (c:UInt8) (s:ByteArray):Nat:=s.data.toList.count c
def H2 (c:UInt8) (s:ByteArray) (j:Nat):List ByteArray :=
 (List.range j).map (fun j=>mkT (D6 c s.data.toList j))++List.replicate (Ha c s+1-j) ⟨#[]⟩
theorem Vk (c:UInt8) (s:ByteArray) (j:Nat) (h:j≤Ha c s):(H2 c s j).length=Ha c s+1:=by
 simp only[H2,List.length_append,List.length_map,List.length_range,List.length_replicate];omega
theorem Yw (c:UInt8) (s:ByteArray):H2 c s 0=List.replicate (Ha c s+1) ⟨#[]⟩:=by
 simp[H2]
theorem Yx (c:UInt8) (s:ByteArray) (j:Nat) (h:j<Ha c s):H2 c s (j+1)=(H2 c s j).set j (mkT (D6 c s.data.toList j)):=by
 have e:Ha c s+1-j=(Ha c s+1-(j+1))+1:=by omega
 have el:((List.range j).map (fun j=>mkT (D6 c s.data.toList j))).length=j:=by simp
 rw[H2,H2,List.set_append_right _ _ q_,el,Nat.sub_self,List.range_succ,List.map_append,e,List.replicate_succ,List.set_cons_zero]
 simp
theorem Abi (c:UInt8) (s:ByteArray):(H2 c s (Ha c s)).set (Ha c s) (mkT (Bi c s.data.toList (Ha c s)))=An c s:=by
 have e:Ha c s+1-Ha c s=0+1:=by omega
 have el:((List.range (Ha c s)).map (fun j=>mkT (D6 c s.data.toList j))).length=Ha c s:=by simp
 rw[H2,List.set_append_right _ _ q_,el,Nat.sub_self,e,List.replicate_succ,List.set_cons_zero]
 rfl
theorem Ds (c:UInt8) (s:ByteArray):(An c s).length=Ha c s+1:=by simp only[An,List.length_append,List.length_map,List.length_range,List.length_singleton];rfl
theorem Kh (c:UInt8) (l:List UInt8):∀ j,(Bi c l j).length≤l.length
 | 0=>Nat.le_refl _
 | j+1=>by rw[Bi,List.length_drop];have:=Kh c l j;omega
theorem Aac {a b:ByteArray} (h:a.data.toList=b.data.toList):a=b:=by
 cases a;cases b;simp only[ByteArray.mk.injEq];exact Array.toList_inj.1 h
theorem Df (l:List UInt8):(mkT l).size=l.length:=by simp[mkT,ByteArray.size]
theorem Cf (l:List UInt8):(mkT l).data.toList=l:=by simp[mkT]
theorem Ii (l:List UInt8) (i j:Nat):(mkT l).extract i j=mkT ((l.take j).drop i):=by
 apply Aac
 simp[mkT,ByteArray.data_extract,List.extract_eq_take_drop,List.drop_take]
theorem H6 (s:ByteArray):mkT s.data.toList=s:=Aac (by simp[mkT])
theorem Zg {c:UInt8} {s:ByteArray} {j m:Nat} (h:Lib.indexByte (Bi c s.data.toList j) c=m):D6 c s.data.toList j=(Bi c s.data.toList j).take m:=by
 rw[D6,Jq,h,Int.toNat_natCast]
theorem Ac6 {c:UInt8} {s:ByteArray} {j m:Nat} (h:Lib.indexByte (Bi c s.data.toList j) c=m):Bi c s.data.toList (j+1)=(Bi c s.data.toList j).drop (m+1):=by
 rw[Bi,Jq,h,Int.toNat_natCast]
set_option maxRecDepth 20000 in
theorem Ae5 (s:ByteArray) (c:UInt8) (hs:s.size<100000):Sy.Spec Tryz.prog 186 [Ak s,Ak ⟨#[c]⟩,Aa 0,Aa (-1)] [] (.sl 1 Ak (An c s)) []:=cT F186 Tryz.ntmps186 fun F hF=>by
 have hcl:Ha c s≤s.size:=List.count_le_length
 have h0:=Yw c s
 have hend:=Abi c s
 have hlen:=Vk c s
 have hsucc:=Yx c s
 have hthere:∀ j,j<Ha c s→c∈Bi c s.data.toList j:=fun j hj=>Ub hj
 have hle:=Kh c s.data.toList
 have hsz:s.data.toList.length=s.size:=rfl
 have hp:=fun j m=>Zg (c:=c) (s:=s) (j:=j) (m:=m)
 have hq:=fun j m=>Ac6 (c:=c) (s:=s) (j:=j) (m:=m)
 obtain ⟨n,hn⟩:∃ n,Ha c s=n:=⟨_,rfl⟩
 rw[hn]at hcl h0 hend hlen hsucc hthere
 ((conv=>whnf);repeat((first|refine aF ?_|refine aT ?_);(first|refine rG Γ hm ?_|refine rD Γ hm z_ ?_);conv=>whnf))
 refine c0 (Ad3 s c n hn) F260 ?_
 ((first|refine rG Γ hm ?_|refine rD Γ hm z_ ?_);(conv=>whnf);repeat((first|refine aF ?_|refine aT ?_);(first|refine rG Γ hm ?_|refine rD Γ hm z_ ?_);conv=>whnf))
 refine iL ?_
 ((conv=>whnf);repeat((first|refine aF ?_|refine aT ?_);(first|refine rG Γ hm ?_|refine rD Γ hm z_ ?_);conv=>whnf))
 refine iL ?_
 ((conv=>whnf);repeat((first|refine aF ?_|refine aT ?_);(first|refine rG Γ hm ?_|refine rD Γ hm z_ ?_);conv=>whnf))
 refine A2 (Z4 E E E q_) E E ?_
 ((first|refine rG Γ hm ?_|refine rD Γ hm z_ ?_);(conv=>whnf);repeat((first|refine aF ?_|refine aT ?_);(first|refine rG Γ hm ?_|refine rD Γ hm z_ ?_);conv=>whnf))
 refine A2 (Eb Γ.toTy (d:=31) (n:=n+1) Ak ⟨#[]⟩ E E E E E E (congrArg (fun z=>SV.val (.int .i64 z)) (Int.natCast_succ n).symm) (congrArg (fun z=>SV.val (.int .i64 z)) (Int.natCast_succ n).symm) q_ q_ E E E) E E ?_
 rw[← h0]
 clear h0
 ((first|refine rG Γ hm ?_|refine rD Γ hm z_ ?_);(conv=>whnf);repeat((first|refine aF ?_|refine aT ?_);(first|refine rG Γ hm ?_|refine rD Γ hm z_ ?_);conv=>whnf))
 refine iL ?_
 ((conv=>whnf);repeat((first|refine aF ?_|refine aT ?_);(first|refine rG Γ hm ?_|refine rD Γ hm z_ ?_);conv=>whnf))
 generalize hR:Bi c s.data.toList=rest at *
 generalize hU:H2 c s=u at *
 generalize hP:D6 c s.data.toList=piece at *
 refine By n (fun j=>[(0,Ak (mkT (rest j))),(1,Ak ⟨#[c]⟩),(2,Aa 0),(3,Aa n),(9,.osl 31),(10,Aa j)]) (fun j=>[(31,.row 1 Ak (u j))]) []
  ⟨⟨congrArg Ak (by rw[← hR];exact(H6 s).symm),rfl,rfl,rfl,rfl,rfl,congrArg (fun z=>SV.val (.int .i64 z)) q_,rfl,rfl,rfl,rfl,rfl,trivial⟩,⟨.inl rfl,rfl,trivial⟩,rfl,rfl⟩ ?_
 intro j hj
 have hlj:=hlen j hj
 have hlr:=hle j
 have hc1:((⟨#[c]⟩:ByteArray).size:Int)=1:=rfl
 ((first|refine rG Γ hm ?_|refine rD Γ hm z_ ?_);(conv=>whnf);repeat((first|refine aF ?_|refine aT ?_);(first|refine rG Γ hm ?_|refine rD Γ hm z_ ?_);conv=>whnf))
 refine⟨fun h=>?_,fun h=>?_⟩
 ·have hlt:j<n:=by simpa using h
  have hi:=D1 (hthere j hlt)
  have hpj:=hp j
  have hqj:=hq j
  have hsj:=hsucc j hlt
  generalize hrj:rest j=r at *
  generalize u j=uj at *
  obtain ⟨m,hm'⟩:∃ m:Nat,Lib.indexByte r c=m:=⟨(Lib.indexByte r c).toNat,by omega⟩
  have hpm:=hpj m hm'
  have hqm:=hqj m hm'
  rw[hm',Int.toNat_natCast]at hi
  have hsm:=Df r
  ((first|refine rG Γ hm ?_|refine rD Γ hm z_ ?_);(conv=>whnf);repeat((first|refine aF ?_|refine aT ?_);(first|refine rG Γ hm ?_|refine rD Γ hm z_ ?_);conv=>whnf))
  refine c0 (Ad2 (mkT r) c m (by rw[Cf];exact hm')) F261 ?_
  ((first|refine rG Γ hm ?_|refine rD Γ hm z_ ?_);(conv=>whnf);repeat((first|refine aF ?_|refine aT ?_);(first|refine rG Γ hm ?_|refine rD Γ hm z_ ?_);conv=>whnf))
  refine iL ?_
  ((conv=>whnf);repeat((first|refine aF ?_|refine aT ?_);(first|refine rG Γ hm ?_|refine rD Γ hm z_ ?_);conv=>whnf))
  refine⟨⟨by omega,by omega,by omega⟩,?_⟩
  ((conv=>whnf);repeat((first|refine aF ?_|refine aT ?_);(first|refine rG Γ hm ?_|refine rD Γ hm z_ ?_);conv=>whnf))
  refine⟨by omega,by omega,?_⟩
  ((conv=>whnf);repeat((first|refine aF ?_|refine aT ?_);(first|refine rG Γ hm ?_|refine rD Γ hm z_ ?_);conv=>whnf))
  have hx:(mkT r).extract (Int.toNat 0) ((m:Int)+0).toNat=mkT (r.take m):=by
   rw[Ii];simp
  have hy:(mkT r).extract ((m:Int)+((⟨#[c]⟩:ByteArray).size:Nat)).toNat (((mkT r).size:Nat):Int).toNat=mkT (r.drop (m+1)):=by
   rw[Ii,hc1,Df,Int.toNat_natCast,List.take_length]
   rfl
  refine⟨E,by omega,mkT (r.take m),congrArg (fun z=>[Ak z]) hx.symm,E,?_⟩
  ((conv=>whnf);repeat((first|refine aF ?_|refine aT ?_);(first|refine rG Γ hm ?_|refine rD Γ hm z_ ?_);conv=>whnf))
  refine iL ?_
  ((conv=>whnf);repeat((first|refine aF ?_|refine aT ?_);(first|refine rG Γ hm ?_|refine rD Γ hm z_ ?_);conv=>whnf))
  refine⟨⟨by omega,by omega,by omega⟩,?_⟩
  ((conv=>whnf);repeat((first|refine aF ?_|refine aT ?_);(first|refine rG Γ hm ?_|refine rD Γ hm z_ ?_);conv=>whnf))
  refine iL ?_
  ((conv=>whnf);repeat((first|refine aF ?_|refine aT ?_);(first|refine rG Γ hm ?_|refine rD Γ hm z_ ?_);conv=>whnf))
  refine Bs [] q_ ⟨⟨congrArg Ak (by rw[hqm];exact hy.symm),E,E,E,E,E,E,E,E,E,E,E,Y⟩,⟨.inl (congrArg (Ob.row 1 Ak) (by rw[hsj,hpm];rfl)),E,Y⟩,E,E⟩
 ·have:j=n:=qB h
  subst this
  ((first|refine rG Γ hm ?_|refine rD Γ hm z_ ?_);(conv=>whnf);repeat((first|refine aF ?_|refine aT ?_);(first|refine rG Γ hm ?_|refine rD Γ hm z_ ?_);conv=>whnf))
  refine⟨by omega,by omega,?_⟩
  ((conv=>whnf);repeat((first|refine aF ?_|refine aT ?_);(first|refine rG Γ hm ?_|refine rD Γ hm z_ ?_);conv=>whnf))
  refine⟨E,by omega,mkT (rest j),E,E,?_⟩
  ((conv=>whnf);repeat((first|refine aF ?_|refine aT ?_);(first|refine rG Γ hm ?_|refine rD Γ hm z_ ?_);conv=>whnf))
  refine iL ?_
  ((conv=>whnf);repeat((first|refine aF ?_|refine aT ?_);(first|refine rG Γ hm ?_|refine rD Γ hm z_ ?_);conv=>whnf))
  refine A2 (U0 Γ.toTy (d:=65) (hi:=j+1) E E E E E j_ E (.inl ⟨E,E⟩) (.inr ⟨_,_,E,congrArg (fun z=>SV.val (.int .i64 z)) (Int.natCast_succ j).symm⟩) (by rw[List.length_set];omega)) E E ?_
  have hE:((u j).set ((j:Int).toNat) (mkT (rest j))).take (j+1)=An c s:=by
   rw[← hend,List.take_of_length_le (by rw[List.length_set];omega)]
   rfl
  rw[hE]
  refine Ah 65 E ?_
  ((first|refine rG Γ hm ?_|refine rD Γ hm z_ ?_);(conv=>whnf);repeat((first|refine aF ?_|refine aT ?_);(first|refine rG Γ hm ?_|refine rD Γ hm z_ ?_);conv=>whnf))
  exact dN
theorem Abj (s:ByteArray) (c:UInt8) (hs:s.size<100000):Sy.Spec Tryz.prog 92 [Ak s,Ak ⟨#[c]⟩] [] (.sl 1 Ak (An c s)) []:=cT F92 Tryz.ntmps92 fun F hF=>by
 have q:=Ae5 s c hs
 generalize An c s=l at *
 ((conv=>whnf);repeat((first|refine aF ?_|refine aT ?_);(first|refine rG Γ hm ?_|refine rD Γ hm z_ ?_);conv=>whnf))
 refine c0 q F186 ?_
 ((first|refine rG Γ hm ?_|refine rD Γ hm z_ ?_);(conv=>whnf);repeat((first|refine aF ?_|refine aT ?_);(first|refine rG Γ hm ?_|refine rD Γ hm z_ ?_);conv=>whnf))
 exact dN
end Go.Sy.YtjenpnjajjplkaaGreatDoor
namespace Go.Sy.YtjenpnjajjplkaaGreatDoor
open Go.Proofs
attribute [local irreducible] Go.Sy.G Go.Sy.DR
set_option maxRecDepth 20000
set_option maxHeartbeats 4000000
def Hu (c:UInt8):Bool:=decide (48≤c.toNat) && decide (c.toNat≤57)
def Jb (s:ByteArray):Nat→Int
 | 0=>0
 | j+1=>10 * Jb s j+((Bt s j).toNat-48)
def W5 (s:ByteArray):Bool:=(List.range s.size).all fun i=>Hu (Bt s i)
def smallT (s:ByteArray) (most:Int):Int × Bool :=
 if s.size=0∨3<s.size∨(1<s.size∧(Bt s 0).toNat=48)∨W5 s=false then (0,false) else (Jb s s.size,decide (Jb s s.size≤most))
theorem O8 {s:ByteArray} {i:Nat} (hi:i<s.size) (h:Hu (Bt s i)=false):W5 s=false:=by
 rw[W5,List.all_eq_false]
 exact⟨i,by simpa using hi,by simp[h]⟩
theorem Sa {s:ByteArray} (h:∀ i,i<s.size→Hu (Bt s i)=true):W5 s=true:=by
 rw[W5,List.all_eq_true]
 intro i hi
 exact h i (by simpa using hi)
theorem digB_iff {c:UInt8}:Hu c=true↔48≤c.toNat∧c.toNat≤57:=by simp[Hu]
theorem Xe {s:ByteArray}:∀ {j:Nat},(∀ i,i<j→Hu (Bt s i)=true)→0≤Jb s j∧Jb s j<10 ^ j
 | 0,_=>by simp[Jb]
 | j+1,h=>by
  have ih:=Xe (s:=s) (j:=j) (fun i hi=>h i q_)
  have hd:=digB_iff.1 (h j q_)
  rw[Jb]
  have e:(10:Int) ^ (j+1)=10 * 10 ^ j:=by rw[Int.pow_succ];omega
  rw[e]
  omega
theorem Afu {n:Nat} (h:48≤n) (h2:n<256):IntKind.u8.wrap ((n:Int)-48)=(n:Int)-48:=by
 rw[IntKind.wrap_u8]
 omega
theorem Ahc {n:Int} (h:0≤n) (h2:n<256):IntKind.i64.wrap n=n:=by
 rw[IntKind.wrap_i64]
 omega
theorem Acz (s:ByteArray) (most:Int):Sy.Spec Tryz.prog 304 [Ak s,Aa most] [] (.tup [Aa (smallT s most).1,Ab (smallT s most).2]) []:=cT F304 Tryz.ntmps304 fun F hF=>by
 have hlk:=smallT.eq_1 s most
 generalize smallT s most=res at *
 ((conv=>whnf);repeat((first|refine aF ?_|refine aT ?_);(first|refine rG Γ hm ?_|refine rD Γ hm z_ ?_);conv=>whnf))
 refine⟨fun h=>?_,fun h=>?_⟩
 ·have h1:s.size=0:=by simpa using h
  rw[if_pos (.inl h1)]at hlk
  subst hlk
  ((first|refine rG Γ hm ?_|refine rD Γ hm z_ ?_);(conv=>whnf);repeat((first|refine aF ?_|refine aT ?_);(first|refine rG Γ hm ?_|refine rD Γ hm z_ ?_);conv=>whnf))
  exact dN
 have h1:¬ s.size=0:=by simpa using h
 ((first|refine rG Γ hm ?_|refine rD Γ hm z_ ?_);(conv=>whnf);repeat((first|refine aF ?_|refine aT ?_);(first|refine rG Γ hm ?_|refine rD Γ hm z_ ?_);conv=>whnf))
 refine⟨fun h=>?_,fun h=>?_⟩
 ·have h2:3<s.size:=qA h
  rw[if_pos (.inr (.inl h2))]at hlk
  subst hlk
  ((first|refine rG Γ hm ?_|refine rD Γ hm z_ ?_);(conv=>whnf);repeat((first|refine aF ?_|refine aT ?_);(first|refine rG Γ hm ?_|refine rD Γ hm z_ ?_);conv=>whnf))
  exact dN
 have h2:¬ 3<s.size:=qB h
 ((first|refine rG Γ hm ?_|refine rD Γ hm z_ ?_);(conv=>whnf);repeat((first|refine aF ?_|refine aT ?_);(first|refine rG Γ hm ?_|refine rD Γ hm z_ ?_);conv=>whnf))
 refine⟨fun h=>?_,fun h=>?_⟩
 ·have h3:1<s.size:=qA h
  ((first|refine rG Γ hm ?_|refine rD Γ hm z_ ?_);(conv=>whnf);repeat((first|refine aF ?_|refine aT ?_);(first|refine rG Γ hm ?_|refine rD Γ hm z_ ?_);conv=>whnf))
  refine⟨by decide,by simp;omega,?_⟩
  ((conv=>whnf);repeat((first|refine aF ?_|refine aT ?_);(first|refine rG Γ hm ?_|refine rD Γ hm z_ ?_);conv=>whnf))
  refine⟨fun h=>?_,fun h=>?_⟩
  ·have h4:(Bt s 0).toNat=48:=by have:=h;simp at this;omega
   rw[if_pos (.inr (.inr (.inl ⟨h3,h4⟩)))]at hlk
   subst hlk
   ((first|refine rG Γ hm ?_|refine rD Γ hm z_ ?_);(conv=>whnf);repeat((first|refine aF ?_|refine aT ?_);(first|refine rG Γ hm ?_|refine rD Γ hm z_ ?_);conv=>whnf))
   exact dN
  have h34:¬ (1<s.size∧(Bt s 0).toNat=48):=by
   intro e
   have:=h
   simp at this
   omega
  ((first|refine rG Γ hm ?_|refine rD Γ hm z_ ?_);(conv=>whnf);repeat((first|refine aF ?_|refine aT ?_);(first|refine rG Γ hm ?_|refine rD Γ hm z_ ?_);conv=>whnf))
  refine Az s.size (fun j=>∀ i,i<j→Hu (Bt s i)=true) (fun j=>[(0,Ak s),(1,Aa most),(6,Aa (Jb s j)),(27,Aa s.size),(28,Aa j)]) (fun _=>[]) [] (fun i hi=>absurd hi q_) ⟨⟨E,E,E,E,E,E,E,E,E,E,Y⟩,Y,E,E⟩ ?_
  intro j hj hI
  have hv:=Xe hI
  have hp:(10:Int) ^ j≤1000:=by
   have:j=0∨j=1∨j=2∨j=3:=by omega
   rcases this with rfl | rfl | rfl | rfl<;>decide
  have hsu:Jb s (j+1)=10 * Jb s j+((Bt s j).toNat-48):=rfl
  have hjn:((j:Nat):Int).toNat=j:=Int.toNat_natCast j
  have hb:=(Bt s j).toNat_lt
  generalize hvj:Jb s j=v at *
  ((first|refine rG Γ hm ?_|refine rD Γ hm z_ ?_);(conv=>whnf);repeat((first|refine aF ?_|refine aT ?_);(first|refine rG Γ hm ?_|refine rD Γ hm z_ ?_);conv=>whnf))
  refine⟨fun h=>?_,fun h=>?_⟩
  ·have hlt:j<s.size:=by simpa using h
   ((first|refine rG Γ hm ?_|refine rD Γ hm z_ ?_);(conv=>whnf);repeat((first|refine aF ?_|refine aT ?_);(first|refine rG Γ hm ?_|refine rD Γ hm z_ ?_);conv=>whnf))
   refine⟨by omega,by simpa using hlt,?_⟩
   rw[hjn]
   ((conv=>whnf);repeat((first|refine aF ?_|refine aT ?_);(first|refine rG Γ hm ?_|refine rD Γ hm z_ ?_);conv=>whnf))
   refine⟨fun h=>?_,fun h=>?_⟩
   ·have h5:¬ 48≤(Bt s j).toNat:=qA h
    rw[if_pos (.inr (.inr (.inr (O8 hlt (by simp only[Hu,Bool.and_eq_false_iff,decide_eq_false_iff_not];exact .inl h5)))))]at hlk
    subst hlk
    ((first|refine rG Γ hm ?_|refine rD Γ hm z_ ?_);(conv=>whnf);repeat((first|refine aF ?_|refine aT ?_);(first|refine rG Γ hm ?_|refine rD Γ hm z_ ?_);conv=>whnf))
    exact dN
   have h5:48≤(Bt s j).toNat:=qB h
   ((first|refine rG Γ hm ?_|refine rD Γ hm z_ ?_);(conv=>whnf);repeat((first|refine aF ?_|refine aT ?_);(first|refine rG Γ hm ?_|refine rD Γ hm z_ ?_);conv=>whnf))
   refine⟨by omega,by simpa using hlt,?_⟩
   rw[hjn]
   ((conv=>whnf);repeat((first|refine aF ?_|refine aT ?_);(first|refine rG Γ hm ?_|refine rD Γ hm z_ ?_);conv=>whnf))
   refine⟨fun h=>?_,fun h=>?_⟩
   ·have h6:¬ (Bt s j).toNat≤57:=qA h
    rw[if_pos (.inr (.inr (.inr (O8 hlt (by simp only[Hu,Bool.and_eq_false_iff,decide_eq_false_iff_not];exact .inr h6)))))]at hlk
    subst hlk
    ((first|refine rG Γ hm ?_|refine rD Γ hm z_ ?_);(conv=>whnf);repeat((first|refine aF ?_|refine aT ?_);(first|refine rG Γ hm ?_|refine rD Γ hm z_ ?_);conv=>whnf))
    exact dN
   have h6:(Bt s j).toNat≤57:=qB h
   ((first|refine rG Γ hm ?_|refine rD Γ hm z_ ?_);(conv=>whnf);repeat((first|refine aF ?_|refine aT ?_);(first|refine rG Γ hm ?_|refine rD Γ hm z_ ?_);conv=>whnf))
   refine iL ?_
   ((conv=>whnf);repeat((first|refine aF ?_|refine aT ?_);(first|refine rG Γ hm ?_|refine rD Γ hm z_ ?_);conv=>whnf))
   refine⟨by omega,by simpa using hlt,?_⟩
   rw[hjn]
   ((conv=>whnf);repeat((first|refine aF ?_|refine aT ?_);(first|refine rG Γ hm ?_|refine rD Γ hm z_ ?_);conv=>whnf))
   rw[Afu h5 hb,Ahc q_ q_]
   refine iL ?_
   ((conv=>whnf);repeat((first|refine aF ?_|refine aT ?_);(first|refine rG Γ hm ?_|refine rD Γ hm z_ ?_);conv=>whnf))
   refine iL ?_
   ((conv=>whnf);repeat((first|refine aF ?_|refine aT ?_);(first|refine rG Γ hm ?_|refine rD Γ hm z_ ?_);conv=>whnf))
   refine Ay [] hI q_ (fun i hi=>?_) ⟨⟨E,E,E,E,congrArg Aa hsu,E,E,E,E,E,Y⟩,Y,E,E⟩
   by_cases hij:i=j
   ·subst hij;exact digB_iff.2 ⟨h5,h6⟩
   ·exact hI i q_
  ·have:j=s.size:=qB h
   subst this
   rw[if_neg (by rw[Sa hI];simp only[h1,h2,false_or,Bool.true_eq_false,or_false];exact h34),hvj]at hlk
   subst hlk
   ((first|refine rG Γ hm ?_|refine rD Γ hm z_ ?_);(conv=>whnf);repeat((first|refine aF ?_|refine aT ?_);(first|refine rG Γ hm ?_|refine rD Γ hm z_ ?_);conv=>whnf))
   exact dN
 ·have h34:¬ (1<s.size∧(Bt s 0).toNat=48):=qB h
  ((first|refine rG Γ hm ?_|refine rD Γ hm z_ ?_);(conv=>whnf);repeat((first|refine aF ?_|refine aT ?_);(first|refine rG Γ hm ?_|refine rD Γ hm z_ ?_);conv=>whnf))
  refine Az s.size (fun j=>∀ i,i<j→Hu (Bt s i)=true) (fun j=>[(0,Ak s),(1,Aa most),(6,Aa (Jb s j)),(27,Aa s.size),(28,Aa j)]) (fun _=>[]) [] (fun i hi=>absurd hi q_) ⟨⟨E,E,E,E,E,E,E,E,E,E,Y⟩,Y,E,E⟩ ?_
  intro j hj hI
  have hv:=Xe hI
  have hp:(10:Int) ^ j≤1000:=by
   have:j=0∨j=1∨j=2∨j=3:=by omega
   rcases this with rfl | rfl | rfl | rfl<;>decide
  have hsu:Jb s (j+1)=10 * Jb s j+((Bt s j).toNat-48):=rfl
  have hjn:((j:Nat):Int).toNat=j:=Int.toNat_natCast j
  have hb:=(Bt s j).toNat_lt
  generalize hvj:Jb s j=v at *
  ((first|refine rG Γ hm ?_|refine rD Γ hm z_ ?_);(conv=>whnf);repeat((first|refine aF ?_|refine aT ?_);(first|refine rG Γ hm ?_|refine rD Γ hm z_ ?_);conv=>whnf))
  refine⟨fun h=>?_,fun h=>?_⟩
  ·have hlt:j<s.size:=by simpa using h
   ((first|refine rG Γ hm ?_|refine rD Γ hm z_ ?_);(conv=>whnf);repeat((first|refine aF ?_|refine aT ?_);(first|refine rG Γ hm ?_|refine rD Γ hm z_ ?_);conv=>whnf))
   refine⟨by omega,by simpa using hlt,?_⟩
   rw[hjn]
   ((conv=>whnf);repeat((first|refine aF ?_|refine aT ?_);(first|refine rG Γ hm ?_|refine rD Γ hm z_ ?_);conv=>whnf))
   refine⟨fun h=>?_,fun h=>?_⟩
   ·have h5:¬ 48≤(Bt s j).toNat:=qA h
    rw[if_pos (.inr (.inr (.inr (O8 hlt (by simp only[Hu,Bool.and_eq_false_iff,decide_eq_false_iff_not];exact .inl h5)))))]at hlk
    subst hlk
    ((first|refine rG Γ hm ?_|refine rD Γ hm z_ ?_);(conv=>whnf);repeat((first|refine aF ?_|refine aT ?_);(first|refine rG Γ hm ?_|refine rD Γ hm z_ ?_);conv=>whnf))
    exact dN
   have h5:48≤(Bt s j).toNat:=qB h
   ((first|refine rG Γ hm ?_|refine rD Γ hm z_ ?_);(conv=>whnf);repeat((first|refine aF ?_|refine aT ?_);(first|refine rG Γ hm ?_|refine rD Γ hm z_ ?_);conv=>whnf))
   refine⟨by omega,by simpa using hlt,?_⟩
   rw[hjn]
   ((conv=>whnf);repeat((first|refine aF ?_|refine aT ?_);(first|refine rG Γ hm ?_|refine rD Γ hm z_ ?_);conv=>whnf))
   refine⟨fun h=>?_,fun h=>?_⟩
   ·have h6:¬ (Bt s j).toNat≤57:=qA h
    rw[if_pos (.inr (.inr (.inr (O8 hlt (by simp only[Hu,Bool.and_eq_false_iff,decide_eq_false_iff_not];exact .inr h6)))))]at hlk
    subst hlk
    ((first|refine rG Γ hm ?_|refine rD Γ hm z_ ?_);(conv=>whnf);repeat((first|refine aF ?_|refine aT ?_);(first|refine rG Γ hm ?_|refine rD Γ hm z_ ?_);conv=>whnf))
    exact dN
   have h6:(Bt s j).toNat≤57:=qB h
   ((first|refine rG Γ hm ?_|refine rD Γ hm z_ ?_);(conv=>whnf);repeat((first|refine aF ?_|refine aT ?_);(first|refine rG Γ hm ?_|refine rD Γ hm z_ ?_);conv=>whnf))
   refine iL ?_
   ((conv=>whnf);repeat((first|refine aF ?_|refine aT ?_);(first|refine rG Γ hm ?_|refine rD Γ hm z_ ?_);conv=>whnf))
   refine⟨by omega,by simpa using hlt,?_⟩
   rw[hjn]
   ((conv=>whnf);repeat((first|refine aF ?_|refine aT ?_);(first|refine rG Γ hm ?_|refine rD Γ hm z_ ?_);conv=>whnf))
   rw[Afu h5 hb,Ahc q_ q_]
   refine iL ?_
   ((conv=>whnf);repeat((first|refine aF ?_|refine aT ?_);(first|refine rG Γ hm ?_|refine rD Γ hm z_ ?_);conv=>whnf))
   refine iL ?_
   ((conv=>whnf);repeat((first|refine aF ?_|refine aT ?_);(first|refine rG Γ hm ?_|refine rD Γ hm z_ ?_);conv=>whnf))
   refine Ay [] hI q_ (fun i hi=>?_) ⟨⟨E,E,E,E,congrArg Aa hsu,E,E,E,E,E,Y⟩,Y,E,E⟩
   by_cases hij:i=j
   ·subst hij;exact digB_iff.2 ⟨h5,h6⟩
   ·exact hI i q_
  ·have:j=s.size:=qB h
   subst this
   rw[if_neg (by rw[Sa hI];simp only[h1,h2,false_or,Bool.true_eq_false,or_false];exact h34),hvj]at hlk
   subst hlk
   ((first|refine rG Γ hm ?_|refine rD Γ hm z_ ?_);(conv=>whnf);repeat((first|refine aF ?_|refine aT ?_);(first|refine rG Γ hm ?_|refine rD Γ hm z_ ?_);conv=>whnf))
   exact dN
end Go.Sy.YtjenpnjajjplkaaGreatDoor
namespace Go.Sy.YtjenpnjajjplkaaGreatDoor
open Go.Proofs
def Lp {α:Type} (l:List α) (j:Nat):List α:=List.ofFn fun i:Fin l.length=>if i.1<j∨l.length-j≤i.1 then l[l.length-1-i.1] else l[i.1]
theorem Cd {α:Type} (l:List α) (j:Nat):(Lp l j).length=l.length:=by simp[Lp]
theorem I3 {α:Type} (l:List α) (j i:Nat) (h:i<l.length):(Lp l j)[i]'(by rw[Cd];exact h)=if i<j∨l.length-j≤i then l[l.length-1-i] else l[i]:=by simp[Lp]
theorem Wh {α:Type} (l:List α):Lp l 0=l:=by
 apply List.ext_getElem (Cd l 0)
 intro i h1 h2
 rw[I3 l 0 i h2,if_neg q_]
theorem Y5 {α:Type} (l:List α) (j:Nat) (h:l.length≤2 * j+1):Lp l j=l.reverse:=by
 apply List.ext_getElem (by rw[Cd,List.length_reverse])
 intro i h1 h2
 have hi:i<l.length:=by rw[Cd]at h1;exact h1
 rw[I3 l j i hi,List.getElem_reverse]
 split
 ·rfl
 ·congr 1;omega
theorem Aei {α:Type} (l:List α) (j:Nat) (h:2 * j+1<l.length) :
  ((Lp l j).set j ((Lp l j)[l.length-1-j]'(by rw[Cd];omega))).set (l.length-1-j) ((Lp l j)[j]'(by rw[Cd];omega))=Lp l (j+1):=by
 apply List.ext_getElem (by simp only[List.length_set,Cd])
 intro i h1 h2
 have hi:i<l.length:=by rw[Cd]at h2;exact h2
 rw[List.getElem_set,List.getElem_set,I3 l (j+1) i hi,I3 l j i hi,I3 l j _ q_,I3 l j _ q_]
 by_cases e1:l.length-1-j=i
 ·rw[if_pos e1,if_neg q_,if_pos q_]
  congr 1;omega
 ·rw[if_neg e1]
  by_cases e2:j=i
  ·rw[if_pos e2,if_neg q_,if_pos q_]
   congr 1;omega
  ·rw[if_neg e2]
   by_cases e3:i<j∨l.length-j≤i
   ·rw[if_pos e3,if_pos q_]
   ·rw[if_neg e3,if_neg q_]
theorem Wi {α:Type} {l u:List α} {j k:Nat} (hu:Lp l j=u) (h:2 * j+1<l.length) (hk:l.length-1-j=k) (h1:k<u.length) (h2:j<u.length):(u.set j u[k]).set k u[j]=Lp l (j+1):=by
 subst hu hk
 exact Aei l j h
def revDigs (u:Nat):List UInt8:=if u<10 then [UInt8.ofNat (48+u)] else UInt8.ofNat (48+u % 10)::revDigs (u / 10)
theorem E0 (u:Nat):0<(revDigs u).length:=by
 rw[revDigs];split<;>simp
theorem E1:∀ (j u:Nat),j+1<(revDigs u).length↔0<u / 10 ^ (j+1)
 | 0,u=>by
  rw[revDigs]
  split
  ·simp;omega
  ·have:=E0 (u / 10)
   simp only[List.length_cons];omega
 | j+1,u=>by
  rw[revDigs]
  have e:u / 10 ^ (j+1+1)=u / 10 / 10 ^ (j+1):=by rw[Nat.div_div_eq_div_mul,Nat.pow_succ 10 (j+1),Nat.mul_comm (10 ^ (j+1))]
  rw[e]
  split
  ·have:u / 10=0:=by omega
   rw[this];simp
  ·rw[List.length_cons,← E1 j (u / 10)];omega
theorem Kf:∀ (j u:Nat) (h:j<(revDigs u).length),(revDigs u)[j]=UInt8.ofNat (48+u / 10 ^ j % 10)
 | 0,u,h=>by
  have e:(revDigs u)[0]=UInt8.ofNat (48+u % 10):=by
   simp only[revDigs.eq_1 u]
   split
   ·show UInt8.ofNat (48+u)=UInt8.ofNat (48+u % 10)
    rw[Nat.mod_eq_of_lt (by assumption)]
   ·rfl
  rw[e];simp
 | j+1,u,h=>by
  have hu:¬ u<10:=fun hu=>by rw[revDigs,if_pos hu]at h;simp at h
  have e0:revDigs u=UInt8.ofNat (48+u % 10)::revDigs (u / 10):=by rw[revDigs.eq_1 u,if_neg hu]
  have e:u / 10 ^ (j+1)=u / 10 / 10 ^ j:=by rw[Nat.div_div_eq_div_mul,Nat.pow_succ,Nat.mul_comm]
  have hl:j<(revDigs (u / 10)).length:=by rw[e0]at h;simpa using h
  have:=Kf j (u / 10) hl
  rw[e,← this]
  simp only[e0,List.getElem_cons_succ]
theorem Dt:∀ (k u:Nat),u<10 ^ k→(revDigs u).length≤k+1
 | 0,u,h=>by rw[revDigs,if_pos (by simp at h;omega)];simp
 | k+1,u,h=>by
  rw[revDigs]
  split
  ·simp
  ·have:=Dt k (u / 10) (by rw[Nat.pow_succ]at h;omega)
   simp only[List.length_cons];omega
def Agi (n:Int):List UInt8:=(revDigs n.natAbs++(if n<0 then [45] else [])).reverse
def Dx (n:Int):ByteArray:=mkT (Agi n)
theorem Uk (m:Nat):Agi m=(revDigs m).reverse:=by
 rw[Agi,Int.natAbs_natCast,if_neg q_,List.append_nil]
set_option maxRecDepth 20000 in
theorem Uf (m:Nat) (hb:m<9223372036854775808):Sy.Spec Tryz.prog 117 [Aa m] [] (Ak (Dx m)) []:=cT F117 Tryz.ntmps117 fun F hF=>by
 have hpos:=E0 m
 have hlen:=fun j=>E1 j m
 have hget:=fun j=>Kf j m
 have hsh:(revDigs m).length≤20:=Dt 19 m q_
 rw[Dx,Uk]
 generalize revDigs m=D at *
 ((conv=>whnf);repeat((first|refine aF ?_|refine aT ?_);(first|refine rG Γ hm ?_|refine rD Γ hm z_ ?_);conv=>whnf))
 refine Cq 3 1000 1 Cs E E ?_
 refine By D.length (fun j=>[(0,Aa m),(3,.osl 1000),(4,Ig (m / 10 ^ j:Nat)),(5,Ab (decide (j<D.length)))]) (fun j=>[(1000,.row 1 Cs (D.take j))]) []
  ⟨⟨rfl,rfl,rfl,rfl,congrArg (fun z=>SV.val (.int .u64 z)) (by rw[IntKind.wrap_u64];omega),rfl,congrArg Ab (decide_eq_true hpos),rfl,trivial⟩,⟨.inl rfl,rfl,trivial⟩,rfl,rfl⟩ ?_
 intro j hj
 ((first|refine rG Γ hm ?_|refine rD Γ hm z_ ?_);(conv=>whnf);repeat((first|refine aF ?_|refine aT ?_);(first|refine rG Γ hm ?_|refine rD Γ hm z_ ?_);conv=>whnf))
 refine⟨fun h=>?_,fun h=>?_⟩
 ·have hlt:j<D.length:=of_decide_eq_true h
  have hgj:=hget j hlt
  have hlj:=hlen j
  have e:m / 10 ^ (j+1)=m / 10 ^ j / 10:=by rw[Nat.div_div_eq_div_mul,Nat.pow_succ]
  have hq:m / 10 ^ j≤m:=Nat.div_le_self _ _
  rw[e]at hlj
  ((first|refine rG Γ hm ?_|refine rD Γ hm z_ ?_);(conv=>whnf);repeat((first|refine aF ?_|refine aT ?_);(first|refine rG Γ hm ?_|refine rD Γ hm z_ ?_);conv=>whnf))
  refine⟨by decide,?_⟩
  ((conv=>whnf);repeat((first|refine aF ?_|refine aT ?_);(first|refine rG Γ hm ?_|refine rD Γ hm z_ ?_);conv=>whnf))
  refine A2 (Ai Γ.toTy 23 E E E E E (.row E) (.lit (l:=[D[j]]) E ?_) y_ ?_ ?_) E E ?_
  ·rw[hgj]
   simp only[List.map_cons,List.map_nil,Cs]
   congr 3
   generalize m / 10 ^ j=q at *
   rw[Int.tmod_eq_emod_of_nonneg (Int.natCast_nonneg _),IntKind.wrap_u64,IntKind.wrap_u8]
   simp
  ·simp;omega
  ·simp;omega
  ((first|refine rG Γ hm ?_|refine rD Γ hm z_ ?_);(conv=>whnf);repeat((first|refine aF ?_|refine aT ?_);(first|refine rG Γ hm ?_|refine rD Γ hm z_ ?_);conv=>whnf))
  refine⟨by decide,?_⟩
  ((conv=>whnf);repeat((first|refine aF ?_|refine aT ?_);(first|refine rG Γ hm ?_|refine rD Γ hm z_ ?_);conv=>whnf))
  refine Bs [(1000,23)] hlt ⟨⟨E,E,E,E,congrArg (fun z=>SV.val (.int .u64 z)) ?_,E,congrArg Ab ?_,E,Y⟩,⟨.inl (congrArg (Ob.row 1 Cs) (List.take_succ_eq_append_getElem hlt)),E,Y⟩,E,E⟩
  ·rw[e,Int.tdiv_eq_ediv_of_nonneg (Int.natCast_nonneg _),IntKind.wrap_u64]
   generalize m / 10 ^ j=q at *
   omega
  ·rw[Int.tdiv_eq_ediv_of_nonneg (Int.natCast_nonneg _),IntKind.wrap_u64]
   generalize m / 10 ^ j=q at *
   refine decide_eq_decide.2 ?_
   omega
 ·have:j=D.length:=qB h
  subst this
  rw[List.take_length]
  ((first|refine rG Γ hm ?_|refine rD Γ hm z_ ?_);(conv=>whnf);repeat((first|refine aF ?_|refine aT ?_);(first|refine rG Γ hm ?_|refine rD Γ hm z_ ?_);conv=>whnf))
  refine iL ?_
  ((conv=>whnf);repeat((first|refine aF ?_|refine aT ?_);(first|refine rG Γ hm ?_|refine rD Γ hm z_ ?_);conv=>whnf))
  refine By (D.length / 2) (fun j=>[(3,.osl 1000),(6,Aa j),(7,Aa (D.length-1-j:Nat))]) (fun j=>[(1000,.row 1 Cs (Lp D j))]) []
   ⟨⟨rfl,rfl,rfl,rfl,congrArg (fun z=>SV.val (.int .i64 z)) q_,rfl,trivial⟩,⟨.inl (congrArg (Ob.row 1 Cs) (Wh D)),rfl,trivial⟩,rfl,rfl⟩ ?_
  intro i hi
  have hul:=Cd D i
  ((first|refine rG Γ hm ?_|refine rD Γ hm z_ ?_);(conv=>whnf);repeat((first|refine aF ?_|refine aT ?_);(first|refine rG Γ hm ?_|refine rD Γ hm z_ ?_);conv=>whnf))
  refine⟨fun h2=>?_,fun h2=>?_⟩
  ·have hlt:2 * i+1<D.length:=by have:=of_decide_eq_true h2;omega
   obtain ⟨u,hu⟩:∃ u,Lp D i=u:=⟨_,rfl⟩
   obtain ⟨k,hk⟩:∃ k,D.length-1-i=k:=⟨_,rfl⟩
   rw[hu]at hul
   have hs:=Wi hu hlt hk q_ q_
   rw[hu,hk]
   ((first|refine rG Γ hm ?_|refine rD Γ hm z_ ?_);(conv=>whnf);repeat((first|refine aF ?_|refine aT ?_);(first|refine rG Γ hm ?_|refine rD Γ hm z_ ?_);conv=>whnf))
   refine⟨by omega,by omega,?_⟩
   ((conv=>whnf);repeat((first|refine aF ?_|refine aT ?_);(first|refine rG Γ hm ?_|refine rD Γ hm z_ ?_);conv=>whnf))
   refine⟨E,by omega,?_⟩
   ((conv=>whnf);repeat((first|refine aF ?_|refine aT ?_);(first|refine rG Γ hm ?_|refine rD Γ hm z_ ?_);conv=>whnf))
   refine⟨by omega,by omega,?_⟩
   ((conv=>whnf);repeat((first|refine aF ?_|refine aT ?_);(first|refine rG Γ hm ?_|refine rD Γ hm z_ ?_);conv=>whnf))
   refine⟨E,by omega,?_⟩
   ((conv=>whnf);repeat((first|refine aF ?_|refine aT ?_);(first|refine rG Γ hm ?_|refine rD Γ hm z_ ?_);conv=>whnf))
   refine⟨by omega,by omega,?_⟩
   ((conv=>whnf);repeat((first|refine aF ?_|refine aT ?_);(first|refine rG Γ hm ?_|refine rD Γ hm z_ ?_);conv=>whnf))
   refine⟨E,by omega,u[k],E,E,?_⟩
   ((conv=>whnf);repeat((first|refine aF ?_|refine aT ?_);(first|refine rG Γ hm ?_|refine rD Γ hm z_ ?_);conv=>whnf))
   refine⟨by omega,by simp;omega,?_⟩
   ((conv=>whnf);repeat((first|refine aF ?_|refine aT ?_);(first|refine rG Γ hm ?_|refine rD Γ hm z_ ?_);conv=>whnf))
   refine⟨E,by simp;omega,u[i],E,E,?_⟩
   ((conv=>whnf);repeat((first|refine aF ?_|refine aT ?_);(first|refine rG Γ hm ?_|refine rD Γ hm z_ ?_);conv=>whnf))
   refine⟨z_,?_⟩
   ((conv=>whnf);repeat((first|refine aF ?_|refine aT ?_);(first|refine rG Γ hm ?_|refine rD Γ hm z_ ?_);conv=>whnf))
   refine iL ?_
   ((conv=>whnf);repeat((first|refine aF ?_|refine aT ?_);(first|refine rG Γ hm ?_|refine rD Γ hm z_ ?_);conv=>whnf))
   refine iL ?_
   ((conv=>whnf);repeat((first|refine aF ?_|refine aT ?_);(first|refine rG Γ hm ?_|refine rD Γ hm z_ ?_);conv=>whnf))
   refine Bs [] q_ ⟨⟨E,E,E,E,congrArg (fun z=>SV.val (.int .i64 z)) q_,E,Y⟩,⟨.inl (congrArg (Ob.row 1 Cs) hs.symm),E,Y⟩,E,E⟩
  ·have h3:D.length≤2 * i+1:=by have:=of_decide_eq_false h2;omega
   rw[Y5 D i h3]
   ((first|refine rG Γ hm ?_|refine rD Γ hm z_ ?_);(conv=>whnf);repeat((first|refine aF ?_|refine aT ?_);(first|refine rG Γ hm ?_|refine rD Γ hm z_ ?_);conv=>whnf))
   refine A2 (Ou Γ.toTy (bs:=D.reverse) E E E E E E E (.row E)) E E ?_
   ((first|refine rG Γ hm ?_|refine rD Γ hm z_ ?_);(conv=>whnf);repeat((first|refine aF ?_|refine aT ?_);(first|refine rG Γ hm ?_|refine rD Γ hm z_ ?_);conv=>whnf))
   exact dN
end Go.Sy.YtjenpnjajjplkaaGreatDoor
namespace Go.Sy.YtjenpnjajjplkaaGreatDoor
open Go.Proofs
attribute [local irreducible] Go.Sy.G Go.Sy.DR
set_option maxRecDepth 20000
set_option maxHeartbeats 4000000
def Hc (n:Net):Prop:=(∀ d∈n.devices,d.name.size≤300)∧∀ p∈n.ports,p.name.size≤300
theorem Acf {n:Net} (h:Ac n=true) {i:Nat} (hi:i<n.ports.length):Ki n i n.ports[i]=true:=by
 simp only[Ac,Bool.and_eq_true]at h
 exact allB_iff.1 h.1.1.1.1.1.2 i hi
theorem Ajv {n:Net} (h:Ac n=true) {i:Nat} (hi:i<n.domains.length):K6 n i n.domains[i]=true:=by
 simp only[Ac,Bool.and_eq_true]at h
 exact allB_iff.1 h.1.1.1.1.1.1.1.2 i hi
theorem Wz {n:Net} (h:Ac n=true):n.devices.length≤8∧n.ports.length≤40∧n.links.length≤20∧n.domains.length≤48∧n.irbs.length≤48:=by
 simp only[Ac,Ae8,Bool.and_eq_true,decide_eq_true_eq]at h
 omega
theorem Js {n:Net} (h:Ac n=true) {i:Nat} (hi:i<n.ports.length):0≤n.ports[i].dev∧n.ports[i].dev.toNat<n.devices.length:=by
 have:=Acf h hi
 simp only[Ki,Ar,Bool.and_eq_true,decide_eq_true_eq]at this
 omega
theorem Ce {n:Net} (h:Ac n=true) {i:Nat} (hi:i<n.domains.length) :
  (0≤n.domains[i].dev∧n.domains[i].dev.toNat<n.devices.length)∧(1≤n.domains[i].vlan∧n.domains[i].vlan≤4094)∧(0≤n.domains[i].vni∧n.domains[i].vni≤16777215)∧(n.domains[i].irb=-1∨0≤n.domains[i].irb∧n.domains[i].irb.toNat<n.irbs.length):=by
 have:=Ajv h hi
 simp only[K6,Ar,Bool.and_eq_true,Bool.or_eq_true,decide_eq_true_eq,beq_iff_eq]at this
 omega
theorem Tz (l:List ByteArray) (h0:l.length≤1000000) (h1:Lz l≤1000000000):Sy.Spec Tryz.prog 88 [.sl 1 Ak l] [] (Ak (Ct l ⟨#[32]⟩)) []:=cT F88 Tryz.ntmps88 fun F hF=>by
 have q:=Ys l ⟨#[32]⟩ q_ q_ (by show 1 * l.length≤_;omega)
 generalize Ct l ⟨#[32]⟩=r at *
 ((conv=>whnf);repeat((first|refine aF ?_|refine aT ?_);(first|refine rG Γ hm ?_|refine rD Γ hm z_ ?_);conv=>whnf))
 refine c0 q F182 ?_
 ((first|refine rG Γ hm ?_|refine rD Γ hm z_ ?_);(conv=>whnf);repeat((first|refine aF ?_|refine aT ?_);(first|refine rG Γ hm ?_|refine rD Γ hm z_ ?_);conv=>whnf))
 exact dN
theorem Ai1 (l:List ByteArray) (h0:l.length≤1000000) (h1:Lz l≤1000000000):Sy.Spec Tryz.prog 183 [.sl 1 Ak l] [] (Ak (Ct l ⟨#[]⟩)) []:=cT F183 Tryz.ntmps183 fun F hF=>by
 have q:=Ys l ⟨#[]⟩ q_ q_ (by show 0 * l.length≤_;omega)
 generalize Ct l ⟨#[]⟩=r at *
 ((conv=>whnf);repeat((first|refine aF ?_|refine aT ?_);(first|refine rG Γ hm ?_|refine rD Γ hm z_ ?_);conv=>whnf))
 refine c0 q F182 ?_
 ((first|refine rG Γ hm ?_|refine rD Γ hm z_ ?_);(conv=>whnf);repeat((first|refine aF ?_|refine aT ?_);(first|refine rG Γ hm ?_|refine rD Γ hm z_ ?_);conv=>whnf))
 exact dN
def O7 (n:Net) (i:Int):ByteArray:=Ct [(nth n.devices (nth n.domains i).dev).name,⟨#[47]⟩,Dx (nth n.domains i).vlan] ⟨#[]⟩
def Cj (n:Net) (i:Int):ByteArray:=if (0≤i∧i<n.domains.length)∧Ac n=true then O7 n i else ⟨#[]⟩
theorem Uj (m:Nat) (h:m<10 ^ 18):(Agi m).length≤19:=by
 rw[Uk,List.length_reverse];exact Dt 18 m h
theorem U7 (n:Net) (hn:n.Fin) (hnm:Hc n) (i:Int):Sy.Spec Tryz.prog 90 [Ae n,Aa i] [] (Ak (Cj n i)) []:=cT F90 Tryz.ntmps90 fun F hF=>by
 have hr:=Aw n hn
 ((conv=>whnf);repeat((first|refine aF ?_|refine aT ?_);(first|refine rG Γ hm ?_|refine rD Γ hm z_ ?_);conv=>whnf))
 refine⟨fun h=>?_,fun h=>?_⟩
 ·have h1:i<0:=of_decide_eq_true h
  rw[Cj,if_neg q_]
  ((first|refine rG Γ hm ?_|refine rD Γ hm z_ ?_);(conv=>whnf);repeat((first|refine aF ?_|refine aT ?_);(first|refine rG Γ hm ?_|refine rD Γ hm z_ ?_);conv=>whnf))
  exact dN
 have h1:0≤i:=qB h
 refine A1 2 8 (Ae n) E E E ?_
 ((first|refine rG Γ hm ?_|refine rD Γ hm z_ ?_);(conv=>whnf);repeat((first|refine aF ?_|refine aT ?_);(first|refine rG Γ hm ?_|refine rD Γ hm z_ ?_);conv=>whnf))
 refine⟨fun h=>?_,fun h=>?_⟩
 ·have h2:n.domains.length≤i:=of_decide_eq_true h
  rw[Cj,if_neg q_]
  ((first|refine rG Γ hm ?_|refine rD Γ hm z_ ?_);(conv=>whnf);repeat((first|refine aF ?_|refine aT ?_);(first|refine rG Γ hm ?_|refine rD Γ hm z_ ?_);conv=>whnf))
  exact dN
 have h2:i<n.domains.length:=qB h
 ((first|refine rG Γ hm ?_|refine rD Γ hm z_ ?_);(conv=>whnf);repeat((first|refine aF ?_|refine aT ?_);(first|refine rG Γ hm ?_|refine rD Γ hm z_ ?_);conv=>whnf))
 refine c0 hr F25 ?_
 cases hb:Ac n
 ·rw[Cj,if_neg (by simp[hb])]
  ((first|refine rG Γ hm ?_|refine rD Γ hm z_ ?_);(conv=>whnf);repeat((first|refine aF ?_|refine aT ?_);(first|refine rG Γ hm ?_|refine rD Γ hm z_ ?_);conv=>whnf))
  exact dN
 rw[Cj,if_pos ⟨⟨h1,h2⟩,hb⟩]
 have hk:i.toNat<n.domains.length:=by omega
 have hf:=Ce hb hk
 have e1:nth n.domains i=n.domains[i.toNat]:=Ad hk
 rw[O7,e1]
 obtain ⟨d,hd⟩:∃ d,n.domains[i.toNat]=d:=⟨_,rfl⟩
 rw[hd]at hf ⊢
 have e2:nth n.devices d.dev=n.devices[d.dev.toNat]:=Ad hf.1.2
 rw[e2]
 have hdn:=hnm.1 _ (List.getElem_mem hf.1.2)
 obtain ⟨x,hx⟩:∃ x,n.devices[d.dev.toNat]'hf.1.2=x:=⟨_,rfl⟩
 rw[hx]at hdn ⊢
 obtain ⟨v,hv⟩:∃ v:Nat,d.vlan=v:=⟨d.vlan.toNat,by omega⟩
 have q:=Uf v q_
 have hs:=Uj v q_
 have hsz:(Dx v).size=(Agi v).length:=Df _
 have q2:=Ai1 [x.name,⟨#[47]⟩,Dx v] y_ (by
  show x.name.size+(1+((Dx v).size+0))≤_
  omega)
 rw[← hv]at q q2
 generalize Dx d.vlan=nv at *
 generalize Ct [x.name,⟨#[47]⟩,nv] ⟨#[]⟩=r at *
 ((first|refine rG Γ hm ?_|refine rD Γ hm z_ ?_);(conv=>whnf);repeat((first|refine aF ?_|refine aT ?_);(first|refine rG Γ hm ?_|refine rD Γ hm z_ ?_);conv=>whnf))
 refine⟨E,h1,hk,?_⟩
 rw[hd]
 ((conv=>whnf);repeat((first|refine aF ?_|refine aT ?_);(first|refine rG Γ hm ?_|refine rD Γ hm z_ ?_);conv=>whnf))
 refine⟨E,hf.1.1,hf.1.2,?_⟩
 rw[hx]
 ((conv=>whnf);repeat((first|refine aF ?_|refine aT ?_);(first|refine rG Γ hm ?_|refine rD Γ hm z_ ?_);conv=>whnf))
 refine cD q F117 ?_
 ((first|refine rG Γ hm ?_|refine rD Γ hm z_ ?_);(conv=>whnf);repeat((first|refine aF ?_|refine aT ?_);(first|refine rG Γ hm ?_|refine rD Γ hm z_ ?_);conv=>whnf))
 refine Hi [35] q2 F183 E (.cons (.lit E E E) .nil) E z_ E ?_
 ((first|refine rG Γ hm ?_|refine rD Γ hm z_ ?_);(conv=>whnf);repeat((first|refine aF ?_|refine aT ?_);(first|refine rG Γ hm ?_|refine rD Γ hm z_ ?_);conv=>whnf))
 refine⟨z_,?_⟩
 ((conv=>whnf);repeat((first|refine aF ?_|refine aT ?_);(first|refine rG Γ hm ?_|refine rD Γ hm z_ ?_);conv=>whnf))
 exact dN
def D5 (n:Net) (i:Int):ByteArray:=(nth n.devices (nth n.ports i).dev).name++⟨#[46]⟩++(nth n.ports i).name
def Bj (n:Net) (i:Int):ByteArray:=if (0≤i∧i<n.ports.length)∧Ac n=true then D5 n i else ⟨#[]⟩
theorem Yz (a b:ByteArray):(a++b).size=a.size+b.size:=by simp
theorem Ht (n:Net) (hn:n.Fin) (hnm:Hc n) (i:Int):Sy.Spec Tryz.prog 89 [Ae n,Aa i] [] (Ak (Bj n i)) []:=cT F89 Tryz.ntmps89 fun F hF=>by
 have hr:=Aw n hn
 ((conv=>whnf);repeat((first|refine aF ?_|refine aT ?_);(first|refine rG Γ hm ?_|refine rD Γ hm z_ ?_);conv=>whnf))
 refine⟨fun h=>?_,fun h=>?_⟩
 ·have h1:i<0:=of_decide_eq_true h
  rw[Bj,if_neg q_]
  ((first|refine rG Γ hm ?_|refine rD Γ hm z_ ?_);(conv=>whnf);repeat((first|refine aF ?_|refine aT ?_);(first|refine rG Γ hm ?_|refine rD Γ hm z_ ?_);conv=>whnf))
  exact dN
 have h1:0≤i:=qB h
 refine A1 2 8 (Ae n) E E E ?_
 ((first|refine rG Γ hm ?_|refine rD Γ hm z_ ?_);(conv=>whnf);repeat((first|refine aF ?_|refine aT ?_);(first|refine rG Γ hm ?_|refine rD Γ hm z_ ?_);conv=>whnf))
 refine⟨fun h=>?_,fun h=>?_⟩
 ·have h2:n.ports.length≤i:=of_decide_eq_true h
  rw[Bj,if_neg q_]
  ((first|refine rG Γ hm ?_|refine rD Γ hm z_ ?_);(conv=>whnf);repeat((first|refine aF ?_|refine aT ?_);(first|refine rG Γ hm ?_|refine rD Γ hm z_ ?_);conv=>whnf))
  exact dN
 have h2:i<n.ports.length:=qB h
 ((first|refine rG Γ hm ?_|refine rD Γ hm z_ ?_);(conv=>whnf);repeat((first|refine aF ?_|refine aT ?_);(first|refine rG Γ hm ?_|refine rD Γ hm z_ ?_);conv=>whnf))
 refine c0 hr F25 ?_
 cases hb:Ac n
 ·rw[Bj,if_neg (by simp[hb])]
  ((first|refine rG Γ hm ?_|refine rD Γ hm z_ ?_);(conv=>whnf);repeat((first|refine aF ?_|refine aT ?_);(first|refine rG Γ hm ?_|refine rD Γ hm z_ ?_);conv=>whnf))
  exact dN
 rw[Bj,if_pos ⟨⟨h1,h2⟩,hb⟩]
 have hk:i.toNat<n.ports.length:=by omega
 have hf:=Js hb hk
 have e1:nth n.ports i=n.ports[i.toNat]:=Ad hk
 have hpn:=hnm.2 _ (List.getElem_mem hk)
 rw[D5,e1]
 obtain ⟨p,hp⟩:∃ p,n.ports[i.toNat]=p:=⟨_,rfl⟩
 rw[hp]at hf hpn ⊢
 have e2:nth n.devices p.dev=n.devices[p.dev.toNat]:=Ad hf.2
 rw[e2]
 have hdn:=hnm.1 _ (List.getElem_mem hf.2)
 obtain ⟨x,hx⟩:∃ x,n.devices[p.dev.toNat]'hf.2=x:=⟨_,rfl⟩
 rw[hx]at hdn ⊢
 have hs1:(⟨#[46]⟩:ByteArray).size=1:=rfl
 have hs2:=Yz x.name ⟨#[46]⟩
 ((first|refine rG Γ hm ?_|refine rD Γ hm z_ ?_);(conv=>whnf);repeat((first|refine aF ?_|refine aT ?_);(first|refine rG Γ hm ?_|refine rD Γ hm z_ ?_);conv=>whnf))
 refine⟨E,h1,hk,?_⟩
 rw[hp]
 ((conv=>whnf);repeat((first|refine aF ?_|refine aT ?_);(first|refine rG Γ hm ?_|refine rD Γ hm z_ ?_);conv=>whnf))
 refine⟨E,hf.1,hf.2,?_⟩
 rw[hx]
 ((conv=>whnf);repeat((first|refine aF ?_|refine aT ?_);(first|refine rG Γ hm ?_|refine rD Γ hm z_ ?_);conv=>whnf))
 refine⟨by omega,?_⟩
 ((conv=>whnf);repeat((first|refine aF ?_|refine aT ?_);(first|refine rG Γ hm ?_|refine rD Γ hm z_ ?_);conv=>whnf))
 refine⟨by omega,?_⟩
 ((conv=>whnf);repeat((first|refine aF ?_|refine aT ?_);(first|refine rG Γ hm ?_|refine rD Γ hm z_ ?_);conv=>whnf))
 refine⟨z_,?_⟩
 ((conv=>whnf);repeat((first|refine aF ?_|refine aT ?_);(first|refine rG Γ hm ?_|refine rD Γ hm z_ ?_);conv=>whnf))
 exact dN
end Go.Sy.YtjenpnjajjplkaaGreatDoor
