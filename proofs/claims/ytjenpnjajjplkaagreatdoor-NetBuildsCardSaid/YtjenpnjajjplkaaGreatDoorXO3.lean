/-
  Ty N1 N2 N3 N4 N5 N6 N7 N8 N9 N10 N11 I1 I2 I3 I4 V1 I5 Sy25 Sy26 Sy27 Sy28 Sh E1 E2 A2: parts of a proof, joined by program.
-/
import Derived.Test.YtjenpnjajjplkaaGreatDoorXO2
import Derived.Test.YtjenpnjajjplkaaGreatDoorProg
import Derived.Test.YtjenpnjajjplkaaGreatDoorXO1
import Derived.ChangeKeysEq
import Derived.Below
import Derived.Lib.Join
import Derived.Shelf.Strings.OnBuilder
import Derived.Shelf.Small.Strs
import Derived.Shelf.Strings.Search1
import Derived.Shelf.Strings.Search2
import Derived.Shelf.Strings.Search3
import Derived.Shelf.Strings.Cut
import Derived.Shelf.Strings.Count
import Derived.Shelf.Strings.Prefix
set_option linter.all false
set_option linter.unusedVariables false
set_option linter.unusedSimpArgs false
set_option linter.deprecated false
namespace Go.Sy.YtjenpnjajjplkaaGreatDoor
open Go.Proofs
set_option maxRecDepth 100000
theorem ty1:Cg Tryz.prog 1=some ⟨.func,1,[.nilFunc]⟩:=by kernel_rfl
theorem ty3:Cg Tryz.prog 3=some ⟨.int .i64,1,[.int .i64 0]⟩:=by kernel_rfl
theorem ty4:Cg Tryz.prog 4=some ⟨.bool,1,[.bool false]⟩:=by kernel_rfl
theorem ty5:Cg Tryz.prog 5=some ⟨.int .u8,1,[.int .u8 0]⟩:=by kernel_rfl
theorem ty7:Cg Tryz.prog 7=some ⟨.struct [(0,1),(1,1),(2,1),(3,1)],4,[.int .i64 0,.int .i64 0,.bool false,.int .u8 0]⟩:=by kernel_rfl
theorem ty9:Cg Tryz.prog 9=some ⟨.string,1,[.string .empty]⟩:=by kernel_rfl
theorem ty22:Cg Tryz.prog 22=some ⟨.slice 66 17 240 [.int .i64 0,.int .i64 0,.string .empty,.string .empty,.string .empty,.string .empty,.string .empty,.int .u64 0,.int .u32 0,.int .i64 0,.int .i64 0,.int .i64 0,.int .i64 0,.slice none 0 0,.slice none 0 0,.slice none 0 0,.slice none 0 0],1,[.slice none 0 0]⟩:=by kernel_rfl
theorem ty24:Cg Tryz.prog 24=some ⟨.slice 5 1 1 [.int .u8 0],1,[.slice none 0 0]⟩:=by kernel_rfl
theorem ty31:Cg Tryz.prog 31=some ⟨.slice 80 5 48 [.int .i64 0,.int .i64 0,.string .empty,.int .u64 0,.int .u32 0],1,[.slice none 0 0]⟩:=by kernel_rfl
theorem ty32:Cg Tryz.prog 32=some ⟨.slice 82 7 80 [.int .i64 0,.int .i64 0,.int .i64 0,.int .i64 0,.int .i64 0,.string .empty,.slice none 0 0],1,[.slice none 0 0]⟩:=by kernel_rfl
theorem ty33:Cg Tryz.prog 33=some ⟨.slice 124 3 24 [.int .i64 0,.int .i64 0,.int .i64 0],1,[.slice none 0 0]⟩:=by kernel_rfl
theorem ty34:Cg Tryz.prog 34=some ⟨.slice 84 6 64 [.int .i64 0,.int .i64 0,.int .i64 0,.int .i64 0,.int .i64 0,.slice none 0 0],1,[.slice none 0 0]⟩:=by kernel_rfl
theorem ty35:Cg Tryz.prog 35=some ⟨.slice 127 4 32 [.int .i64 0,.int .i64 0,.int .i64 0,.int .u64 0],1,[.slice none 0 0]⟩:=by kernel_rfl
theorem ty36:Cg Tryz.prog 36=some ⟨.slice 113 4 48 [.int .i64 0,.int .i64 0,.int .i64 0,.slice none 0 0],1,[.slice none 0 0]⟩:=by kernel_rfl
theorem ty37:Cg Tryz.prog 37=some ⟨.slice 116 5 80 [.int .i64 0,.int .i64 0,.string .empty,.slice none 0 0,.slice none 0 0],1,[.slice none 0 0]⟩:=by kernel_rfl
theorem ty38:Cg Tryz.prog 38=some ⟨.slice 132 5 40 [.int .i64 0,.int .i64 0,.int .i64 0,.int .u32 0,.int .i64 0],1,[.slice none 0 0]⟩:=by kernel_rfl
theorem ty40:Cg Tryz.prog 40=some ⟨.struct [(0,1),(1,1),(2,1),(3,1),(4,1),(5,1),(6,1),(7,1)],8,[.slice none 0 0,.slice none 0 0,.slice none 0 0,.slice none 0 0,.slice none 0 0,.slice none 0 0,.slice none 0 0,.slice none 0 0]⟩:=by kernel_rfl
theorem ty41:Cg Tryz.prog 41=some ⟨.int .i64,1,[.int .i64 0]⟩:=by kernel_rfl
theorem ty49:Cg Tryz.prog 49=some ⟨.func,1,[.nilFunc]⟩:=by kernel_rfl
theorem ty57:Cg Tryz.prog 57=some ⟨.func,1,[.nilFunc]⟩:=by kernel_rfl
theorem ty61:Cg Tryz.prog 61=some ⟨.int .u64,1,[.int .u64 0]⟩:=by kernel_rfl
theorem ty62:Cg Tryz.prog 62=some ⟨.int .u32,1,[.int .u32 0]⟩:=by kernel_rfl
theorem ty63:Cg Tryz.prog 63=some ⟨.slice 3 1 8 [.int .i64 0],1,[.slice none 0 0]⟩:=by kernel_rfl
theorem ty64:Cg Tryz.prog 64=some ⟨.slice 62 1 4 [.int .u32 0],1,[.slice none 0 0]⟩:=by kernel_rfl
theorem ty66:Cg Tryz.prog 66=some ⟨.struct [(0,1),(1,1),(2,1),(3,1),(4,1),(5,1),(6,1),(7,1),(8,1),(9,1),(10,1),(11,1),(12,1),(13,1),(14,1),(15,1),(16,1)],17,[.int .i64 0,.int .i64 0,.string .empty,.string .empty,.string .empty,.string .empty,.string .empty,.int .u64 0,.int .u32 0,.int .i64 0,.int .i64 0,.int .i64 0,.int .i64 0,.slice none 0 0,.slice none 0 0,.slice none 0 0,.slice none 0 0]⟩:=by kernel_rfl
theorem ty68:Cg Tryz.prog 68=some ⟨.slice 9 1 16 [.string .empty],1,[.slice none 0 0]⟩:=by kernel_rfl
theorem ty80:Cg Tryz.prog 80=some ⟨.struct [(0,1),(1,1),(2,1),(3,1),(4,1)],5,[.int .i64 0,.int .i64 0,.string .empty,.int .u64 0,.int .u32 0]⟩:=by kernel_rfl
theorem ty82:Cg Tryz.prog 82=some ⟨.struct [(0,1),(1,1),(2,1),(3,1),(4,1),(5,1),(6,1)],7,[.int .i64 0,.int .i64 0,.int .i64 0,.int .i64 0,.int .i64 0,.string .empty,.slice none 0 0]⟩:=by kernel_rfl
theorem ty84:Cg Tryz.prog 84=some ⟨.struct [(0,1),(1,1),(2,1),(3,1),(4,1),(5,1)],6,[.int .i64 0,.int .i64 0,.int .i64 0,.int .i64 0,.int .i64 0,.slice none 0 0]⟩:=by kernel_rfl
theorem ty85:Cg Tryz.prog 85=some ⟨.ptr,1,[.pointer none]⟩:=by kernel_rfl
theorem ty90:Cg Tryz.prog 90=some ⟨.struct [(0,0),(0,1)],1,[.int .u32 0]⟩:=by kernel_rfl
theorem ty94:Cg Tryz.prog 94=some ⟨.struct [(0,0),(0,2)],2,[.int .i32 0,.int .u32 0]⟩:=by kernel_rfl
theorem ty96:Cg Tryz.prog 96=some ⟨.struct [(0,0),(0,1),(1,2)],3,[.int .u32 0,.int .i32 0,.int .u32 0]⟩:=by kernel_rfl
theorem ty98:Cg Tryz.prog 98=some ⟨.struct [(0,3),(3,1),(4,8),(12,1),(13,1)],14,[.int .u32 0,.int .i32 0,.int .u32 0,.slice none 0 0,.slice none 0 0,.slice none 0 0,.slice none 0 0,.slice none 0 0,.slice none 0 0,.slice none 0 0,.slice none 0 0,.slice none 0 0,.int .i64 0,.int .i64 0]⟩:=by kernel_rfl
theorem ty113:Cg Tryz.prog 113=some ⟨.struct [(0,1),(1,1),(2,1),(3,1)],4,[.int .i64 0,.int .i64 0,.int .i64 0,.slice none 0 0]⟩:=by kernel_rfl
theorem ty116:Cg Tryz.prog 116=some ⟨.struct [(0,1),(1,1),(2,1),(3,1),(4,1)],5,[.int .i64 0,.int .i64 0,.string .empty,.slice none 0 0,.slice none 0 0]⟩:=by kernel_rfl
theorem ty124:Cg Tryz.prog 124=some ⟨.struct [(0,1),(1,1),(2,1)],3,[.int .i64 0,.int .i64 0,.int .i64 0]⟩:=by kernel_rfl
theorem ty127:Cg Tryz.prog 127=some ⟨.struct [(0,1),(1,1),(2,1),(3,1)],4,[.int .i64 0,.int .i64 0,.int .i64 0,.int .u64 0]⟩:=by kernel_rfl
theorem ty130:Cg Tryz.prog 130=some ⟨.struct [(0,1),(1,1)],2,[.int .u32 0,.int .i64 0]⟩:=by kernel_rfl
theorem ty132:Cg Tryz.prog 132=some ⟨.struct [(0,1),(1,1),(2,1),(3,2)],5,[.int .i64 0,.int .i64 0,.int .i64 0,.int .u32 0,.int .i64 0]⟩:=by kernel_rfl
theorem ty145:Cg Tryz.prog 145=some ⟨.slice 3 1 8 [.int .i64 0],1,[.slice none 0 0]⟩:=by kernel_rfl
theorem ty149:Cg Tryz.prog 149=some ⟨.func,1,[.nilFunc]⟩:=by kernel_rfl
theorem ty151:Cg Tryz.prog 151=some ⟨.struct [(0,8)],8,[.slice none 0 0,.slice none 0 0,.slice none 0 0,.slice none 0 0,.slice none 0 0,.slice none 0 0,.slice none 0 0,.slice none 0 0]⟩:=by kernel_rfl
theorem ty153:Cg Tryz.prog 153=some ⟨.func,1,[.nilFunc]⟩:=by kernel_rfl
theorem ty155:Cg Tryz.prog 155=some ⟨.func,1,[.nilFunc]⟩:=by kernel_rfl
theorem ty157:Cg Tryz.prog 157=some ⟨.func,1,[.nilFunc]⟩:=by kernel_rfl
theorem ty159:Cg Tryz.prog 159=some ⟨.func,1,[.nilFunc]⟩:=by kernel_rfl
theorem ty162:Cg Tryz.prog 162=some ⟨.func,1,[.nilFunc]⟩:=by kernel_rfl
theorem ty165:Cg Tryz.prog 165=some ⟨.func,1,[.nilFunc]⟩:=by kernel_rfl
theorem ty167:Cg Tryz.prog 167=some ⟨.func,1,[.nilFunc]⟩:=by kernel_rfl
theorem ty209:Cg Tryz.prog 209=some ⟨.func,1,[.nilFunc]⟩:=by kernel_rfl
theorem ty239:Cg Tryz.prog 239=some ⟨.func,1,[.nilFunc]⟩:=by kernel_rfl
theorem ty241:Cg Tryz.prog 241=some ⟨.func,1,[.nilFunc]⟩:=by kernel_rfl
theorem ty243:Cg Tryz.prog 243=some ⟨.func,1,[.nilFunc]⟩:=by kernel_rfl
theorem ty272:Cg Tryz.prog 272=some ⟨.ptr,1,[.pointer none]⟩:=by kernel_rfl
theorem ty275:Cg Tryz.prog 275=some ⟨.int .u64,1,[.int .u64 0]⟩:=by kernel_rfl
theorem ty289:Cg Tryz.prog 289=some ⟨.ptr,1,[.pointer none]⟩:=by kernel_rfl
theorem ty291:Cg Tryz.prog 291=some ⟨.struct [(0,1),(1,1),(2,1)],3,[.slice none 0 0,.int .i64 0,.int .i64 0]⟩:=by kernel_rfl
theorem ty297:Cg Tryz.prog 297=some ⟨.ptr,1,[.pointer none]⟩:=by kernel_rfl
theorem ty299:Cg Tryz.prog 299=some ⟨.func,1,[.nilFunc]⟩:=by kernel_rfl
theorem ty323:Cg Tryz.prog 323=some ⟨.func,1,[.nilFunc]⟩:=by kernel_rfl
theorem ty333:Cg Tryz.prog 333=some ⟨.ptr,1,[.pointer none]⟩:=by kernel_rfl
theorem ty335:Cg Tryz.prog 335=some ⟨.ptr,1,[.pointer none]⟩:=by kernel_rfl
theorem ty362:Cg Tryz.prog 362=some ⟨.ptr,1,[.pointer none]⟩:=by kernel_rfl
theorem ty366:Cg Tryz.prog 366=some ⟨.struct [(0,8)],8,[.slice none 0 0,.slice none 0 0,.slice none 0 0,.slice none 0 0,.slice none 0 0,.slice none 0 0,.slice none 0 0,.slice none 0 0]⟩:=by kernel_rfl
theorem ty369:Cg Tryz.prog 369=some ⟨.array 3 2 1,2,[.int .i64 0,.int .i64 0]⟩:=by kernel_rfl
theorem ty378:Cg Tryz.prog 378=some ⟨.func,1,[.nilFunc]⟩:=by kernel_rfl
theorem ty400:Cg Tryz.prog 400=some ⟨.func,1,[.nilFunc]⟩:=by kernel_rfl
theorem ty402:Cg Tryz.prog 402=some ⟨.func,1,[.nilFunc]⟩:=by kernel_rfl
theorem tq80:Yk Tryz.prog 80=some [.int .i64,.int .i64,.string,.int .u64,.int .u32]:=by kernel_rfl
theorem tq124:Yk Tryz.prog 124=some [.int .i64,.int .i64,.int .i64]:=by kernel_rfl
theorem tq127:Yk Tryz.prog 127=some [.int .i64,.int .i64,.int .i64,.int .u64]:=by kernel_rfl
theorem tq130:Yk Tryz.prog 130=some [.int .u32,.int .i64]:=by kernel_rfl
def tab:Tr TI:=(.nd 113 (⟨.struct [(0,1),(1,1),(2,1),(3,1)],4,[.int .i64 0,.int .i64 0,.int .i64 0,.slice none 0 0]⟩) (.nd 41 (⟨.int .i64,1,[.int .i64 0]⟩) (.nd 31 (⟨.slice 80 5 48 [.int .i64 0,.int .i64 0,.string .empty,.int .u64 0,.int .u32 0],1,[.slice none 0 0]⟩) (.nd 7 (⟨.struct [(0,1),(1,1),(2,1),(3,1)],4,[.int .i64 0,.int .i64 0,.bool false,.int .u8 0]⟩) (.nd 4 (⟨.bool,1,[.bool false]⟩) (.nd 3 (⟨.int .i64,1,[.int .i64 0]⟩) (.nd 1 (⟨.func,1,[.nilFunc]⟩) .lf .lf) .lf) (.nd 5 (⟨.int .u8,1,[.int .u8 0]⟩) .lf .lf)) (.nd 22 (⟨.slice 66 17 240 [.int .i64 0,.int .i64 0,.string .empty,.string .empty,.string .empty,.string .empty,.string .empty,.int .u64 0,.int .u32 0,.int .i64 0,.int .i64 0,.int .i64 0,.int .i64 0,.slice none 0 0,.slice none 0 0,.slice none 0 0,.slice none 0 0],1,[.slice none 0 0]⟩) (.nd 9 (⟨.string,1,[.string .empty]⟩) .lf .lf) (.nd 24 (⟨.slice 5 1 1 [.int .u8 0],1,[.slice none 0 0]⟩) .lf .lf))) (.nd 36 (⟨.slice 113 4 48 [.int .i64 0,.int .i64 0,.int .i64 0,.slice none 0 0],1,[.slice none 0 0]⟩) (.nd 34 (⟨.slice 84 6 64 [.int .i64 0,.int .i64 0,.int .i64 0,.int .i64 0,.int .i64 0,.slice none 0 0],1,[.slice none 0 0]⟩) (.nd 33 (⟨.slice 124 3 24 [.int .i64 0,.int .i64 0,.int .i64 0],1,[.slice none 0 0]⟩) (.nd 32 (⟨.slice 82 7 80 [.int .i64 0,.int .i64 0,.int .i64 0,.int .i64 0,.int .i64 0,.string .empty,.slice none 0 0],1,[.slice none 0 0]⟩) .lf .lf) .lf) (.nd 35 (⟨.slice 127 4 32 [.int .i64 0,.int .i64 0,.int .i64 0,.int .u64 0],1,[.slice none 0 0]⟩) .lf .lf)) (.nd 38 (⟨.slice 132 5 40 [.int .i64 0,.int .i64 0,.int .i64 0,.int .u32 0,.int .i64 0],1,[.slice none 0 0]⟩) (.nd 37 (⟨.slice 116 5 80 [.int .i64 0,.int .i64 0,.string .empty,.slice none 0 0,.slice none 0 0],1,[.slice none 0 0]⟩) .lf .lf) (.nd 40 (⟨.struct [(0,1),(1,1),(2,1),(3,1),(4,1),(5,1),(6,1),(7,1)],8,[.slice none 0 0,.slice none 0 0,.slice none 0 0,.slice none 0 0,.slice none 0 0,.slice none 0 0,.slice none 0 0,.slice none 0 0]⟩) .lf .lf)))) (.nd 80 (⟨.struct [(0,1),(1,1),(2,1),(3,1),(4,1)],5,[.int .i64 0,.int .i64 0,.string .empty,.int .u64 0,.int .u32 0]⟩) (.nd 63 (⟨.slice 3 1 8 [.int .i64 0],1,[.slice none 0 0]⟩) (.nd 61 (⟨.int .u64,1,[.int .u64 0]⟩) (.nd 57 (⟨.func,1,[.nilFunc]⟩) (.nd 49 (⟨.func,1,[.nilFunc]⟩) .lf .lf) .lf) (.nd 62 (⟨.int .u32,1,[.int .u32 0]⟩) .lf .lf)) (.nd 66 (⟨.struct [(0,1),(1,1),(2,1),(3,1),(4,1),(5,1),(6,1),(7,1),(8,1),(9,1),(10,1),(11,1),(12,1),(13,1),(14,1),(15,1),(16,1)],17,[.int .i64 0,.int .i64 0,.string .empty,.string .empty,.string .empty,.string .empty,.string .empty,.int .u64 0,.int .u32 0,.int .i64 0,.int .i64 0,.int .i64 0,.int .i64 0,.slice none 0 0,.slice none 0 0,.slice none 0 0,.slice none 0 0]⟩) (.nd 64 (⟨.slice 62 1 4 [.int .u32 0],1,[.slice none 0 0]⟩) .lf .lf) (.nd 68 (⟨.slice 9 1 16 [.string .empty],1,[.slice none 0 0]⟩) .lf .lf))) (.nd 90 (⟨.struct [(0,0),(0,1)],1,[.int .u32 0]⟩) (.nd 84 (⟨.struct [(0,1),(1,1),(2,1),(3,1),(4,1),(5,1)],6,[.int .i64 0,.int .i64 0,.int .i64 0,.int .i64 0,.int .i64 0,.slice none 0 0]⟩) (.nd 82 (⟨.struct [(0,1),(1,1),(2,1),(3,1),(4,1),(5,1),(6,1)],7,[.int .i64 0,.int .i64 0,.int .i64 0,.int .i64 0,.int .i64 0,.string .empty,.slice none 0 0]⟩) .lf .lf) (.nd 85 (⟨.ptr,1,[.pointer none]⟩) .lf .lf)) (.nd 96 (⟨.struct [(0,0),(0,1),(1,2)],3,[.int .u32 0,.int .i32 0,.int .u32 0]⟩) (.nd 94 (⟨.struct [(0,0),(0,2)],2,[.int .i32 0,.int .u32 0]⟩) .lf .lf) (.nd 98 (⟨.struct [(0,3),(3,1),(4,8),(12,1),(13,1)],14,[.int .u32 0,.int .i32 0,.int .u32 0,.slice none 0 0,.slice none 0 0,.slice none 0 0,.slice none 0 0,.slice none 0 0,.slice none 0 0,.slice none 0 0,.slice none 0 0,.slice none 0 0,.int .i64 0,.int .i64 0]⟩) .lf .lf))))) (.nd 241 (⟨.func,1,[.nilFunc]⟩) (.nd 153 (⟨.func,1,[.nilFunc]⟩) (.nd 132 (⟨.struct [(0,1),(1,1),(2,1),(3,2)],5,[.int .i64 0,.int .i64 0,.int .i64 0,.int .u32 0,.int .i64 0]⟩) (.nd 127 (⟨.struct [(0,1),(1,1),(2,1),(3,1)],4,[.int .i64 0,.int .i64 0,.int .i64 0,.int .u64 0]⟩) (.nd 124 (⟨.struct [(0,1),(1,1),(2,1)],3,[.int .i64 0,.int .i64 0,.int .i64 0]⟩) (.nd 116 (⟨.struct [(0,1),(1,1),(2,1),(3,1),(4,1)],5,[.int .i64 0,.int .i64 0,.string .empty,.slice none 0 0,.slice none 0 0]⟩) .lf .lf) .lf) (.nd 130 (⟨.struct [(0,1),(1,1)],2,[.int .u32 0,.int .i64 0]⟩) .lf .lf)) (.nd 149 (⟨.func,1,[.nilFunc]⟩) (.nd 145 (⟨.slice 3 1 8 [.int .i64 0],1,[.slice none 0 0]⟩) .lf .lf) (.nd 151 (⟨.struct [(0,8)],8,[.slice none 0 0,.slice none 0 0,.slice none 0 0,.slice none 0 0,.slice none 0 0,.slice none 0 0,.slice none 0 0,.slice none 0 0]⟩) .lf .lf))) (.nd 165 (⟨.func,1,[.nilFunc]⟩) (.nd 159 (⟨.func,1,[.nilFunc]⟩) (.nd 157 (⟨.func,1,[.nilFunc]⟩) (.nd 155 (⟨.func,1,[.nilFunc]⟩) .lf .lf) .lf) (.nd 162 (⟨.func,1,[.nilFunc]⟩) .lf .lf)) (.nd 209 (⟨.func,1,[.nilFunc]⟩) (.nd 167 (⟨.func,1,[.nilFunc]⟩) .lf .lf) (.nd 239 (⟨.func,1,[.nilFunc]⟩) .lf .lf)))) (.nd 333 (⟨.ptr,1,[.pointer none]⟩) (.nd 291 (⟨.struct [(0,1),(1,1),(2,1)],3,[.slice none 0 0,.int .i64 0,.int .i64 0]⟩) (.nd 275 (⟨.int .u64,1,[.int .u64 0]⟩) (.nd 272 (⟨.ptr,1,[.pointer none]⟩) (.nd 243 (⟨.func,1,[.nilFunc]⟩) .lf .lf) .lf) (.nd 289 (⟨.ptr,1,[.pointer none]⟩) .lf .lf)) (.nd 299 (⟨.func,1,[.nilFunc]⟩) (.nd 297 (⟨.ptr,1,[.pointer none]⟩) .lf .lf) (.nd 323 (⟨.func,1,[.nilFunc]⟩) .lf .lf))) (.nd 369 (⟨.array 3 2 1,2,[.int .i64 0,.int .i64 0]⟩) (.nd 362 (⟨.ptr,1,[.pointer none]⟩) (.nd 335 (⟨.ptr,1,[.pointer none]⟩) .lf .lf) (.nd 366 (⟨.struct [(0,8)],8,[.slice none 0 0,.slice none 0 0,.slice none 0 0,.slice none 0 0,.slice none 0 0,.slice none 0 0,.slice none 0 0,.slice none 0 0]⟩) .lf .lf)) (.nd 400 (⟨.func,1,[.nilFunc]⟩) (.nd 378 (⟨.func,1,[.nilFunc]⟩) .lf .lf) (.nd 402 (⟨.func,1,[.nilFunc]⟩) .lf .lf))))))
def etab:Tr (List EK):=(.nd 127 ([.int .i64,.int .i64,.int .i64,.int .u64]) (.nd 124 ([.int .i64,.int .i64,.int .i64]) (.nd 80 ([.int .i64,.int .i64,.string,.int .u64,.int .u32]) .lf .lf) .lf) (.nd 130 ([.int .u32,.int .i64]) .lf .lf))
theorem tab_ok:tab.all (fun t i=>Cg Tryz.prog t=some i):=⟨ty113,⟨ty41,⟨ty31,⟨ty7,⟨ty4,⟨ty3,⟨ty1,trivial,trivial⟩,trivial⟩,⟨ty5,trivial,trivial⟩⟩,⟨ty22,⟨ty9,trivial,trivial⟩,⟨ty24,trivial,trivial⟩⟩⟩,⟨ty36,⟨ty34,⟨ty33,⟨ty32,trivial,trivial⟩,trivial⟩,⟨ty35,trivial,trivial⟩⟩,⟨ty38,⟨ty37,trivial,trivial⟩,⟨ty40,trivial,trivial⟩⟩⟩⟩,⟨ty80,⟨ty63,⟨ty61,⟨ty57,⟨ty49,trivial,trivial⟩,trivial⟩,⟨ty62,trivial,trivial⟩⟩,⟨ty66,⟨ty64,trivial,trivial⟩,⟨ty68,trivial,trivial⟩⟩⟩,⟨ty90,⟨ty84,⟨ty82,trivial,trivial⟩,⟨ty85,trivial,trivial⟩⟩,⟨ty96,⟨ty94,trivial,trivial⟩,⟨ty98,trivial,trivial⟩⟩⟩⟩⟩,⟨ty241,⟨ty153,⟨ty132,⟨ty127,⟨ty124,⟨ty116,trivial,trivial⟩,trivial⟩,⟨ty130,trivial,trivial⟩⟩,⟨ty149,⟨ty145,trivial,trivial⟩,⟨ty151,trivial,trivial⟩⟩⟩,⟨ty165,⟨ty159,⟨ty157,⟨ty155,trivial,trivial⟩,trivial⟩,⟨ty162,trivial,trivial⟩⟩,⟨ty209,⟨ty167,trivial,trivial⟩,⟨ty239,trivial,trivial⟩⟩⟩⟩,⟨ty333,⟨ty291,⟨ty275,⟨ty272,⟨ty243,trivial,trivial⟩,trivial⟩,⟨ty289,trivial,trivial⟩⟩,⟨ty299,⟨ty297,trivial,trivial⟩,⟨ty323,trivial,trivial⟩⟩⟩,⟨ty369,⟨ty362,⟨ty335,trivial,trivial⟩,⟨ty366,trivial,trivial⟩⟩,⟨ty400,⟨ty378,trivial,trivial⟩,⟨ty402,trivial,trivial⟩⟩⟩⟩⟩⟩
theorem Aqt:etab.all (fun t i=>Yk Tryz.prog t=some i):=⟨tq127,⟨tq124,⟨tq80,trivial,trivial⟩,trivial⟩,⟨tq130,trivial,trivial⟩⟩
def Γ:TyE Tryz.prog:=⟨⟨fun t=>tab.look t,fun _ _ h=>Apn (Tr.look_ok tab_ok h)⟩,fun t=>etab.look t,fun _ _ h=>Aos (Tr.look_ok Aqt h)⟩
theorem hm:Tryz.prog.follows .mixedOrders=true:=by kernel_rfl
abbrev fT (i:Nat) (fn:Func):Prop:=Fun Tryz.prog i fn (Yq fn)
theorem fN {P : Program} {f : FuncId} {fn : Func} (h : P.funcs[f]? = some fn) (hb : fn.body = some (Yq fn) := by exact rfl) (hn : (fn.name == "runtime.NumGoroutine") = false := by kernel_rfl) : Fun P f fn (Yq fn) := ⟨h, hb, hn⟩
theorem cT {f:FuncId} {fn:Func} {c:Code} {A:List SV} {H:Obs} {R:SV} {H':Obs} (hF:Fun Tryz.prog f fn c) {n:Nat} (hn':fn.ntmps=n)
  (h:∀ (F:Fr) (hF:∀ k,F.k0 k≠.new→k∈H.keys),Ks ⟨Tryz.prog,Γ.toTy,F,n,Wk Tryz.prog fn F R H',H.keys,hF⟩ Γ 100 [.code c] ⟨argσ A,mkh H⟩) (hn:Ael A n=true:=by exact rfl):Sy.Spec Tryz.prog f A H R H':=Ht Γ hm 100 hF hn' hn h
theorem F4:fT 4 Tryz.f4:=fN Tryz.func4
theorem F11:fT 11 Tryz.f11:=fN Tryz.func11
theorem F13:fT 13 Tryz.f13:=fN Tryz.func13
theorem F17:fT 17 Tryz.f17:=fN Tryz.func17
theorem F18:fT 18 Tryz.f18:=fN Tryz.func18
theorem F19:fT 19 Tryz.f19:=fN Tryz.func19
theorem F20:fT 20 Tryz.f20:=fN Tryz.func20
theorem F23:fT 23 Tryz.f23:=fN Tryz.func23
theorem F24:fT 24 Tryz.f24:=fN Tryz.func24
theorem F25:fT 25 Tryz.f25:=fN Tryz.func25
theorem F33:fT 33 Tryz.f33:=fN Tryz.func33
theorem F36:fT 36 Tryz.f36:=fN Tryz.func36
theorem F38:fT 38 Tryz.f38:=fN Tryz.func38
theorem F39:fT 39 Tryz.f39:=fN Tryz.func39
theorem F40:fT 40 Tryz.f40:=fN Tryz.func40
theorem F41:fT 41 Tryz.f41:=fN Tryz.func41
theorem F42:fT 42 Tryz.f42:=fN Tryz.func42
theorem F43:fT 43 Tryz.f43:=fN Tryz.func43
theorem F44:fT 44 Tryz.f44:=fN Tryz.func44
theorem F52:fT 52 Tryz.f52:=fN Tryz.func52
theorem F57:fT 57 Tryz.f57:=fN Tryz.func57
theorem F60:fT 60 Tryz.f60:=fN Tryz.func60
theorem F61:fT 61 Tryz.f61:=fN Tryz.func61
theorem F62:fT 62 Tryz.f62:=fN Tryz.func62
theorem F63:fT 63 Tryz.f63:=fN Tryz.func63
theorem F64:fT 64 Tryz.f64:=fN Tryz.func64
theorem F65:fT 65 Tryz.f65:=fN Tryz.func65
theorem F66:fT 66 Tryz.f66:=fN Tryz.func66
theorem F67:fT 67 Tryz.f67:=fN Tryz.func67
theorem F68:fT 68 Tryz.f68:=fN Tryz.func68
theorem F69:fT 69 Tryz.f69:=fN Tryz.func69
theorem F70:fT 70 Tryz.f70:=fN Tryz.func70
theorem F71:fT 71 Tryz.f71:=fN Tryz.func71
theorem F72:fT 72 Tryz.f72:=fN Tryz.func72
theorem F73:fT 73 Tryz.f73:=fN Tryz.func73
theorem F74:fT 74 Tryz.f74:=fN Tryz.func74
theorem F75:fT 75 Tryz.f75:=fN Tryz.func75
theorem F76:fT 76 Tryz.f76:=fN Tryz.func76
theorem F77:fT 77 Tryz.f77:=fN Tryz.func77
theorem F78:fT 78 Tryz.f78:=fN Tryz.func78
theorem F79:fT 79 Tryz.f79:=fN Tryz.func79
theorem F80:fT 80 Tryz.f80:=fN Tryz.func80
theorem F81:fT 81 Tryz.f81:=fN Tryz.func81
theorem F82:fT 82 Tryz.f82:=fN Tryz.func82
theorem F83:fT 83 Tryz.f83:=fN Tryz.func83
theorem F84:fT 84 Tryz.f84:=fN Tryz.func84
theorem F85:fT 85 Tryz.f85:=fN Tryz.func85
theorem F86:fT 86 Tryz.f86:=fN Tryz.func86
theorem F100:fT 100 Tryz.f100:=fN Tryz.func100
theorem F111:fT 111 Tryz.f111:=fN Tryz.func111
theorem F112:fT 112 Tryz.f112:=fN Tryz.func112
theorem F117:fT 117 Tryz.f117:=fN Tryz.func117
theorem F119:fT 119 Tryz.f119:=fN Tryz.func119
theorem F121:fT 121 Tryz.f121:=fN Tryz.func121
theorem F124:fT 124 Tryz.f124:=fN Tryz.func124
theorem F126:fT 126 Tryz.f126:=fN Tryz.func126
theorem F127:fT 127 Tryz.f127:=fN Tryz.func127
theorem F128:fT 128 Tryz.f128:=fN Tryz.func128
theorem F129:fT 129 Tryz.f129:=fN Tryz.func129
theorem F130:fT 130 Tryz.f130:=fN Tryz.func130
theorem F131:fT 131 Tryz.f131:=fN Tryz.func131
theorem F132:fT 132 Tryz.f132:=fN Tryz.func132
theorem F133:fT 133 Tryz.f133:=fN Tryz.func133
theorem F134:fT 134 Tryz.f134:=fN Tryz.func134
theorem F135:fT 135 Tryz.f135:=fN Tryz.func135
theorem F136:fT 136 Tryz.f136:=fN Tryz.func136
theorem F137:fT 137 Tryz.f137:=fN Tryz.func137
theorem F138:fT 138 Tryz.f138:=fN Tryz.func138
theorem F139:fT 139 Tryz.f139:=fN Tryz.func139
theorem F140:fT 140 Tryz.f140:=fN Tryz.func140
theorem F141:fT 141 Tryz.f141:=fN Tryz.func141
theorem F142:fT 142 Tryz.f142:=fN Tryz.func142
theorem F143:fT 143 Tryz.f143:=fN Tryz.func143
theorem F145:fT 145 Tryz.f145:=fN Tryz.func145
theorem F146:fT 146 Tryz.f146:=fN Tryz.func146
theorem F149:fT 149 Tryz.f149:=fN Tryz.func149
theorem F150:fT 150 Tryz.f150:=fN Tryz.func150
theorem F151:fT 151 Tryz.f151:=fN Tryz.func151
theorem F152:fT 152 Tryz.f152:=fN Tryz.func152
theorem F153:fT 153 Tryz.f153:=fN Tryz.func153
theorem F154:fT 154 Tryz.f154:=fN Tryz.func154
theorem F155:fT 155 Tryz.f155:=fN Tryz.func155
theorem F156:fT 156 Tryz.f156:=fN Tryz.func156
theorem F157:fT 157 Tryz.f157:=fN Tryz.func157
theorem F158:fT 158 Tryz.f158:=fN Tryz.func158
theorem F159:fT 159 Tryz.f159:=fN Tryz.func159
theorem F160:fT 160 Tryz.f160:=fN Tryz.func160
theorem F161:fT 161 Tryz.f161:=fN Tryz.func161
theorem F162:fT 162 Tryz.f162:=fN Tryz.func162
theorem F163:fT 163 Tryz.f163:=fN Tryz.func163
theorem F164:fT 164 Tryz.f164:=fN Tryz.func164
theorem F165:fT 165 Tryz.f165:=fN Tryz.func165
theorem F166:fT 166 Tryz.f166:=fN Tryz.func166
theorem F167:fT 167 Tryz.f167:=fN Tryz.func167
theorem F168:fT 168 Tryz.f168:=fN Tryz.func168
theorem F169:fT 169 Tryz.f169:=fN Tryz.func169
theorem F170:fT 170 Tryz.f170:=fN Tryz.func170
theorem F171:fT 171 Tryz.f171:=fN Tryz.func171
theorem F172:fT 172 Tryz.f172:=fN Tryz.func172
theorem F173:fT 173 Tryz.f173:=fN Tryz.func173
theorem F174:fT 174 Tryz.f174:=fN Tryz.func174
theorem F175:fT 175 Tryz.f175:=fN Tryz.func175
theorem F176:fT 176 Tryz.f176:=fN Tryz.func176
theorem F177:fT 177 Tryz.f177:=fN Tryz.func177
theorem F178:fT 178 Tryz.f178:=fN Tryz.func178
theorem F179:fT 179 Tryz.f179:=fN Tryz.func179
theorem F180:fT 180 Tryz.f180:=fN Tryz.func180
theorem F181:fT 181 Tryz.f181:=fN Tryz.func181
theorem F184:fT 184 Tryz.f184:=fN Tryz.func184
theorem F204:fT 204 Tryz.f204:=fN Tryz.func204
theorem F205:fT 205 Tryz.f205:=fN Tryz.func205
theorem F206:fT 206 Tryz.f206:=fN Tryz.func206
theorem F209:fT 209 Tryz.f209:=fN Tryz.func209
theorem F210:fT 210 Tryz.f210:=fN Tryz.func210
theorem F211:fT 211 Tryz.f211:=fN Tryz.func211
theorem F212:fT 212 Tryz.f212:=fN Tryz.func212
theorem F213:fT 213 Tryz.f213:=fN Tryz.func213
theorem F214:fT 214 Tryz.f214:=fN Tryz.func214
theorem F215:fT 215 Tryz.f215:=fN Tryz.func215
theorem F216:fT 216 Tryz.f216:=fN Tryz.func216
theorem F217:fT 217 Tryz.f217:=fN Tryz.func217
theorem F218:fT 218 Tryz.f218:=fN Tryz.func218
theorem F219:fT 219 Tryz.f219:=fN Tryz.func219
theorem F220:fT 220 Tryz.f220:=fN Tryz.func220
theorem F221:fT 221 Tryz.f221:=fN Tryz.func221
theorem F222:fT 222 Tryz.f222:=fN Tryz.func222
theorem F223:fT 223 Tryz.f223:=fN Tryz.func223
theorem F224:fT 224 Tryz.f224:=fN Tryz.func224
theorem F225:fT 225 Tryz.f225:=fN Tryz.func225
theorem F226:fT 226 Tryz.f226:=fN Tryz.func226
theorem F227:fT 227 Tryz.f227:=fN Tryz.func227
theorem F228:fT 228 Tryz.f228:=fN Tryz.func228
theorem F229:fT 229 Tryz.f229:=fN Tryz.func229
theorem F230:fT 230 Tryz.f230:=fN Tryz.func230
theorem F231:fT 231 Tryz.f231:=fN Tryz.func231
theorem F232:fT 232 Tryz.f232:=fN Tryz.func232
theorem F233:fT 233 Tryz.f233:=fN Tryz.func233
theorem F234:fT 234 Tryz.f234:=fN Tryz.func234
theorem F235:fT 235 Tryz.f235:=fN Tryz.func235
theorem F236:fT 236 Tryz.f236:=fN Tryz.func236
theorem F237:fT 237 Tryz.f237:=fN Tryz.func237
theorem F238:fT 238 Tryz.f238:=fN Tryz.func238
theorem F239:fT 239 Tryz.f239:=fN Tryz.func239
theorem F240:fT 240 Tryz.f240:=fN Tryz.func240
theorem F241:fT 241 Tryz.f241:=fN Tryz.func241
theorem F242:fT 242 Tryz.f242:=fN Tryz.func242
theorem F243:fT 243 Tryz.f243:=fN Tryz.func243
theorem F245:fT 245 Tryz.f245:=fN Tryz.func245
theorem F246:fT 246 Tryz.f246:=fN Tryz.func246
theorem F247:fT 247 Tryz.f247:=fN Tryz.func247
theorem F248:fT 248 Tryz.f248:=fN Tryz.func248
theorem F249:fT 249 Tryz.f249:=fN Tryz.func249
theorem F250:fT 250 Tryz.f250:=fN Tryz.func250
theorem F251:fT 251 Tryz.f251:=fN Tryz.func251
theorem F252:fT 252 Tryz.f252:=fN Tryz.func252
theorem F253:fT 253 Tryz.f253:=fN Tryz.func253
theorem F254:fT 254 Tryz.f254:=fN Tryz.func254
theorem F263:fT 263 Tryz.f263:=fN Tryz.func263
theorem F280:fT 280 Tryz.f280:=fN Tryz.func280
theorem F281:fT 281 Tryz.f281:=fN Tryz.func281
theorem F282:fT 282 Tryz.f282:=fN Tryz.func282
theorem F283:fT 283 Tryz.f283:=fN Tryz.func283
theorem F284:fT 284 Tryz.f284:=fN Tryz.func284
theorem F285:fT 285 Tryz.f285:=fN Tryz.func285
theorem F286:fT 286 Tryz.f286:=fN Tryz.func286
theorem F287:fT 287 Tryz.f287:=fN Tryz.func287
theorem F288:fT 288 Tryz.f288:=fN Tryz.func288
theorem F292:fT 292 Tryz.f292:=fN Tryz.func292
theorem F293:fT 293 Tryz.f293:=fN Tryz.func293
theorem F294:fT 294 Tryz.f294:=fN Tryz.func294
theorem F295:fT 295 Tryz.f295:=fN Tryz.func295
theorem F296:fT 296 Tryz.f296:=fN Tryz.func296
theorem F297:fT 297 Tryz.f297:=fN Tryz.func297
theorem F298:fT 298 Tryz.f298:=fN Tryz.func298
theorem F299:fT 299 Tryz.f299:=fN Tryz.func299
theorem F300:fT 300 Tryz.f300:=fN Tryz.func300
theorem F301:fT 301 Tryz.f301:=fN Tryz.func301
theorem F302:fT 302 Tryz.f302:=fN Tryz.func302
theorem F304:fT 304 Tryz.f304:=fN Tryz.func304
theorem F305:fT 305 Tryz.f305:=fN Tryz.func305
theorem F306:fT 306 Tryz.f306:=fN Tryz.func306
theorem F307:fT 307 Tryz.f307:=fN Tryz.func307
theorem F308:fT 308 Tryz.f308:=fN Tryz.func308
theorem F309:fT 309 Tryz.f309:=fN Tryz.func309
theorem F310:fT 310 Tryz.f310:=fN Tryz.func310
theorem F311:fT 311 Tryz.f311:=fN Tryz.func311
theorem F312:fT 312 Tryz.f312:=fN Tryz.func312
theorem F313:fT 313 Tryz.f313:=fN Tryz.func313
theorem F314:fT 314 Tryz.f314:=fN Tryz.func314
theorem F315:fT 315 Tryz.f315:=fN Tryz.func315
theorem F316:fT 316 Tryz.f316:=fN Tryz.func316
theorem F317:fT 317 Tryz.f317:=fN Tryz.func317
theorem F318:fT 318 Tryz.f318:=fN Tryz.func318
theorem F325:fT 325 Tryz.f325:=fN Tryz.func325
theorem F337:fT 337 Tryz.f337:=fN Tryz.func337
theorem F338:fT 338 Tryz.f338:=fN Tryz.func338
theorem F339:fT 339 Tryz.f339:=fN Tryz.func339
theorem F340:fT 340 Tryz.f340:=fN Tryz.func340
theorem F341:fT 341 Tryz.f341:=fN Tryz.func341
theorem F342:fT 342 Tryz.f342:=fN Tryz.func342
theorem F343:fT 343 Tryz.f343:=fN Tryz.func343
theorem F344:fT 344 Tryz.f344:=fN Tryz.func344
theorem F345:fT 345 Tryz.f345:=fN Tryz.func345
theorem F346:fT 346 Tryz.f346:=fN Tryz.func346
theorem F347:fT 347 Tryz.f347:=fN Tryz.func347
theorem F348:fT 348 Tryz.f348:=fN Tryz.func348
theorem F349:fT 349 Tryz.f349:=fN Tryz.func349
theorem F350:fT 350 Tryz.f350:=fN Tryz.func350
theorem F356:fT 356 Tryz.f356:=fN Tryz.func356
theorem F357:fT 357 Tryz.f357:=fN Tryz.func357
theorem F358:fT 358 Tryz.f358:=fN Tryz.func358
theorem F359:fT 359 Tryz.f359:=fN Tryz.func359
theorem F360:fT 360 Tryz.f360:=fN Tryz.func360
theorem F361:fT 361 Tryz.f361:=fN Tryz.func361
theorem F362:fT 362 Tryz.f362:=fN Tryz.func362
theorem F363:fT 363 Tryz.f363:=fN Tryz.func363
theorem F364:fT 364 Tryz.f364:=fN Tryz.func364
theorem F365:fT 365 Tryz.f365:=fN Tryz.func365
theorem F366:fT 366 Tryz.f366:=fN Tryz.func366
theorem F368:fT 368 Tryz.f368:=fN Tryz.func368
theorem F369:fT 369 Tryz.f369:=fN Tryz.func369
theorem F370:fT 370 Tryz.f370:=fN Tryz.func370
theorem F371:fT 371 Tryz.f371:=fN Tryz.func371
theorem F372:fT 372 Tryz.f372:=fN Tryz.func372
theorem F373:fT 373 Tryz.f373:=fN Tryz.func373
theorem F374:fT 374 Tryz.f374:=fN Tryz.func374
theorem F375:fT 375 Tryz.f375:=fN Tryz.func375
theorem F376:fT 376 Tryz.f376:=fN Tryz.func376
theorem F377:fT 377 Tryz.f377:=fN Tryz.func377
theorem F378:fT 378 Tryz.f378:=fN Tryz.func378
theorem F383:fT 383 Tryz.f383:=fN Tryz.func383
theorem F404:fT 404 Tryz.f404:=fN Tryz.func404
theorem F405:fT 405 Tryz.f405:=fN Tryz.func405
theorem F406:fT 406 Tryz.f406:=fN Tryz.func406
theorem F407:fT 407 Tryz.f407:=fN Tryz.func407
theorem F408:fT 408 Tryz.f408:=fN Tryz.func408
theorem F409:fT 409 Tryz.f409:=fN Tryz.func409
theorem F410:fT 410 Tryz.f410:=fN Tryz.func410
theorem F411:fT 411 Tryz.f411:=fN Tryz.func411
theorem F412:fT 412 Tryz.f412:=fN Tryz.func412
theorem F413:fT 413 Tryz.f413:=fN Tryz.func413
theorem F414:fT 414 Tryz.f414:=fN Tryz.func414
theorem F415:fT 415 Tryz.f415:=fN Tryz.func415
theorem F417:fT 417 Tryz.f417:=fN Tryz.func417
theorem F418:fT 418 Tryz.f418:=fN Tryz.func418
theorem F419:fT 419 Tryz.f419:=fN Tryz.func419
theorem F420:fT 420 Tryz.f420:=fN Tryz.func420
theorem F421:fT 421 Tryz.f421:=fN Tryz.func421
theorem F422:fT 422 Tryz.f422:=fN Tryz.func422
theorem F424:fT 424 Tryz.f424:=fN Tryz.func424
theorem F425:fT 425 Tryz.f425:=fN Tryz.func425
theorem F426:fT 426 Tryz.f426:=fN Tryz.func426
theorem F427:fT 427 Tryz.f427:=fN Tryz.func427
theorem F439:fT 439 Tryz.f439:=fN Tryz.func439
theorem F440:fT 440 Tryz.f440:=fN Tryz.func440
theorem F441:fT 441 Tryz.f441:=fN Tryz.func441
theorem F442:fT 442 Tryz.f442:=fN Tryz.func442
theorem F443:fT 443 Tryz.f443:=fN Tryz.func443
theorem F444:fT 444 Tryz.f444:=fN Tryz.func444
theorem rg {F:Fr} {n:Nat} {B:Exit→Act→World→Prop} {bn:List Nat} {hbn:∀ k,F.k0 k≠.new→k∈bn} {k:List KI} {s:SS} (h:Ks ⟨Tryz.prog,Γ.toTy,F,n,B,bn,hbn⟩ Γ 400 k s):G ⟨Tryz.prog,Γ.toTy,F,n,B,bn,hbn⟩ k s:=rG Γ hm h
theorem rd {F:Fr} {n:Nat} {B:Exit→Act→World→Prop} {bn:List Nat} {hbn:∀ k,F.k0 k≠.new→k∈bn} {k:List KI} {s:SS} {all:Array Oper} {done:List Stp} {rest:List Oper} (hs:all.toList=done.map (·.o)++rest) (h:T5 ⟨Tryz.prog,Γ.toTy,F,n,B,bn,hbn⟩ Γ 400 k all done rest s):DR ⟨Tryz.prog,Γ.toTy,F,n,B,bn,hbn⟩ k all done rest s:=rD Γ hm hs h
structure Bq (Q:Prop):Prop where out:Q
theorem oO {P Q:Prop} (h:Q) (e:Bq Q→P:=by intro hb;refine rg ?_;(conv=>whnf);exact hb.out):P:=e ⟨h⟩
theorem oF {P Q:Prop} (h:Q) (e:Bq Q→P:=by intro hb;refine rg ?_;(conv=>whnf);refine aF ?_;refine rg ?_;(conv=>whnf);exact hb.out):P:=e ⟨h⟩
theorem oT {P Q:Prop} (h:Q) (e:Bq Q→P:=by intro hb;refine rg ?_;(conv=>whnf);refine aT ?_;refine rg ?_;(conv=>whnf);exact hb.out):P:=e ⟨h⟩
theorem bF {P Q:Prop} (h:Q) (e:Bq Q→P:=by intro hb;refine aF ?_;refine rg ?_;(conv=>whnf);exact hb.out):P:=e ⟨h⟩
theorem bT {P Q:Prop} (h:Q) (e:Bq Q→P:=by intro hb;refine aT ?_;refine rg ?_;(conv=>whnf);exact hb.out):P:=e ⟨h⟩
theorem oD {P Q:Prop} (h:Q) (e:Bq Q→P:=by intro hb;refine rd j_ ?_;(conv=>whnf);exact hb.out):P:=e ⟨h⟩
theorem dN {P:Prop} (h:P:=by
 apply Ar
 ·exact Y
 ·(repeat (first | exact ResVs.nil | (apply ResVs.cons;(first | exact .tmp | exact .cell rfl rfl rfl rfl))))
 ·exact Y
 ·exact Y):P:=h
theorem iL {a:Int} {K:Prop} (h:K) (e:I64 a:=by unfold I64;omega):I64 a∧K:=⟨e,h⟩
theorem iW {a:Int} {K Q:Prop} (h:Q) (e:I64 a:=by unfold I64;omega) (e2:Bq Q→K:=by intro hb;(conv=>whnf);exact hb.out):I64 a∧K:=⟨e,e2 ⟨h⟩⟩
theorem kW {α:Sort _} {a b:α} {K Q:Prop} (h:Q) (e:a=b:=by kernel_rfl) (e2:Bq Q→K:=by intro hb;(conv=>whnf);exact hb.out):a=b∧K:=⟨e,e2 ⟨h⟩⟩
theorem c0 {C:Cx} {k:List KI} {s:SS} {all:Array Oper} {o:Oper} {rest:List Oper} {f:FuncId} {fn:Func} {c:Code} {xs:List Operand} {ts:Array TypeId} {A:List SV} {R:SV} (hs:Sy.Spec C.P f A [] R []) (hf:Fun C.P f fn c) (hg:G C (.ops all rest::k) (s.upd o.dst ⟨R,[],[]⟩)) (h:o.op=.call ⟨.value (.func f),xs.toArray,ts⟩:=by exact rfl)
  (hA:A=xs.map (ev s):=by exact rfl) (hok:(C6 [] A && R.inn [])=true:=by exact rfl) (hd:Q6 C.n o=true:=by exact rfl) (hw:E7 C.n all o s=some true:=by exact rfl):G C (.ops all (o::rest)::k) s:=Mq hs hf h hA hok hd hw hg
theorem cD {C:Cx} {k:List KI} {s:SS} {all:Array Oper} {done:List Stp} {o:Oper} {rest:List Oper} {f:FuncId} {fn:Func} {c:Code} {xs:List Operand} {ts:Array TypeId} {A:List SV} {R:SV} (hs:Sy.Spec C.P f A [] R []) (hf:Fun C.P f fn c) (hg:DR C k all (done++[⟨done.length,o,⟨R,[],[]⟩,true⟩]) rest (s.upd o.dst ⟨R,[],[]⟩)) (h:o.op=.call ⟨.value (.func f),xs.toArray,ts⟩:=by exact rfl)
  (hA:A=xs.map (ev s):=by exact rfl) (hok:(C6 [] A && R.inn [])=true:=by exact rfl) (hi:all[done.length]? = some o:=by kernel_rfl) (hw:E7 C.n all o s=some true:=by exact rfl):DR C k all done (o::rest) s:=Ao1 hs hf h hA hok hi hw hg
theorem qA {p q:Prop} [Decidable p] (h:decide p=true) (e:p→q:=by intro _h;omega):q:=e (of_decide_eq_true h)
theorem qB {p q:Prop} [Decidable p] (h:decide p=false) (e:¬ p→q:=by intro _h;omega):q:=e (of_decide_eq_false h)
end Go.Sy.YtjenpnjajjplkaaGreatDoor
namespace Go.Sy.YtjenpnjajjplkaaGreatDoor
open Go.Proofs
structure Device where
 (row prio:Int) (name:ByteArray) (mac vtep:Int)
structure Port where
 (row dev native cost link:Int) (name:ByteArray) (tagged:List Int)
structure Link where
 (row a b:Int)
structure Domain where
 (dev vlan vni irb row:Int) (peers:List Int)
structure Static where
 (row domain port mac:Int)
structure Flood where
 (row dev vni:Int) (addrs:List Int)
structure Vrf where
 (row dev:Int) (name:ByteArray) (imports exports:List Int)
structure Irb where
 (row domain vrf addr bits:Int)
structure Net where
 (devices:List Device) (ports:List Port) (links:List Link) (domains:List Domain) (statics:List Static) (floods:List Flood) (vrfs:List Vrf) (irbs:List Irb)
def Az (d:Device):SV:=.agg [Aa d.row,Aa d.prio,Ad d.name,B4 d.mac,A3 d.vtep]
def Bb (p:Port):SV:=.agg [Aa p.row,Aa p.dev,Aa p.native,Aa p.cost,Aa p.link,Ad p.name,.sl 1 Aa p.tagged]
def B2 (l:Link):SV:=.agg [Aa l.row,Aa l.a,Aa l.b]
def Am (d:Domain):SV:=.agg [Aa d.dev,Aa d.vlan,Aa d.vni,Aa d.irb,Aa d.row,.sl 1 Aa d.peers]
def A8 (s:Static):SV:=.agg [Aa s.row,Aa s.domain,Aa s.port,B4 s.mac]
def A4 (f:Flood):SV:=.agg [Aa f.row,Aa f.dev,Aa f.vni,.sl 1 A3 f.addrs]
def Cd (v:Vrf):SV:=.agg [Aa v.row,Aa v.dev,Ad v.name,.sl 1 Aa v.imports,.sl 1 Aa v.exports]
def Cf (i:Irb):SV:=.agg [Aa i.row,Aa i.domain,Aa i.vrf,A3 i.addr,Aa i.bits]
def Bj (n:Net):List SV:=[.sl 5 Az n.devices,.sl 7 Bb n.ports,.sl 3 B2 n.links,.sl 6 Am n.domains,.sl 4 A8 n.statics,.sl 4 A4 n.floods,.sl 5 Cd n.vrfs,.sl 5 Cf n.irbs]
def Aj (n:Net):SV:=.agg [.sl 5 Az n.devices,.sl 7 Bb n.ports,.sl 3 B2 n.links,.sl 6 Am n.domains,.sl 4 A8 n.statics,.sl 4 A4 n.floods,.sl 5 Cd n.vrfs,.sl 5 Cf n.irbs]
instance:Inhabited Device:=⟨⟨0,0,.empty,0,0⟩⟩
instance:Inhabited Port:=⟨⟨0,0,0,0,0,.empty,[]⟩⟩
instance:Inhabited Link:=⟨⟨0,0,0⟩⟩
instance:Inhabited Domain:=⟨⟨0,0,0,0,0,[]⟩⟩
instance:Inhabited Static:=⟨⟨0,0,0,0⟩⟩
instance:Inhabited Flood:=⟨⟨0,0,0,[]⟩⟩
instance:Inhabited Vrf:=⟨⟨0,0,.empty,[],[]⟩⟩
instance:Inhabited Irb:=⟨⟨0,0,0,0,0⟩⟩
def Ap (i:Int) (n:Nat):Bool:=decide (0≤i) && decide (i<n)
def inB (l:List Int) (x:Int):Bool:=l.any (· == x)
def nth {α:Type} [Inhabited α] (l:List α) (i:Int):α:=(l[i.toNat]?).getD default
theorem As {α:Type} [Inhabited α] {l:List α} {i:Int} (h:i.toNat<l.length):nth l i=l[i.toNat]:=by
 simp[nth,h]
def Dl {α:Type} (p:α→Bool) (l:List α):Int:=match l.findIdx? p with | some i=>(i:Int) | none=>-1
theorem Ck {α:Type} {p:α→Bool} {l:List α} {j:Nat} (h:j<l.length) (h1:∀ i (hi:i<l.length),i<j→p l[i]=false) (h2:p l[j]=true):Dl p l=j:=by
 have:l.findIdx? p=some j:=by
  rw[List.findIdx?_eq_some_iff_getElem]
  exact⟨h,h2,fun i hi=>by simp[h1 i z_ hi]⟩
 simp[Dl,this]
theorem C2 {α:Type} {p:α→Bool} {l:List α} (h1:∀ i (hi:i<l.length),p l[i]=false):Dl p l=-1:=by
 have:l.findIdx? p=none:=by
  rw[List.findIdx?_eq_none_iff]
  intro x hx
  obtain ⟨i,hi,rfl⟩:=List.mem_iff_getElem.1 hx
  exact h1 i hi
 simp[Dl,this]
theorem Abx {α:Type} (p:α→Bool) (l:List α):Dl p l<l.length:=by
 unfold Dl
 split
 ·rename_i i h
  rw[List.findIdx?_eq_some_iff_getElem]at h
  obtain ⟨h,_⟩:=h
  omega
 ·omega
theorem Km {α:Type} (p:α→Bool) (l:List α):decide (0≤Dl p l)=l.any p:=by
 unfold Dl
 split
 ·rename_i i h
  rw[List.findIdx?_eq_some_iff_getElem]at h
  obtain ⟨h,h2,_⟩:=h
  have:l.any p=true:=List.any_eq_true.2 ⟨_,List.getElem_mem h,h2⟩
  rw[this]
  simp
 ·rename_i h
  rw[List.findIdx?_eq_none_iff]at h
  have:l.any p=false:=by
   rw[List.any_eq_false]
   intro x hx
   simp[h x hx]
  rw[this]
  simp
def Dt {α:Type} (p:Nat→α→Bool) (l:List α):Bool:=l.zipIdx.all fun q=>p q.2 q.1
theorem allB_iff {α:Type} {p:Nat→α→Bool} {l:List α}:Dt p l=true↔∀ i (h:i<l.length),p i l[i]=true:=by
 simp only[Dt,List.all_eq_true]
 constructor
 ·intro h i hi
  exact h (l[i],i) (by rw[List.mk_mem_zipIdx_iff_getElem?];simp[hi])
 ·rintro h ⟨x,i⟩ hx
  rw[List.mk_mem_zipIdx_iff_getElem?]at hx
  obtain ⟨hi,rfl⟩:=List.getElem?_eq_some_iff.1 hx
  exact h i hi
theorem Al5 {α:Type} {p:Nat→α→Bool} {l:List α} (h:∀ i (h:i<l.length),p i l[i]=true):Dt p l=true:=allB_iff.2 h
theorem Be {α:Type} {p:Nat→α→Bool} {l:List α} {i:Nat} (h:i<l.length) (h1:p i l[i]=false):Dt p l=false:=by
 cases hh:Dt p l with
 | false=>rfl
 | true=>have:=allB_iff.1 hh i h;rw[h1]at this;cases this
def Da {α:Type} (p:Nat→α→Bool) (l:List α) (j:Nat):Prop:=∀ i (h:i<l.length),i<j→p i l[i]=true
theorem Av {α:Type} (p:Nat→α→Bool) (l:List α):Da p l 0:=fun i h hj=>absurd hj z_
theorem Aq {α:Type} {p:Nat→α→Bool} {l:List α} {j:Nat} (hI:Da p l j) (hj:j<l.length) (h:p j l[j]=true):Da p l (j+1):=by
 intro i hi hij
 rcases Nat.lt_or_ge i j with h1 | h1
 ·exact hI i hi h1
 ·have:i=j:=by omega
  subst this
  exact h
theorem Ci {α:Type} {p:Nat→α→Bool} {l:List α} {j:Nat} (hI:Da p l j) (hj:l.length≤j):Dt p l=true:=Al5 fun i hi=>hI i hi z_
def At {α:Type} (l:List α):Prop:=l.length<2147483648
end Go.Sy.YtjenpnjajjplkaaGreatDoor
namespace Go.Sy.YtjenpnjajjplkaaGreatDoor
open Go.Proofs
attribute [local irreducible] Go.Sy.G Go.Sy.DR
set_option maxRecDepth 20000
set_option maxHeartbeats 4000000
theorem Hq {α:Type} (sz:Nat) (e:α→SV) (l:List α) (i:Int):Sy.Spec Tryz.prog 81 [.sl sz e l,Aa i] [] (Ab (Ap i l.length)) []:=cT F81 Tryz.ntmps81 fun F hF=>by
 conv=>whnf
 (repeat' (first | (refine⟨fun h=>?_,fun h=>?_⟩<;>(repeat (first | simp only[decide_eq_true_eq]at h | simp only[decide_eq_false_iff_not]at h))<;>((refine oO ?_))) | (refine Ar rfl (.cons .tmp .nil) ?_ rfl)))
 all_goals (refine congrArg Ab ?_)
 all_goals grind [Ap]
theorem Ahl {α:Type} (sz:Nat) (e:α→SV) (l:List α) (i:Int):Sy.Spec Tryz.prog 170 [.sl sz e l,Aa i] [] (Ab (Ap i l.length)) []:=cT F170 Tryz.ntmps170 fun F hF=>by
 conv=>whnf
 (repeat' (first | (refine⟨fun h=>?_,fun h=>?_⟩<;>(repeat (first | simp only[decide_eq_true_eq]at h | simp only[decide_eq_false_iff_not]at h))<;>((refine oO ?_))) | (refine Ar rfl (.cons .tmp .nil) ?_ rfl)))
 all_goals (refine congrArg Ab ?_)
 all_goals grind [Ap]
theorem Ad0 {α:Type} (sz:Nat) (e:α→SV) (l:List α) (i:Int):Sy.Spec Tryz.prog 176 [.sl sz e l,Aa i] [] (Ab (Ap i l.length)) []:=cT F176 Tryz.ntmps176 fun F hF=>by
 conv=>whnf
 (repeat' (first | (refine⟨fun h=>?_,fun h=>?_⟩<;>(repeat (first | simp only[decide_eq_true_eq]at h | simp only[decide_eq_false_iff_not]at h))<;>((refine oO ?_))) | (refine Ar rfl (.cons .tmp .nil) ?_ rfl)))
 all_goals (refine congrArg Ab ?_)
 all_goals grind [Ap]
theorem M9 {α:Type} (sz:Nat) (e:α→SV) (l:List α) (i:Int):Sy.Spec Tryz.prog 177 [.sl sz e l,Aa i] [] (Ab (Ap i l.length)) []:=cT F177 Tryz.ntmps177 fun F hF=>by
 conv=>whnf
 (repeat' (first | (refine⟨fun h=>?_,fun h=>?_⟩<;>(repeat (first | simp only[decide_eq_true_eq]at h | simp only[decide_eq_false_iff_not]at h))<;>((refine oO ?_))) | (refine Ar rfl (.cons .tmp .nil) ?_ rfl)))
 all_goals (refine congrArg Ab ?_)
 all_goals grind [Ap]
theorem K7 {α:Type} (sz:Nat) (e:α→SV) (l:List α) (i:Int):Sy.Spec Tryz.prog 178 [.sl sz e l,Aa i] [] (Ab (Ap i l.length)) []:=cT F178 Tryz.ntmps178 fun F hF=>by
 conv=>whnf
 (repeat' (first | (refine⟨fun h=>?_,fun h=>?_⟩<;>(repeat (first | simp only[decide_eq_true_eq]at h | simp only[decide_eq_false_iff_not]at h))<;>((refine oO ?_))) | (refine Ar rfl (.cons .tmp .nil) ?_ rfl)))
 all_goals (refine congrArg Ab ?_)
 all_goals grind [Ap]
theorem Ahk {α:Type} (sz:Nat) (e:α→SV) (l:List α) (i:Int):Sy.Spec Tryz.prog 181 [.sl sz e l,Aa i] [] (Ab (Ap i l.length)) []:=cT F181 Tryz.ntmps181 fun F hF=>by
 conv=>whnf
 (repeat' (first | (refine⟨fun h=>?_,fun h=>?_⟩<;>(repeat (first | simp only[decide_eq_true_eq]at h | simp only[decide_eq_false_iff_not]at h))<;>((refine oO ?_))) | (refine Ar rfl (.cons .tmp .nil) ?_ rfl)))
 all_goals (refine congrArg Ab ?_)
 all_goals grind [Ap]
theorem Aob (l:List Int) (x:Int) (hl:At l):Sy.Spec Tryz.prog 175 [.sl 1 Aa l,Aa x] [] (Aa (Dl (· == x) l)) []:=cT F175 Tryz.ntmps175 fun F hF=>by
 unfold At at hl
 conv=>whnf
 refine A2 l.length (fun j=>∀ i (h:i<l.length),i<j→(l[i] == x)=false) (fun j=>[(0,.sl 1 Aa l),(1,Aa x),(7,Aa l.length),(8,Aa j)]) (fun _=>[]) [] (fun i h hj=>absurd hj z_) ⟨⟨Y,Y,Y,Y,Y,Y,Y,Y,q_⟩,q_,Y,Y⟩ ?_
 intro j hj hI
 refine oO ?_
 (repeat' (first | (refine⟨fun h=>?_,fun h=>?_⟩<;>(repeat (first | simp only[decide_eq_true_eq]at h | simp only[decide_eq_false_iff_not]at h | simp only[beq_iff_eq]at h | simp only[beq_eq_false_iff_ne]at h))<;>((refine oO ?_))) | (refine Ar rfl (.cons .tmp .nil) ?_ rfl) | (refine⟨j_,?_⟩;((conv=>whnf))) | (refine⟨by (omega),by (omega),?_⟩;((conv=>whnf))) | (refine⟨by (unfold I64;omega),?_⟩;((conv=>whnf))) | refine Ba [] hI z_ ?_ ⟨⟨rfl,rfl,rfl,rfl,rfl,rfl,rfl,rfl,trivial⟩,trivial,rfl,rfl⟩))
 all_goals try (refine congrArg Aa ?_)
 ·exact Ck z_ hI (by simpa using h.symm)
 ·intro i hi hij
  rcases Nat.lt_or_ge i j with h1 | h1
  ·exact hI i hi h1
  ·have:i=j:=by omega
   subst this
   simpa using Ne.symm h
 ·exact C2 (fun i hi=>hI i hi z_)
theorem Ll (l:List Int) (x:Int) (hl:At l):Sy.Spec Tryz.prog 100 [.sl 1 Aa l,Aa x] [] (Ab (inB l x)) []:=cT F100 Tryz.ntmps100 fun F hF=>by
 conv=>whnf
 (repeat' (first | (refine Ar rfl (.cons .tmp .nil) ?_ rfl) | (refine c0 (Aob _ _ hl) F175 ?_;((refine oO ?_)))))
 exact congrArg Ab (Km _ _).symm
def C7 (p:Port) (v:Int):Bool:=v != 0 && (v == p.native || inB p.tagged v)
theorem Abm (p:Port) (v:Int) (hl:At p.tagged):Sy.Spec Tryz.prog 179 [Bb p,Aa v] [] (Ab (C7 p v)) []:=cT F179 Tryz.ntmps179 fun F hF=>by
 conv=>whnf
 (repeat' (first | (refine⟨fun h=>?_,fun h=>?_⟩<;>(repeat (first | simp only[beq_iff_eq]at h | simp only[beq_eq_false_iff_ne]at h | simp only[bne_iff_ne]at h | simp only[bne_eq_false_iff_eq]at h))<;>((refine oO ?_))) | (refine Ar rfl (.cons .tmp .nil) ?_ rfl) | (refine c0 (Ll _ _ hl) F100 ?_;((refine oO ?_)))))
 all_goals (refine congrArg Ab ?_)
 all_goals grind [C7]
def J0 (l:List Int) (least most:Int) (i:Nat) (x:Int):Bool:=decide (least≤x) && decide (x≤most) && (i == 0 || decide (nth l ((i:Int)-1)<x))
def Df (l:List Int) (least most:Int):Bool:=decide (0<l.length) && decide (l.length≤16) && Dt (J0 l least most) l
theorem Xq (l:List Int) (least most:Int) (hl:At l):Sy.Spec Tryz.prog 180 [.sl 1 Aa l,Aa least,Aa most] [] (Ab (Df l least most)) []:=cT F180 Tryz.ntmps180 fun F hF=>by
 unfold At at hl
 conv=>whnf
 refine A2 l.length (fun j=>Da (J0 l least most) l j) (fun j=>[(0,.sl 1 Aa l),(1,Aa least),(2,Aa most),(9,.sl 1 Aa l),(10,Aa l.length),(11,Aa j)]) (fun _=>[]) [] (Av _ _) ⟨⟨Y,Y,Y,Y,Y,Y,Y,Y,Y,Y,Y,Y,q_⟩,q_,Y,Y⟩ ?_
 intro j hj hI
 refine oO ?_
 (repeat' (first | (refine⟨fun h=>?_,fun h=>?_⟩<;>(repeat (first | simp only[decide_eq_true_eq]at h | simp only[decide_eq_false_iff_not]at h))<;>((refine oO ?_);repeat((first|refine aF ?_|refine aT ?_);(refine oO ?_)))) | (refine Ar rfl (.cons .tmp .nil) ?_ rfl) | (refine⟨j_,?_⟩;((conv=>whnf))) | (refine⟨by (first | (unfold I64;omega) | omega),by (omega),?_⟩;((conv=>whnf))) | (refine⟨by (unfold I64;omega),?_⟩;((conv=>whnf))) | refine Ba [] hI z_ ?_ ⟨⟨rfl,rfl,rfl,rfl,rfl,rfl,rfl,rfl,rfl,rfl,rfl,rfl,trivial⟩,trivial,rfl,rfl⟩))
 all_goals try (refine congrArg Ab ?_)
 all_goals try simp only[Int.toNat_natCast,Int.pred_toNat]at *
 ·rw[Df,Be (i:=j) z_ (by simp[J0];omega)];simp
 ·rw[Df,Be (i:=j) z_ (by simp[J0];omega)];simp
 ·rw[Df,Be (i:=j) z_ (by simp only[J0,As (show ((j:Int)-1).toNat<l.length by omega),Int.pred_toNat,Int.toNat_natCast];simp;omega)];simp
 ·exact Aq hI z_ (by simp only[J0,As (show ((j:Int)-1).toNat<l.length by omega),Int.pred_toNat,Int.toNat_natCast];simp;omega)
 ·exact Aq hI z_ (by simp[J0];omega)
 ·rw[Df,Ci hI z_,Bool.eq_iff_iff];simp;omega
 ·rw[Df];simp;omega
theorem Aa3 (l:List Int) (most:Int) (hl:At l):Sy.Spec Tryz.prog 84 [.sl 1 Aa l,Aa most] [] (Ab (decide (l.length=0) || Df l 1 most)) []:=cT F84 Tryz.ntmps84 fun F hF=>by
 conv=>whnf
 (repeat' (first | (refine⟨fun h=>?_,fun h=>?_⟩<;>(repeat (first | simp only[beq_iff_eq]at h | simp only[beq_eq_false_iff_ne]at h))<;>((refine oO ?_))) | (refine Ar rfl (.cons .tmp .nil) ?_ rfl) | (refine c0 (Xq l 1 most hl) F180 ?_;((refine oO ?_)))))
 all_goals (refine congrArg Ab ?_)
 all_goals grind
theorem E6 {K:List Nat}:∀ (a b:List SV),C6 K (a++b)=(C6 K a && C6 K b)
 | [],b=>by simp[C6]
 | x::a,b=>by simp[C6,E6 a b,Bool.and_assoc]
theorem Er {f:FuncId} {first cap xs:List SV} (hc:(SV.clo (.func f) first cap).inn []=true) (hx:C6 [] xs=true):C6 [] (first++xs++cap)=true:=by
 simp only[SV.inn,Bool.and_eq_true]at hc
 rw[E6,E6,hc.1,hc.2,hx]
 rfl
theorem Ez (l:List Domain) (p:Domain→Bool) (f:FuncId) (first cap:List SV) (hc:(SV.clo (.func f) first cap).inn []=true) (hf:∀ x∈l,Jz Tryz.prog f (first++[Am x]++cap) (Ab (p x))) (hl:At l) :
  Sy.Spec Tryz.prog 163 [.sl 6 Am l,.clo (.func f) first cap] [] (Aa (Dl p l)) []:=cT F163 Tryz.ntmps163 fun F hF=>by
 unfold At at hl
 have hin:∀ x:Domain,C6 [] (first++[Am x]++cap)=true:=fun x=>Er hc rfl
 conv=>whnf
 refine A2 l.length (fun j=>Da (fun _ x=>!(p x)) l j) (fun j=>[(0,.sl 6 Am l),(1,.clo (.func f) first cap),(7,Aa l.length),(8,Aa j)]) (fun _=>[]) [] (Av _ _) ⟨⟨Y,Y,B7 _,hc,Y,Y,Y,Y,q_⟩,q_,Y,Y⟩ ?_
 intro j hj hI
 refine oO ?_
 refine⟨fun h=>?_,fun h=>?_⟩
 ·have h:=of_decide_eq_true h
  have hj2:j<l.length:=by omega
  refine oO ?_
  refine⟨Y,by omega,by omega,?_⟩
  conv=>whnf
  refine Jq (hf l[j] (List.getElem_mem hj2)) Y Y Y (by simp only[hin];rfl) Y Y ?_
  refine oO ?_
  refine⟨fun h2=>?_,fun h2=>?_⟩
  ·refine oO ?_
   refine Ar Y (.cons .tmp .nil) (congrArg Aa ?_) Y
   exact Ck hj2 (fun i hi hij=>by simpa using hI i hi hij) h2
  ·refine oO ?_
   refine iW ?_
   exact Ba [] hI hj2 (Aq hI hj2 (by simp[h2])) ⟨⟨Y,Y,B7 _,hc,Y,Y,Y,Y,q_⟩,q_,Y,Y⟩
 ·have h:=of_decide_eq_false h
  refine oO ?_
  refine Ar Y (.cons .tmp .nil) (congrArg Aa ?_) Y
  exact C2 (fun i hi=>by simpa using hI i hi z_)
theorem Wh (l:List Port) (p:Port→Bool) (f:FuncId) (first cap:List SV) (hc:(SV.clo (.func f) first cap).inn []=true) (hf:∀ x∈l,Jz Tryz.prog f (first++[Bb x]++cap) (Ab (p x))) (hl:At l) :
  Sy.Spec Tryz.prog 121 [.sl 7 Bb l,.clo (.func f) first cap] [] (Aa (Dl p l)) []:=cT F121 Tryz.ntmps121 fun F hF=>by
 unfold At at hl
 have hin:∀ x:Port,C6 [] (first++[Bb x]++cap)=true:=fun x=>Er hc rfl
 conv=>whnf
 refine A2 l.length (fun j=>Da (fun _ x=>!(p x)) l j) (fun j=>[(0,.sl 7 Bb l),(1,.clo (.func f) first cap),(7,Aa l.length),(8,Aa j)]) (fun _=>[]) [] (Av _ _) ⟨⟨Y,Y,B7 _,hc,Y,Y,Y,Y,q_⟩,q_,Y,Y⟩ ?_
 intro j hj hI
 refine oO ?_
 refine⟨fun h=>?_,fun h=>?_⟩
 ·have h:=of_decide_eq_true h
  have hj2:j<l.length:=by omega
  refine oO ?_
  refine⟨Y,by omega,by omega,?_⟩
  conv=>whnf
  refine Jq (hf l[j] (List.getElem_mem hj2)) Y Y Y (by simp only[hin];rfl) Y Y ?_
  refine oO ?_
  refine⟨fun h2=>?_,fun h2=>?_⟩
  ·refine oO ?_
   refine Ar Y (.cons .tmp .nil) (congrArg Aa ?_) Y
   exact Ck hj2 (fun i hi hij=>by simpa using hI i hi hij) h2
  ·refine oO ?_
   refine iW ?_
   exact Ba [] hI hj2 (Aq hI hj2 (by simp[h2])) ⟨⟨Y,Y,B7 _,hc,Y,Y,Y,Y,q_⟩,q_,Y,Y⟩
 ·have h:=of_decide_eq_false h
  refine oO ?_
  refine Ar Y (.cons .tmp .nil) (congrArg Aa ?_) Y
  exact C2 (fun i hi=>by simpa using hI i hi z_)
theorem Al3 (l:List Port) (p:Nat→Port→Bool) (f:FuncId) (first cap:List SV) (hc:(SV.clo (.func f) first cap).inn []=true) (hf:∀ i (h:i<l.length),Jz Tryz.prog f (first++[Aa i,Bb l[i]]++cap) (Ab (p i l[i]))) (hl:At l) :
  Sy.Spec Tryz.prog 73 [.sl 7 Bb l,.clo (.func f) first cap] [] (Ab (Dt p l)) []:=cT F73 Tryz.ntmps73 fun F hF=>by
 unfold At at hl
 have hin:∀ (i:Nat) (x:Port),C6 [] (first++[Aa i,Bb x]++cap)=true:=fun i x=>Er hc rfl
 conv=>whnf
 refine A2 l.length (fun j=>Da p l j) (fun j=>[(0,.sl 7 Bb l),(1,.clo (.func f) first cap),(7,.sl 7 Bb l),(8,Aa l.length),(9,Aa j)]) (fun _=>[]) [] (Av _ _) ⟨⟨Y,Y,B7 _,hc,Y,Y,Y,Y,Y,Y,q_⟩,q_,Y,Y⟩ ?_
 intro j hj hI
 refine oO ?_
 refine⟨fun h=>?_,fun h=>?_⟩
 ·have h:=of_decide_eq_true h
  have hj2:j<l.length:=by omega
  refine oO ?_
  refine⟨Y,by omega,by omega,?_⟩
  conv=>whnf
  refine Jq (hf j hj2) Y Y Y (by simp only[hin];rfl) Y Y ?_
  refine oO ?_
  refine⟨fun h2=>?_,fun h2=>?_⟩
  ·refine oO ?_
   refine Ar Y (.cons .tmp .nil) (congrArg Ab ?_) Y
   exact Be hj2 (by simpa using h2)
  ·refine oO ?_
   refine iW ?_
   exact Ba [] hI hj2 (Aq hI hj2 (by simpa using h2)) ⟨⟨Y,Y,B7 _,hc,Y,Y,Y,Y,Y,Y,q_⟩,q_,Y,Y⟩
 ·have h:=of_decide_eq_false h
  refine oO ?_
  refine Ar Y (.cons .tmp .nil) (congrArg Ab ?_) Y
  exact Ci hI z_
theorem Al4 (l:List Link) (p:Nat→Link→Bool) (f:FuncId) (first cap:List SV) (hc:(SV.clo (.func f) first cap).inn []=true) (hf:∀ i (h:i<l.length),Jz Tryz.prog f (first++[Aa i,B2 l[i]]++cap) (Ab (p i l[i]))) (hl:At l) :
  Sy.Spec Tryz.prog 75 [.sl 3 B2 l,.clo (.func f) first cap] [] (Ab (Dt p l)) []:=cT F75 Tryz.ntmps75 fun F hF=>by
 unfold At at hl
 have hin:∀ (i:Nat) (x:Link),C6 [] (first++[Aa i,B2 x]++cap)=true:=fun i x=>Er hc rfl
 conv=>whnf
 refine A2 l.length (fun j=>Da p l j) (fun j=>[(0,.sl 3 B2 l),(1,.clo (.func f) first cap),(7,.sl 3 B2 l),(8,Aa l.length),(9,Aa j)]) (fun _=>[]) [] (Av _ _) ⟨⟨Y,Y,B7 _,hc,Y,Y,Y,Y,Y,Y,q_⟩,q_,Y,Y⟩ ?_
 intro j hj hI
 refine oO ?_
 refine⟨fun h=>?_,fun h=>?_⟩
 ·have h:=of_decide_eq_true h
  have hj2:j<l.length:=by omega
  refine oO ?_
  refine⟨Y,by omega,by omega,?_⟩
  conv=>whnf
  refine Jq (hf j hj2) Y Y Y (by simp only[hin];rfl) Y Y ?_
  refine oO ?_
  refine⟨fun h2=>?_,fun h2=>?_⟩
  ·refine oO ?_
   refine Ar Y (.cons .tmp .nil) (congrArg Ab ?_) Y
   exact Be hj2 (by simpa using h2)
  ·refine oO ?_
   refine iW ?_
   exact Ba [] hI hj2 (Aq hI hj2 (by simpa using h2)) ⟨⟨Y,Y,B7 _,hc,Y,Y,Y,Y,Y,Y,q_⟩,q_,Y,Y⟩
 ·have h:=of_decide_eq_false h
  refine oO ?_
  refine Ar Y (.cons .tmp .nil) (congrArg Ab ?_) Y
  exact Ci hI z_
theorem V6 (l:List Domain) (p:Nat→Domain→Bool) (f:FuncId) (first cap:List SV) (hc:(SV.clo (.func f) first cap).inn []=true) (hf:∀ i (h:i<l.length),Jz Tryz.prog f (first++[Aa i,Am l[i]]++cap) (Ab (p i l[i]))) (hl:At l) :
  Sy.Spec Tryz.prog 70 [.sl 6 Am l,.clo (.func f) first cap] [] (Ab (Dt p l)) []:=cT F70 Tryz.ntmps70 fun F hF=>by
 unfold At at hl
 have hin:∀ (i:Nat) (x:Domain),C6 [] (first++[Aa i,Am x]++cap)=true:=fun i x=>Er hc rfl
 conv=>whnf
 refine A2 l.length (fun j=>Da p l j) (fun j=>[(0,.sl 6 Am l),(1,.clo (.func f) first cap),(7,.sl 6 Am l),(8,Aa l.length),(9,Aa j)]) (fun _=>[]) [] (Av _ _) ⟨⟨Y,Y,B7 _,hc,Y,Y,Y,Y,Y,Y,q_⟩,q_,Y,Y⟩ ?_
 intro j hj hI
 refine oO ?_
 refine⟨fun h=>?_,fun h=>?_⟩
 ·have h:=of_decide_eq_true h
  have hj2:j<l.length:=by omega
  refine oO ?_
  refine⟨Y,by omega,by omega,?_⟩
  conv=>whnf
  refine Jq (hf j hj2) Y Y Y (by simp only[hin];rfl) Y Y ?_
  refine oO ?_
  refine⟨fun h2=>?_,fun h2=>?_⟩
  ·refine oO ?_
   refine Ar Y (.cons .tmp .nil) (congrArg Ab ?_) Y
   exact Be hj2 (by simpa using h2)
  ·refine oO ?_
   refine iW ?_
   exact Ba [] hI hj2 (Aq hI hj2 (by simpa using h2)) ⟨⟨Y,Y,B7 _,hc,Y,Y,Y,Y,Y,Y,q_⟩,q_,Y,Y⟩
 ·have h:=of_decide_eq_false h
  refine oO ?_
  refine Ar Y (.cons .tmp .nil) (congrArg Ab ?_) Y
  exact Ci hI z_
theorem Afh (l:List Static) (p:Nat→Static→Bool) (f:FuncId) (first cap:List SV) (hc:(SV.clo (.func f) first cap).inn []=true) (hf:∀ i (h:i<l.length),Jz Tryz.prog f (first++[Aa i,A8 l[i]]++cap) (Ab (p i l[i]))) (hl:At l) :
  Sy.Spec Tryz.prog 77 [.sl 4 A8 l,.clo (.func f) first cap] [] (Ab (Dt p l)) []:=cT F77 Tryz.ntmps77 fun F hF=>by
 unfold At at hl
 have hin:∀ (i:Nat) (x:Static),C6 [] (first++[Aa i,A8 x]++cap)=true:=fun i x=>Er hc rfl
 conv=>whnf
 refine A2 l.length (fun j=>Da p l j) (fun j=>[(0,.sl 4 A8 l),(1,.clo (.func f) first cap),(7,.sl 4 A8 l),(8,Aa l.length),(9,Aa j)]) (fun _=>[]) [] (Av _ _) ⟨⟨Y,Y,B7 _,hc,Y,Y,Y,Y,Y,Y,q_⟩,q_,Y,Y⟩ ?_
 intro j hj hI
 refine oO ?_
 refine⟨fun h=>?_,fun h=>?_⟩
 ·have h:=of_decide_eq_true h
  have hj2:j<l.length:=by omega
  refine oO ?_
  refine⟨Y,by omega,by omega,?_⟩
  conv=>whnf
  refine Jq (hf j hj2) Y Y Y (by simp only[hin];rfl) Y Y ?_
  refine oO ?_
  refine⟨fun h2=>?_,fun h2=>?_⟩
  ·refine oO ?_
   refine Ar Y (.cons .tmp .nil) (congrArg Ab ?_) Y
   exact Be hj2 (by simpa using h2)
  ·refine oO ?_
   refine iW ?_
   exact Ba [] hI hj2 (Aq hI hj2 (by simpa using h2)) ⟨⟨Y,Y,B7 _,hc,Y,Y,Y,Y,Y,Y,q_⟩,q_,Y,Y⟩
 ·have h:=of_decide_eq_false h
  refine oO ?_
  refine Ar Y (.cons .tmp .nil) (congrArg Ab ?_) Y
  exact Ci hI z_
theorem Ais (l:List Flood) (p:Nat→Flood→Bool) (f:FuncId) (first cap:List SV) (hc:(SV.clo (.func f) first cap).inn []=true) (hf:∀ i (h:i<l.length),Jz Tryz.prog f (first++[Aa i,A4 l[i]]++cap) (Ab (p i l[i]))) (hl:At l) :
  Sy.Spec Tryz.prog 79 [.sl 4 A4 l,.clo (.func f) first cap] [] (Ab (Dt p l)) []:=cT F79 Tryz.ntmps79 fun F hF=>by
 unfold At at hl
 have hin:∀ (i:Nat) (x:Flood),C6 [] (first++[Aa i,A4 x]++cap)=true:=fun i x=>Er hc rfl
 conv=>whnf
 refine A2 l.length (fun j=>Da p l j) (fun j=>[(0,.sl 4 A4 l),(1,.clo (.func f) first cap),(7,.sl 4 A4 l),(8,Aa l.length),(9,Aa j)]) (fun _=>[]) [] (Av _ _) ⟨⟨Y,Y,B7 _,hc,Y,Y,Y,Y,Y,Y,q_⟩,q_,Y,Y⟩ ?_
 intro j hj hI
 refine oO ?_
 refine⟨fun h=>?_,fun h=>?_⟩
 ·have h:=of_decide_eq_true h
  have hj2:j<l.length:=by omega
  refine oO ?_
  refine⟨Y,by omega,by omega,?_⟩
  conv=>whnf
  refine Jq (hf j hj2) Y Y Y (by simp only[hin];rfl) Y Y ?_
  refine oO ?_
  refine⟨fun h2=>?_,fun h2=>?_⟩
  ·refine oO ?_
   refine Ar Y (.cons .tmp .nil) (congrArg Ab ?_) Y
   exact Be hj2 (by simpa using h2)
  ·refine oO ?_
   refine iW ?_
   exact Ba [] hI hj2 (Aq hI hj2 (by simpa using h2)) ⟨⟨Y,Y,B7 _,hc,Y,Y,Y,Y,Y,Y,q_⟩,q_,Y,Y⟩
 ·have h:=of_decide_eq_false h
  refine oO ?_
  refine Ar Y (.cons .tmp .nil) (congrArg Ab ?_) Y
  exact Ci hI z_
theorem Ao7 (l:List Vrf) (p:Nat→Vrf→Bool) (f:FuncId) (first cap:List SV) (hc:(SV.clo (.func f) first cap).inn []=true) (hf:∀ i (h:i<l.length),Jz Tryz.prog f (first++[Aa i,Cd l[i]]++cap) (Ab (p i l[i]))) (hl:At l) :
  Sy.Spec Tryz.prog 82 [.sl 5 Cd l,.clo (.func f) first cap] [] (Ab (Dt p l)) []:=cT F82 Tryz.ntmps82 fun F hF=>by
 unfold At at hl
 have hin:∀ (i:Nat) (x:Vrf),C6 [] (first++[Aa i,Cd x]++cap)=true:=fun i x=>Er hc rfl
 conv=>whnf
 refine A2 l.length (fun j=>Da p l j) (fun j=>[(0,.sl 5 Cd l),(1,.clo (.func f) first cap),(7,.sl 5 Cd l),(8,Aa l.length),(9,Aa j)]) (fun _=>[]) [] (Av _ _) ⟨⟨Y,Y,B7 _,hc,Y,Y,Y,Y,Y,Y,q_⟩,q_,Y,Y⟩ ?_
 intro j hj hI
 refine oO ?_
 refine⟨fun h=>?_,fun h=>?_⟩
 ·have h:=of_decide_eq_true h
  have hj2:j<l.length:=by omega
  refine oO ?_
  refine⟨Y,by omega,by omega,?_⟩
  conv=>whnf
  refine Jq (hf j hj2) Y Y Y (by simp only[hin];rfl) Y Y ?_
  refine oO ?_
  refine⟨fun h2=>?_,fun h2=>?_⟩
  ·refine oO ?_
   refine Ar Y (.cons .tmp .nil) (congrArg Ab ?_) Y
   exact Be hj2 (by simpa using h2)
  ·refine oO ?_
   refine iW ?_
   exact Ba [] hI hj2 (Aq hI hj2 (by simpa using h2)) ⟨⟨Y,Y,B7 _,hc,Y,Y,Y,Y,Y,Y,q_⟩,q_,Y,Y⟩
 ·have h:=of_decide_eq_false h
  refine oO ?_
  refine Ar Y (.cons .tmp .nil) (congrArg Ab ?_) Y
  exact Ci hI z_
theorem Ao8 (l:List Irb) (p:Nat→Irb→Bool) (f:FuncId) (first cap:List SV) (hc:(SV.clo (.func f) first cap).inn []=true) (hf:∀ i (h:i<l.length),Jz Tryz.prog f (first++[Aa i,Cf l[i]]++cap) (Ab (p i l[i]))) (hl:At l) :
  Sy.Spec Tryz.prog 85 [.sl 5 Cf l,.clo (.func f) first cap] [] (Ab (Dt p l)) []:=cT F85 Tryz.ntmps85 fun F hF=>by
 unfold At at hl
 have hin:∀ (i:Nat) (x:Irb),C6 [] (first++[Aa i,Cf x]++cap)=true:=fun i x=>Er hc rfl
 conv=>whnf
 refine A2 l.length (fun j=>Da p l j) (fun j=>[(0,.sl 5 Cf l),(1,.clo (.func f) first cap),(7,.sl 5 Cf l),(8,Aa l.length),(9,Aa j)]) (fun _=>[]) [] (Av _ _) ⟨⟨Y,Y,B7 _,hc,Y,Y,Y,Y,Y,Y,q_⟩,q_,Y,Y⟩ ?_
 intro j hj hI
 refine oO ?_
 refine⟨fun h=>?_,fun h=>?_⟩
 ·have h:=of_decide_eq_true h
  have hj2:j<l.length:=by omega
  refine oO ?_
  refine⟨Y,by omega,by omega,?_⟩
  conv=>whnf
  refine Jq (hf j hj2) Y Y Y (by simp only[hin];rfl) Y Y ?_
  refine oO ?_
  refine⟨fun h2=>?_,fun h2=>?_⟩
  ·refine oO ?_
   refine Ar Y (.cons .tmp .nil) (congrArg Ab ?_) Y
   exact Be hj2 (by simpa using h2)
  ·refine oO ?_
   refine iW ?_
   exact Ba [] hI hj2 (Aq hI hj2 (by simpa using h2)) ⟨⟨Y,Y,B7 _,hc,Y,Y,Y,Y,Y,Y,q_⟩,q_,Y,Y⟩
 ·have h:=of_decide_eq_false h
  refine oO ?_
  refine Ar Y (.cons .tmp .nil) (congrArg Ab ?_) Y
  exact Ci hI z_
theorem Ao6 (l:List Int) (p:Nat→Int→Bool) (f:FuncId) (first cap:List SV) (hc:(SV.clo (.func f) first cap).inn []=true) (hf:∀ i (h:i<l.length),Jz Tryz.prog f (first++[Aa i,Aa l[i]]++cap) (Ab (p i l[i]))) (hl:At l) :
  Sy.Spec Tryz.prog 172 [.sl 1 Aa l,.clo (.func f) first cap] [] (Ab (Dt p l)) []:=cT F172 Tryz.ntmps172 fun F hF=>by
 unfold At at hl
 have hin:∀ (i:Nat) (x:Int),C6 [] (first++[Aa i,Aa x]++cap)=true:=fun i x=>Er hc rfl
 conv=>whnf
 refine A2 l.length (fun j=>Da p l j) (fun j=>[(0,.sl 1 Aa l),(1,.clo (.func f) first cap),(7,.sl 1 Aa l),(8,Aa l.length),(9,Aa j)]) (fun _=>[]) [] (Av _ _) ⟨⟨Y,Y,B7 _,hc,Y,Y,Y,Y,Y,Y,q_⟩,q_,Y,Y⟩ ?_
 intro j hj hI
 refine oO ?_
 refine⟨fun h=>?_,fun h=>?_⟩
 ·have h:=of_decide_eq_true h
  have hj2:j<l.length:=by omega
  refine oO ?_
  refine⟨Y,by omega,by omega,?_⟩
  conv=>whnf
  refine Jq (hf j hj2) Y Y Y (by simp only[hin];rfl) Y Y ?_
  refine oO ?_
  refine⟨fun h2=>?_,fun h2=>?_⟩
  ·refine oO ?_
   refine Ar Y (.cons .tmp .nil) (congrArg Ab ?_) Y
   exact Be hj2 (by simpa using h2)
  ·refine oO ?_
   refine iW ?_
   exact Ba [] hI hj2 (Aq hI hj2 (by simpa using h2)) ⟨⟨Y,Y,B7 _,hc,Y,Y,Y,Y,Y,Y,q_⟩,q_,Y,Y⟩
 ·have h:=of_decide_eq_false h
  refine oO ?_
  refine Ar Y (.cons .tmp .nil) (congrArg Ab ?_) Y
  exact Ci hI z_
structure Net.Fin (n:Net):Prop where
 devices:At n.devices
 ports:At n.ports
 links:At n.links
 domains:At n.domains
 statics:At n.statics
 floods:At n.floods
 vrfs:At n.vrfs
 irbs:At n.irbs
 tagged:∀ p∈n.ports,At p.tagged
 peers:∀ d∈n.domains,At d.peers
 addrs:∀ f∈n.floods,At f.addrs
 imports:∀ v∈n.vrfs,At v.imports
 exports:∀ v∈n.vrfs,At v.exports
def Ds (n:Net) (dev vlan:Int):Int:=Dl (fun d=>d.dev == dev && d.vlan == vlan) n.domains
theorem Aqu (dev vlan:Int) (d:Domain):Sy.Spec Tryz.prog 253 [Am d,.ref 1 (Aa dev) 0,.ref 1 (Aa vlan) 0] [] (Ab (d.dev == dev && d.vlan == vlan)) []:=cT F253 Tryz.ntmps253 fun F hF=>by
 conv=>whnf
 (repeat' (first | (refine⟨fun h=>?_,fun h=>?_⟩<;>(repeat (first | simp only[beq_iff_eq]at h | simp only[beq_eq_false_iff_ne]at h))<;>((refine oO ?_))) | (refine Ar rfl (.cons .tmp .nil) ?_ rfl)))
 all_goals (refine congrArg Ab ?_)
 all_goals simp_all
theorem L5 (n:Net) (dev vlan:Int) (hl:At n.domains):Sy.Spec Tryz.prog 171 [Aj n,Aa dev,Aa vlan] [] (Aa (Ds n dev vlan)) []:=cT F171 Tryz.ntmps171 fun F hF=>by
 conv=>whnf
 refine A6 4 1 (Aa dev) Y Y Y ?_
 refine A6 5 1 (Aa vlan) Y Y Y ?_
 refine c0 (Ez n.domains (fun d=>d.dev == dev && d.vlan == vlan) 253 [] [.ref 1 (Aa dev) 0,.ref 1 (Aa vlan) 0] Y (fun d _=>⟨⟨_,_,F253⟩,Aqu dev vlan d⟩) hl) F163 ?_
 refine oO ?_
 exact dN
def Alu (n:Net):Bool:=decide (n.devices.length≤8) && decide (n.ports.length≤40) && decide (n.links.length≤20) && decide (n.domains.length≤48) && decide (n.statics.length≤64) && decide (n.floods.length≤48) && decide (n.vrfs.length≤16) && decide (n.irbs.length≤48)
theorem fewS (n:Net):Sy.Spec Tryz.prog 69 [Aj n] [] (Ab (Alu n)) []:=cT F69 Tryz.ntmps69 fun F hF=>by
 conv=>whnf
 (repeat' (first | (refine⟨fun h=>?_,fun h=>?_⟩<;>(repeat (first | simp only[decide_eq_true_eq]at h | simp only[decide_eq_false_iff_not]at h))<;>((refine oO ?_);repeat((refine aF ?_);(refine oO ?_)))) | (refine Ar rfl (.cons .tmp .nil) ?_ rfl)))
 all_goals (refine congrArg Ab ?_)
 all_goals (unfold Alu;rw[Bool.eq_iff_iff];simp;omega)
def Iy (n:Net) (i:Nat) (d:Domain):Bool :=
 Ap d.dev n.devices.length && decide (1≤d.vlan) && decide (d.vlan≤4094) && decide (0≤d.vni) && decide (d.vni≤16777215) && (d.irb == -1 || Ap d.irb n.irbs.length && (nth n.irbs d.irb).domain == i) && Ds n d.dev d.vlan == i
theorem bareS (n:Net) (i:Nat) (d:Domain) (hl:At n.domains):Sy.Spec Tryz.prog 71 [Aj n,Aa i,Am d] [] (Ab (Iy n i d)) []:=cT F71 Tryz.ntmps71 fun F hF=>by
 conv=>whnf
 (repeat' (first | (refine⟨fun h=>?_,fun h=>?_⟩<;>(repeat (first | simp only[Ap]at h | simp only[decide_eq_true_eq]at h | simp only[decide_eq_false_iff_not]at h | simp only[beq_iff_eq]at h | simp only[beq_eq_false_iff_ne]at h | simp only[Bool.and_eq_true]at h | simp only[Bool.and_eq_false_iff]at h))<;>((refine oO ?_);repeat((first|refine aF ?_|refine aT ?_);(refine oO ?_)))) | (refine Ar rfl (.cons .tmp .nil) ?_ rfl) | (refine⟨j_,?_⟩;((conv=>whnf))) | (refine⟨by (omega),by (omega),?_⟩;((conv=>whnf))) | (refine c0 (Hq 5 Az n.devices d.dev) F81 ?_;((refine oO ?_))) | (refine c0 (Ahl 5 Cf n.irbs d.irb) F170 ?_;((refine oO ?_))) | (refine c0 (L5 n d.dev d.vlan hl) F171 ?_;((refine oO ?_)))))
 all_goals (refine congrArg Ab ?_)
 all_goals (clear hF;grind [Iy,Ap,As])
def Acn (n:Net) (d:Domain):Bool:=(nth n.devices d.dev).vtep != 0
theorem Aq7 (n:Net) (d:Domain) (hd:Ap d.dev n.devices.length=true):Sy.Spec Tryz.prog 254 [Aj n,Am d] [] (Ab (Acn n d)) []:=cT F254 Tryz.ntmps254 fun F hF=>by
 simp only[Ap,Bool.and_eq_true,decide_eq_true_eq]at hd
 conv=>whnf
 (repeat' (first | (refine Ar rfl (.cons .tmp .nil) ?_ rfl) | (refine⟨j_,?_⟩;((conv=>whnf))) | (refine⟨by (omega),by (omega),?_⟩;((conv=>whnf)))))
 all_goals (refine congrArg Ab ?_)
 all_goals (clear hF;grind [Acn,As])
def Od (n:Net) (i:Nat) (d:Domain) (k:Int):Bool :=
 Ap k n.domains.length && k != i && Ap (nth n.domains k).dev n.devices.length && (nth n.domains k).dev != d.dev && (nth n.domains k).vni == d.vni && d.vni != 0 && Acn n (nth n.domains k) && Acn n d && inB (nth n.domains k).peers i
theorem peerS (n:Net) (i:Nat) (d:Domain) (k:Int) (hn:n.Fin) (hd:Ap d.dev n.devices.length=true):Sy.Spec Tryz.prog 174 [Aj n,Aa i,Am d,Aa k] [] (Ab (Od n i d k)) []:=cT F174 Tryz.ntmps174 fun F hF=>by
 conv=>whnf
 (repeat' (first | (refine⟨fun h=>?_,fun h=>?_⟩<;>(repeat (first | simp only[Ap]at h | simp only[decide_eq_true_eq]at h | simp only[decide_eq_false_iff_not]at h | simp only[beq_iff_eq]at h | simp only[beq_eq_false_iff_ne]at h | simp only[bne_iff_ne]at h | simp only[bne_eq_false_iff_eq]at h | simp only[Bool.and_eq_true]at h | simp only[Bool.and_eq_false_iff]at h | simp only[Bool.not_eq_true']at h | simp only[Bool.not_eq_false']at h))<;>((refine oO ?_);repeat((first|refine aF ?_|refine aT ?_);(refine oO ?_)))) | (refine Ar rfl (.cons .tmp .nil) ?_ rfl) | (refine⟨j_,?_⟩;((conv=>whnf))) | (refine⟨by (omega),by (omega),?_⟩;((conv=>whnf))) | (refine c0 (K7 6 Am n.domains k) F178 ?_;((refine oO ?_))) | (refine c0 (Hq 5 Az n.devices (n.domains[k.toNat]'z_).dev) F81 ?_;((refine oO ?_))) | (refine c0 (Aq7 n (n.domains[k.toNat]'z_) (by simp only[Ap,Bool.and_eq_true,decide_eq_true_eq];omega)) F254 ?_;((refine oO ?_))) | (refine c0 (Aq7 n d hd) F254 ?_;((refine oO ?_))) | (refine c0 (Ll (n.domains[k.toNat]'z_).peers i (hn.peers _ (List.getElem_mem _))) F100 ?_;((refine oO ?_)))))
 all_goals (refine congrArg Ab ?_;clear hF;grind [Od,Ap,As])
def Oc (n:Net) (i:Nat) (d:Domain):Bool:=Dt (fun at_ k=>Od n i d k && Dl (· == k) d.peers == at_) d.peers
theorem peers1 (n:Net) (i:Nat) (d:Domain) (at_:Nat) (k:Int) (hn:n.Fin) (hp:At d.peers) (hd:Ap d.dev n.devices.length=true) :
  Sy.Spec Tryz.prog 173 [Aa at_,Aa k,.ref 8 (Aj n) 0,.ref 1 (Aa i) 0,.ref 6 (Am d) 0] [] (Ab (Od n i d k && Dl (· == k) d.peers == at_)) []:=cT F173 Tryz.ntmps173 fun F hF=>by
 conv=>whnf
 (repeat' (first | (refine⟨fun h=>?_,fun h=>?_⟩<;>((refine oO ?_))) | (refine Ar rfl (.cons .tmp .nil) ?_ rfl) | (refine c0 (peerS n i d k hn hd) F174 ?_;((refine oO ?_))) | (refine c0 (Aob d.peers k hp) F175 ?_;((refine oO ?_)))))
 all_goals (refine congrArg Ab ?_;clear hF;grind)
theorem peersS (n:Net) (i:Nat) (d:Domain) (hn:n.Fin) (hp:At d.peers) (hd:Ap d.dev n.devices.length=true):Sy.Spec Tryz.prog 72 [Aj n,Aa i,Am d] [] (Ab (Oc n i d)) []:=cT F72 Tryz.ntmps72 fun F hF=>by
 conv=>whnf
 refine A6 3 8 (Aj n) Y Y Y ?_
 refine A6 4 1 (Aa i) Y Y Y ?_
 refine A6 5 6 (Am d) Y Y Y ?_
 refine c0 (Ao6 d.peers (fun at_ k=>Od n i d k && Dl (· == k) d.peers == at_) 173 [] [.ref 8 (Aj n) 0,.ref 1 (Aa i) 0,.ref 6 (Am d) 0] Y (fun a ha=>⟨⟨_,_,F173⟩,peers1 n i d a d.peers[a] hn hp hd⟩) hp) F172 ?_
 refine oO ?_
 exact dN
def Cs (n:Net) (dev vlan:Int):Bool:=decide (0≤Ds n dev vlan)
def Jg (n:Net) (i:Nat) (p:Port):Bool :=
 Ap p.dev n.devices.length && decide (0≤p.native) && decide (p.native≤4094) && (decide (p.tagged.length=0) || Df p.tagged 1 4094) && !inB p.tagged p.native && !(p.native == 0 && decide (p.tagged.length=0)) &&
  Dt (fun _ v=>Cs n p.dev v) p.tagged && !(decide (0<p.native) && !Cs n p.dev p.native) &&
  (p.link == -1 || Ap p.link n.links.length && ((nth n.links p.link).a == i || (nth n.links p.link).b == i))
theorem Ahy (n:Net) (i:Nat) (p:Port) (hn:n.Fin) (hp:At p.tagged):Sy.Spec Tryz.prog 74 [Aj n,Aa i,Bb p] [] (Ab (Jg n i p)) []:=cT F74 Tryz.ntmps74 fun F hF=>by
 conv=>whnf
 (repeat' (first | (refine⟨fun h=>?_,fun h=>?_⟩<;>(repeat (first | simp only[Ap]at h | simp only[decide_eq_true_eq]at h | simp only[decide_eq_false_iff_not]at h | simp only[beq_iff_eq]at h | simp only[beq_eq_false_iff_ne]at h | simp only[Bool.and_eq_true]at h | simp only[Bool.or_eq_true]at h | simp only[Bool.and_eq_false_iff]at h | simp only[Bool.or_eq_false_iff]at h | simp only[Bool.not_eq_true']at h | simp only[Bool.not_eq_false']at h))<;>((refine oO ?_);repeat((first|refine aF ?_|refine aT ?_);(refine oO ?_)))) | (refine Ar rfl (.cons .tmp .nil) ?_ rfl) | (refine c0 (Hq 5 Az n.devices p.dev) F81 ?_;((refine oO ?_))) | (refine c0 (Aa3 p.tagged 4094 hp) F84 ?_;((refine oO ?_))) | (refine c0 (Ll p.tagged p.native hp) F100 ?_;((refine oO ?_)))))
 all_goals first | (refine congrArg Ab ?_;clear hF;grind [Jg,Ap]) | skip
 all_goals (
  refine A6 3 8 (Aj n) Y Y Y ?_
  refine A6 5 7 (Bb p) Y Y Y ?_
  refine A2 p.tagged.length (fun j=>Da (fun _ v=>Cs n p.dev v) p.tagged j) (fun j=>[(1,Aa i),(3,.ref 8 (Aj n) 0),(5,.ref 7 (Bb p) 0),(51,.sl 1 Aa p.tagged),(52,Aa p.tagged.length),(53,Aa j)]) (fun _=>[]) [] (Av _ _) ⟨⟨Y,Y,Y,Y,Y,Y,Y,Y,Y,Y,Y,Y,q_⟩,q_,Y,Y⟩ ?_
  intro j hj hI
  have hsh:=hp
  unfold At at hsh
  ((first|refine rG Γ hm ?_|refine rD Γ hm j_ ?_);(conv=>whnf);repeat((first|refine aF ?_|refine aT ?_);(first|refine rG Γ hm ?_|refine rD Γ hm j_ ?_);conv=>whnf)))
 all_goals (
  (repeat' (first | (refine⟨fun h=>?_,fun h=>?_⟩<;>(repeat (first | simp only[Ap]at h | simp only[decide_eq_true_eq]at h | simp only[decide_eq_false_iff_not]at h | simp only[beq_iff_eq]at h | simp only[beq_eq_false_iff_ne]at h | simp only[Bool.and_eq_true]at h | simp only[Bool.and_eq_false_iff]at h))<;>((refine oO ?_);repeat((refine aF ?_);(refine oO ?_)))) | (refine Ar rfl (.cons .tmp .nil) ?_ rfl) | (refine⟨j_,?_⟩;((conv=>whnf))) | (refine⟨by (omega),by (omega),?_⟩;((conv=>whnf))) | (refine⟨by (unfold I64;omega),?_⟩;((conv=>whnf))) | (refine c0 (L5 n p.dev (p.tagged[j]'z_) hn.domains) F171 ?_;((refine oO ?_))) | (refine c0 (L5 n p.dev p.native hn.domains) F171 ?_;((refine oO ?_))) | (refine c0 (Ad0 3 B2 n.links p.link) F176 ?_;((refine oO ?_))) | refine Ba [] hI z_ ?_ ⟨⟨rfl,rfl,rfl,rfl,rfl,rfl,rfl,rfl,rfl,rfl,rfl,rfl,trivial⟩,trivial,rfl,rfl⟩)))
 all_goals first
  | exact Aq hI z_ (by simp only[Cs,decide_eq_true_eq];omega)
  | (refine congrArg Ab ?_
     have h0:Dt (fun _ v=>Cs n p.dev v) p.tagged=false:=Be (i:=j) z_ (by simp only[Cs,decide_eq_false_iff_not];omega)
     clear hF hI;grind [Jg])
  | (refine congrArg Ab ?_
     have h0:Dt (fun _ v=>Cs n p.dev v) p.tagged=true:=Ci hI z_
     clear hF hI;grind [Jg,Ap,Cs,As])
def On (n:Net) (i:Nat) (l:Link):Bool :=
 Ap l.a n.ports.length && Ap l.b n.ports.length && (nth n.ports l.a).dev != (nth n.ports l.b).dev && (nth n.ports l.a).link == i && (nth n.ports l.b).link == i
theorem Ahz (n:Net) (i:Nat) (l:Link):Sy.Spec Tryz.prog 76 [Aj n,Aa i,B2 l] [] (Ab (On n i l)) []:=cT F76 Tryz.ntmps76 fun F hF=>by
 conv=>whnf
 (repeat' (first | (refine⟨fun h=>?_,fun h=>?_⟩<;>(repeat (first | simp only[Ap]at h | simp only[decide_eq_true_eq]at h | simp only[decide_eq_false_iff_not]at h | simp only[beq_iff_eq]at h | simp only[beq_eq_false_iff_ne]at h | simp only[bne_iff_ne]at h | simp only[bne_eq_false_iff_eq]at h | simp only[Bool.and_eq_true]at h | simp only[Bool.and_eq_false_iff]at h | simp only[Bool.not_eq_true']at h | simp only[Bool.not_eq_false']at h))<;>((refine oO ?_);repeat((first|refine aF ?_|refine aT ?_);(refine oO ?_)))) | (refine Ar rfl (.cons .tmp .nil) ?_ rfl) | (refine⟨j_,?_⟩;((conv=>whnf))) | (refine⟨by (omega),by (omega),?_⟩;((conv=>whnf))) | (refine c0 (M9 7 Bb n.ports l.a) F177 ?_;((refine oO ?_))) | (refine c0 (M9 7 Bb n.ports l.b) F177 ?_;((refine oO ?_)))))
 all_goals (refine congrArg Ab ?_;clear hF;grind [On,Ap,As])
def Hu (n:Net) (s:Static):Bool :=
 Ap s.domain n.domains.length && Ap s.port n.ports.length && (nth n.ports s.port).dev == (nth n.domains s.domain).dev && C7 (nth n.ports s.port) (nth n.domains s.domain).vlan
theorem Abu (n:Net) (i:Nat) (s:Static) (hn:n.Fin):Sy.Spec Tryz.prog 78 [Aj n,Aa i,A8 s] [] (Ab (Hu n s)) []:=cT F78 Tryz.ntmps78 fun F hF=>by
 conv=>whnf
 (repeat' (first | (refine⟨fun h=>?_,fun h=>?_⟩<;>(repeat (first | simp only[Ap]at h | simp only[decide_eq_true_eq]at h | simp only[decide_eq_false_iff_not]at h | simp only[beq_iff_eq]at h | simp only[beq_eq_false_iff_ne]at h | simp only[Bool.and_eq_true]at h | simp only[Bool.and_eq_false_iff]at h | simp only[Bool.not_eq_true']at h | simp only[Bool.not_eq_false']at h))<;>((refine oO ?_);repeat((refine aT ?_);(refine oO ?_)))) | (refine Ar rfl (.cons .tmp .nil) ?_ rfl) | (refine⟨j_,?_⟩;((conv=>whnf))) | (refine⟨by (omega),by (omega),?_⟩;((conv=>whnf))) | (refine c0 (K7 6 Am n.domains s.domain) F178 ?_;((refine oO ?_))) | (refine c0 (M9 7 Bb n.ports s.port) F177 ?_;((refine oO ?_))) | (refine c0 (Abm (n.ports[s.port.toNat]'z_) (n.domains[s.domain.toNat]'z_).vlan (hn.tagged _ (List.getElem_mem _))) F179 ?_;((refine oO ?_)))))
 all_goals (refine congrArg Ab ?_;clear hF;grind [Hu,Ap,As])
def Tu (n:Net) (i:Nat) (x:Irb):Bool :=
 Ap x.domain n.domains.length && Ap x.vrf n.vrfs.length && (nth n.domains x.domain).dev == (nth n.vrfs x.vrf).dev && (nth n.domains x.domain).irb == i && decide (1≤x.bits) && decide (x.bits≤30)
theorem Alm (n:Net) (i:Nat) (x:Irb):Sy.Spec Tryz.prog 86 [Aj n,Aa i,Cf x] [] (Ab (Tu n i x)) []:=cT F86 Tryz.ntmps86 fun F hF=>by
 conv=>whnf
 (repeat' (first | (refine⟨fun h=>?_,fun h=>?_⟩<;>(repeat (first | simp only[Ap]at h | simp only[decide_eq_true_eq]at h | simp only[decide_eq_false_iff_not]at h | simp only[beq_iff_eq]at h | simp only[beq_eq_false_iff_ne]at h | simp only[Bool.and_eq_true]at h | simp only[Bool.and_eq_false_iff]at h))<;>((refine rd j_ ?_);(conv=>whnf);repeat((refine aF ?_);(refine rd j_ ?_);(conv=>whnf)))) | (refine Ar rfl (.cons .tmp .nil) ?_ rfl) | (refine⟨j_,?_⟩;((conv=>whnf))) | (refine⟨by (omega),by (omega),?_⟩;((conv=>whnf))) | (refine cD (K7 6 Am n.domains x.domain) F178 ?_;((refine rd j_ ?_);(conv=>whnf))) | (refine cD (Ahk 5 Cd n.vrfs x.vrf) F181 ?_;((refine rd j_ ?_);(conv=>whnf)))))
 all_goals (refine congrArg Ab ?_;clear hF;grind [Tu,Ap,As])
def Is (n:Net) (f:Flood):Bool:=Ap f.dev n.devices.length && decide (f.addrs.length≤16)
theorem right1 (n:Net) (i:Nat) (f:Flood):Sy.Spec Tryz.prog 80 [Aa i,A4 f,.ref 8 (Aj n) 0] [] (Ab (Is n f)) []:=cT F80 Tryz.ntmps80 fun F hF=>by
 conv=>whnf
 (repeat' (first | (refine⟨fun h=>?_,fun h=>?_⟩<;>(repeat (first | simp only[Ap]at h | simp only[decide_eq_true_eq]at h | simp only[decide_eq_false_iff_not]at h | simp only[Bool.and_eq_true]at h | simp only[Bool.and_eq_false_iff]at h))<;>((refine oO ?_))) | (refine Ar rfl (.cons .tmp .nil) ?_ rfl) | (refine c0 (Hq 5 Az n.devices f.dev) F81 ?_;((refine oO ?_)))))
 all_goals (refine congrArg Ab ?_;clear hF;grind [Is,Ap])
def S9 (l:List Int) (most:Int):Bool:=decide (l.length=0) || Df l 1 most
def Yy (n:Net) (v:Vrf):Bool:=Ap v.dev n.devices.length && S9 v.imports 65535 && S9 v.exports 65535
theorem right2 (n:Net) (i:Nat) (v:Vrf) (h1:At v.imports) (h2:At v.exports):Sy.Spec Tryz.prog 83 [Aa i,Cd v,.ref 8 (Aj n) 0] [] (Ab (Yy n v)) []:=cT F83 Tryz.ntmps83 fun F hF=>by
 conv=>whnf
 (repeat' (first | (refine⟨fun h=>?_,fun h=>?_⟩<;>(repeat (first | simp only[Ap]at h | simp only[decide_eq_true_eq]at h | simp only[decide_eq_false_iff_not]at h | simp only[Bool.and_eq_true]at h | simp only[Bool.or_eq_true]at h | simp only[Bool.and_eq_false_iff]at h | simp only[Bool.or_eq_false_iff]at h))<;>((refine oO ?_);repeat((refine aF ?_);(refine oO ?_)))) | (refine Ar rfl (.cons .tmp .nil) ?_ rfl) | (refine c0 (Hq 5 Az n.devices v.dev) F81 ?_;((refine oO ?_))) | (refine c0 (Aa3 v.imports 65535 h1) F84 ?_;((refine oO ?_))) | (refine c0 (Aa3 v.exports 65535 h2) F84 ?_;((refine oO ?_)))))
 all_goals (refine congrArg Ab ?_;clear hF;grind [Yy,S9,Ap])
def Ah (n:Net):Bool :=
 Alu n && Dt (Iy n) n.domains && Dt (Oc n) n.domains && Dt (Jg n) n.ports && Dt (On n) n.links && Dt (fun _=>Hu n) n.statics && Dt (fun _=>Is n) n.floods && Dt (fun _=>Yy n) n.vrfs && Dt (Tu n) n.irbs
theorem O0 {n:Net} (h:Dt (Iy n) n.domains=true) {i:Nat} (hi:i<n.domains.length):Ap n.domains[i].dev n.devices.length=true:=by
 have:=allB_iff.1 h i hi
 simp only[Iy,Bool.and_eq_true]at this
 exact this.1.1.1.1.1.1
theorem Cq (n:Net) (hn:n.Fin):Sy.Spec Tryz.prog 25 [Aj n] [] (Ab (Ah n)) []:=cT F25 Tryz.ntmps25 fun F hF=>by
 conv=>whnf
 refine A6 1 8 (Aj n) Y Y Y ?_
 (repeat' (first | (refine⟨fun h=>?_,fun h=>?_⟩<;>((refine oO ?_);repeat((refine aF ?_);(refine oO ?_)))) | (refine Ar rfl (.cons .tmp .nil) ?_ rfl) | (refine c0 (fewS n) F69 ?_;((refine oO ?_))) | (refine c0 (V6 n.domains (Iy n) 71 [Aj n] [] rfl (fun i h=>⟨⟨_,_,F71⟩,bareS n i n.domains[i] hn.domains⟩) hn.domains) F70 ?_;((refine oO ?_))) | (refine Mq (V6 n.domains (Oc n) 72 [Aj n] [] rfl (fun i h=>⟨⟨_,_,F72⟩,peersS n i n.domains[i] hn (hn.peers _ (List.getElem_mem _)) (O0 ‹_› h)⟩) hn.domains) F70 rfl rfl rfl rfl rfl ?_;((refine oO ?_))) | (refine Mq (Al3 n.ports (Jg n) 74 [Aj n] [] rfl (fun i h=>⟨⟨_,_,F74⟩,Ahy n i n.ports[i] hn (hn.tagged _ (List.getElem_mem _))⟩) hn.ports) F73 rfl rfl rfl rfl rfl ?_;((refine oO ?_))) | (refine c0 (Al4 n.links (On n) 76 [Aj n] [] rfl (fun i h=>⟨⟨_,_,F76⟩,Ahz n i n.links[i]⟩) hn.links) F75 ?_;((refine oO ?_))) | (refine c0 (Afh n.statics (fun _=>Hu n) 78 [Aj n] [] rfl (fun i h=>⟨⟨_,_,F78⟩,Abu n i n.statics[i] hn⟩) hn.statics) F77 ?_;((refine oO ?_))) | (refine c0 (Ais n.floods (fun _=>Is n) 80 [] [.ref 8 (Aj n) 0] rfl (fun i h=>⟨⟨_,_,F80⟩,right1 n i n.floods[i]⟩) hn.floods) F79 ?_;((refine oO ?_))) | (refine Mq (Ao7 n.vrfs (fun _=>Yy n) 83 [] [.ref 8 (Aj n) 0] rfl (fun i h=>⟨⟨_,_,F83⟩,right2 n i n.vrfs[i] (hn.imports _ (List.getElem_mem _)) (hn.exports _ (List.getElem_mem _))⟩) hn.vrfs) F82 rfl rfl rfl rfl rfl ?_;((refine oO ?_))) | (refine c0 (Ao8 n.irbs (Tu n) 86 [Aj n] [] rfl (fun i h=>⟨⟨_,_,F86⟩,Alm n i n.irbs[i]⟩) hn.irbs) F85 ?_;((refine oO ?_)))))
 all_goals (refine congrArg Ab ?_)
 all_goals (clear hF;simp_all[Ah])
theorem Xf (l:List Int) (least most:Int) (hl:At l):Sy.Spec Tryz.prog 361 [.sl 1 Aa l,Aa least,Aa most] [] (Ab (Df l least most)) []:=cT F361 Tryz.ntmps361 fun F hF=>by
 unfold At at hl
 conv=>whnf
 (repeat' (first | (refine⟨fun h=>?_,fun h=>?_⟩<;>(repeat (first | simp only[decide_eq_true_eq]at h | simp only[decide_eq_false_iff_not]at h))<;>((refine oO ?_);repeat((refine aT ?_);(refine oO ?_)))) | (refine Ar rfl (.cons .tmp .nil) ?_ rfl)))
 all_goals try (refine congrArg Ab ?_)
 ·rw[Df];simp;omega
 ·rw[Df];simp;omega
 refine A2 l.length (fun j=>Da (J0 l least most) l j) (fun j=>[(0,.sl 1 Aa l),(1,Aa least),(2,Aa most),(7,Aa j)]) (fun _=>[]) [] (Av _ _) ⟨⟨Y,Y,Y,Y,Y,Y,Y,Y,q_⟩,q_,Y,Y⟩ ?_
 intro j hj hI
 refine oO ?_
 (repeat' (first | (refine⟨fun h=>?_,fun h=>?_⟩<;>(repeat (first | simp only[decide_eq_true_eq]at h | simp only[decide_eq_false_iff_not]at h))<;>((first|refine rg ?_|refine rd j_ ?_);(conv=>whnf);repeat((refine aT ?_);(refine rd j_ ?_);(conv=>whnf)))) | (refine Ar rfl (.cons .tmp .nil) ?_ rfl) | (refine⟨j_,?_⟩;((conv=>whnf);repeat((first|refine aF ?_|refine aT ?_);(refine oO ?_)))) | (refine⟨by (first | (unfold I64;omega) | omega),by (omega),?_⟩;((conv=>whnf))) | (refine⟨by (unfold I64;omega),?_⟩;((conv=>whnf))) | refine Ba [] hI z_ ?_ ⟨⟨rfl,rfl,rfl,rfl,rfl,rfl,rfl,rfl,trivial⟩,trivial,rfl,rfl⟩))
 all_goals try (refine congrArg Ab ?_)
 all_goals try simp only[Int.toNat_natCast,Int.pred_toNat]at *
 ·rw[Df,Be (i:=j) z_ (by simp[J0];omega)];simp
 ·rw[Df,Be (i:=j) z_ (by simp[J0];omega)];simp
 ·rw[Df,Be (i:=j) z_ (by simp only[J0,As (show ((j:Int)-1).toNat<l.length by omega),Int.pred_toNat,Int.toNat_natCast];simp;omega)];simp
 ·exact Aq hI z_ (by simp only[J0,As (show ((j:Int)-1).toNat<l.length by omega),Int.pred_toNat,Int.toNat_natCast];simp;omega)
 ·exact Aq hI z_ (by simp[J0];omega)
 ·rw[Df,Ci hI z_,Bool.eq_iff_iff];simp;omega
theorem Lw (l:List Int) (most:Int) (hl:At l):Sy.Spec Tryz.prog 296 [.sl 1 Aa l,Aa most] [] (Ab (decide (l.length=0) || Df l 1 most)) []:=cT F296 Tryz.ntmps296 fun F hF=>by
 conv=>whnf
 (repeat' (first | (refine⟨fun h=>?_,fun h=>?_⟩<;>(repeat (first | simp only[beq_iff_eq]at h | simp only[beq_eq_false_iff_ne]at h))<;>((refine oO ?_))) | (refine Ar rfl (.cons .tmp .nil) ?_ rfl) | (refine c0 (Xf l 1 most hl) F361 ?_;((refine oO ?_)))))
 all_goals (refine congrArg Ab ?_)
 all_goals grind
theorem Cp (i:Int) (n:Nat):Sy.Spec Tryz.prog 294 [Aa i,Aa n] [] (Ab (Ap i n)) []:=cT F294 Tryz.ntmps294 fun F hF=>by
 conv=>whnf
 (repeat' (first | (refine⟨fun h=>?_,fun h=>?_⟩<;>(repeat (first | simp only[decide_eq_true_eq]at h | simp only[decide_eq_false_iff_not]at h))<;>((refine oO ?_))) | (refine Ar rfl (.cons .tmp .nil) ?_ rfl)))
 all_goals (refine congrArg Ab ?_)
 all_goals grind [Ap]
theorem Al2 {α:Type} {p:α→Bool} {l:List α} {j:Nat} (hI:Da (fun _ x=>!(p x)) l j) (hj:l.length≤j):l.any p=false:=by
 rw[List.any_eq_false]
 intro x hx
 obtain ⟨i,hi,rfl⟩:=List.mem_iff_getElem.1 hx
 simpa using hI i hi z_
theorem Ao5 {α:Type} {p:α→Bool} {l:List α} {j:Nat} (hj:j<l.length) (h:p l[j]=true):l.any p=true:=List.any_eq_true.2 ⟨_,List.getElem_mem hj,h⟩
theorem Ih (l:List Int) (x:Int) (hl:At l):Sy.Spec Tryz.prog 226 [.sl 1 Aa l,Aa x] [] (Ab (inB l x)) []:=cT F226 Tryz.ntmps226 fun F hF=>by
 unfold At at hl
 conv=>whnf
 refine A2 l.length (fun j=>Da (fun _ y=>!(y == x)) l j) (fun j=>[(0,.sl 1 Aa l),(1,Aa x),(5,Aa j)]) (fun _=>[]) [] (Av _ _) ⟨⟨Y,Y,Y,Y,Y,Y,q_⟩,q_,Y,Y⟩ ?_
 intro j hj hI
 refine oO ?_
 (repeat' (first | (refine⟨fun h=>?_,fun h=>?_⟩<;>(repeat (first | simp only[decide_eq_true_eq]at h | simp only[decide_eq_false_iff_not]at h | simp only[beq_iff_eq]at h | simp only[beq_eq_false_iff_ne]at h))<;>((refine oO ?_))) | (refine Ar rfl (.cons .tmp .nil) ?_ rfl) | (refine⟨j_,?_⟩;((conv=>whnf))) | (refine⟨by (omega),by (omega),?_⟩;((conv=>whnf))) | (refine⟨by (unfold I64;omega),?_⟩;((conv=>whnf))) | refine Ba [] hI z_ ?_ ⟨⟨rfl,rfl,rfl,rfl,rfl,rfl,trivial⟩,trivial,rfl,rfl⟩))
 all_goals try (refine congrArg Ab ?_)
 ·exact Ao5 (j:=j) z_ (by simpa using h)
 ·exact Aq hI z_ (by simpa using h)
 ·exact Al2 hI z_
theorem Lx (p:Port) (v:Int) (hl:At p.tagged):Sy.Spec Tryz.prog 215 [Bb p,Aa v] [] (Ab (C7 p v)) []:=cT F215 Tryz.ntmps215 fun F hF=>by
 conv=>whnf
 (repeat' (first | (refine⟨fun h=>?_,fun h=>?_⟩<;>(repeat (first | simp only[beq_iff_eq]at h | simp only[beq_eq_false_iff_ne]at h | simp only[bne_iff_ne]at h | simp only[bne_eq_false_iff_eq]at h))<;>((refine oO ?_))) | (refine Ar rfl (.cons .tmp .nil) ?_ rfl) | (refine c0 (Ih p.tagged v hl) F226 ?_;((refine oO ?_)))))
 all_goals (refine congrArg Ab ?_)
 all_goals grind [C7]
theorem Je (n:Net) (dev vlan:Int) (hl:At n.domains):Sy.Spec Tryz.prog 213 [Aj n,Aa dev,Aa vlan] [] (Aa (Ds n dev vlan)) []:=cT F213 Tryz.ntmps213 fun F hF=>by
 unfold At at hl
 conv=>whnf
 refine A6 3 8 (Aj n) Y Y Y ?_
 refine A2 n.domains.length (fun j=>Da (fun _ d=>!(d.dev == dev && d.vlan == vlan)) n.domains j) (fun j=>[(1,Aa dev),(2,Aa vlan),(3,.ref 8 (Aj n) 0),(7,Aa j)]) (fun _=>[]) [] (Av _ _) ⟨⟨Y,Y,Y,Y,Y,Y,Y,Y,q_⟩,q_,Y,Y⟩ ?_
 intro j hj hI
 refine oO ?_
 (repeat' (first | (refine⟨fun h=>?_,fun h=>?_⟩<;>(repeat (first | simp only[decide_eq_true_eq]at h | simp only[decide_eq_false_iff_not]at h | simp only[beq_iff_eq]at h | simp only[beq_eq_false_iff_ne]at h))<;>((refine oO ?_);repeat((refine aF ?_);(refine oO ?_)))) | (refine Ar rfl (.cons .tmp .nil) ?_ rfl) | (refine⟨j_,?_⟩;((conv=>whnf))) | (refine⟨by (omega),by (omega),?_⟩;((conv=>whnf))) | (refine⟨by (unfold I64;omega),?_⟩;((conv=>whnf))) | refine Ba [] hI z_ ?_ ⟨⟨rfl,rfl,rfl,rfl,rfl,rfl,rfl,rfl,trivial⟩,trivial,rfl,rfl⟩))
 all_goals try (refine congrArg Aa ?_)
 ·exact Ck z_ (fun i hi hij=>by have:=hI i hi hij;grind) (by simp_all)
 ·exact Aq hI z_ (by simp_all)
 ·exact Aq hI z_ (by simp_all)
 ·exact C2 (fun i hi=>by have:=hI i hi z_;grind)
theorem Ada (n:Net) (hn:n.Fin):Sy.Spec Tryz.prog 223 [Aj n] [] (Ab (Dt (On n) n.links)) []:=cT F223 Tryz.ntmps223 fun F hF=>by
 have hl:=hn.links
 unfold At at hl
 conv=>whnf
 refine A6 1 8 (Aj n) Y Y Y ?_
 refine A2 n.links.length (fun j=>Da (On n) n.links j) (fun j=>[(1,.ref 8 (Aj n) 0),(3,Aa j)]) (fun _=>[]) [] (Av _ _) ⟨⟨Y,Y,Y,Y,q_⟩,q_,Y,Y⟩ ?_
 intro j hj hI
 refine oO ?_
 (repeat' (first | (refine⟨fun h=>?_,fun h=>?_⟩<;>(repeat (first | simp only[Ap]at h | simp only[decide_eq_true_eq]at h | simp only[decide_eq_false_iff_not]at h | simp only[beq_iff_eq]at h | simp only[beq_eq_false_iff_ne]at h | simp only[bne_iff_ne]at h | simp only[bne_eq_false_iff_eq]at h | simp only[Bool.and_eq_true]at h | simp only[Bool.and_eq_false_iff]at h | simp only[Bool.not_eq_true']at h | simp only[Bool.not_eq_false']at h))<;>((first|refine rg ?_|refine rd j_ ?_);(conv=>whnf);repeat((refine aT ?_);(first|refine rg ?_|refine rd j_ ?_);(conv=>whnf)))) | (refine Ar rfl (.cons .tmp .nil) ?_ rfl) | (refine⟨j_,?_⟩;((conv=>whnf);repeat((refine aT ?_);(refine oO ?_)))) | (refine⟨by (first | omega | (simp only[Int.toNat_natCast];omega)),by (first | omega | (simp only[Int.toNat_natCast];omega)),?_⟩;((conv=>whnf))) | (refine⟨by (unfold I64;omega),?_⟩;((conv=>whnf))) | (refine c0 (Cp (n.links[j]'z_).a n.ports.length) F294 ?_;((refine oO ?_))) | (refine c0 (Cp (n.links[j]'z_).b n.ports.length) F294 ?_;((refine oO ?_))) | refine Ba [] hI z_ ?_ ⟨⟨rfl,rfl,rfl,rfl,trivial⟩,trivial,rfl,rfl⟩))
 all_goals (simp only[Int.toNat_natCast]at *)
 all_goals first
  | exact Aq hI z_ (by clear hI hF;grind [On,Ap,As])
  | (refine congrArg Ab ?_;exact Be (i:=j) z_ (by clear hI hF;grind [On,Ap,As]))
  | (refine congrArg Ab ?_;exact Ci hI z_)
theorem Ac9 (n:Net) (hn:n.Fin):Sy.Spec Tryz.prog 222 [Aj n] [] (Ab (Dt (Jg n) n.ports)) []:=cT F222 Tryz.ntmps222 fun F hF=>by
 have hl:=hn.ports
 unfold At at hl
 conv=>whnf
 refine A6 1 8 (Aj n) Y Y Y ?_
 refine A2 n.ports.length (fun j=>Da (Jg n) n.ports j) (fun j=>[(1,.ref 8 (Aj n) 0),(3,Aa j)]) (fun _=>[]) [] (Av _ _) ⟨⟨Y,Y,Y,Y,q_⟩,q_,Y,Y⟩ ?_
 intro j hj hI
 refine oO ?_
 refine⟨fun h=>?_,fun h=>?_⟩
 ·have hjl:j<n.ports.length:=by simpa using h
  have ht:=hn.tagged _ (List.getElem_mem hjl)
  generalize hp:n.ports[j]=p at ht
  have hp':n.ports[(j:Int).toNat]'z_=p:=hp
  refine oO ?_
  refine⟨Y,by omega,by omega,?_⟩
  rw[hp']
  conv=>whnf
  (repeat' (first | (refine⟨fun h=>?_,fun h=>?_⟩<;>(repeat (first | simp only[Ap]at h | simp only[decide_eq_true_eq]at h | simp only[decide_eq_false_iff_not]at h | simp only[beq_iff_eq]at h | simp only[beq_eq_false_iff_ne]at h | simp only[Bool.and_eq_true]at h | simp only[Bool.or_eq_true]at h | simp only[Bool.and_eq_false_iff]at h | simp only[Bool.or_eq_false_iff]at h | simp only[Bool.not_eq_true']at h | simp only[Bool.not_eq_false']at h))<;>((refine oO ?_);repeat((first|refine aF ?_|refine aT ?_);(refine oO ?_)))) | (refine Ar rfl (.cons .tmp .nil) ?_ rfl) | (refine c0 (Cp p.dev n.devices.length) F294 ?_;((refine oO ?_))) | (refine c0 (Lw p.tagged 4094 ht) F296 ?_;((refine oO ?_))) | (refine c0 (Ih p.tagged p.native ht) F226 ?_;((refine oO ?_))) | (refine c0 (Je n p.dev p.native hn.domains) F213 ?_;((refine oO ?_)))))
  all_goals first
   | (refine congrArg Ab ?_;exact Be hjl (by rw[hp];clear hI hF hp';grind [Jg,Ap,Cs]))
   | skip
  all_goals (
   refine A6 4 7 (Bb p) Y Y Y ?_
   refine A2 p.tagged.length (fun k=>Da (fun _ v=>Cs n p.dev v) p.tagged k) (fun k=>[(1,.ref 8 (Aj n) 0),(3,Aa j),(4,.ref 7 (Bb p) 0),(5,Aa k)]) (fun _=>[]) [] (Av _ _) ⟨⟨Y,Y,Y,Y,Y,Y,Y,Y,q_⟩,q_,Y,Y⟩ ?_
   intro k hk hI2
   have hsh:=ht
   unfold At at hsh
   ((first|refine rG Γ hm ?_|refine rD Γ hm j_ ?_);(conv=>whnf);repeat((first|refine aF ?_|refine aT ?_);(first|refine rG Γ hm ?_|refine rD Γ hm j_ ?_);conv=>whnf)))
  all_goals (
   (repeat' (first | (refine⟨fun h=>?_,fun h=>?_⟩<;>(repeat (first | simp only[Ap]at h | simp only[decide_eq_true_eq]at h | simp only[decide_eq_false_iff_not]at h | simp only[beq_iff_eq]at h | simp only[beq_eq_false_iff_ne]at h | simp only[bne_iff_ne]at h | simp only[bne_eq_false_iff_eq]at h | simp only[Bool.and_eq_true]at h | simp only[Bool.and_eq_false_iff]at h | simp only[Bool.not_eq_true']at h | simp only[Bool.not_eq_false']at h))<;>((refine oO ?_);repeat((first|refine aF ?_|refine aT ?_);(refine oO ?_)))) | (refine Ar rfl (.cons .tmp .nil) ?_ rfl) | (refine⟨j_,?_⟩;((conv=>whnf))) | (refine⟨by (omega),by (omega),?_⟩;((conv=>whnf))) | (refine⟨by (unfold I64;omega),?_⟩;((conv=>whnf))) | (refine cD (Je n p.dev (p.tagged[k]'z_) hn.domains) F213 ?_;((refine rd j_ ?_);(conv=>whnf))) | (refine c0 (Cp p.link n.links.length) F294 ?_;((refine oO ?_))) | refine Ba [] hI2 z_ ?_ ⟨⟨rfl,rfl,rfl,rfl,rfl,rfl,rfl,rfl,trivial⟩,trivial,rfl,rfl⟩ | refine Ba [] hI z_ ?_ ⟨⟨rfl,rfl,rfl,rfl,trivial⟩,trivial,rfl,rfl⟩)))
  all_goals first
   | exact Aq hI2 z_ (by simp only[Cs,decide_eq_true_eq];omega)
   | (refine congrArg Ab ?_
      have h0:Dt (fun _ v=>Cs n p.dev v) p.tagged=false:=Be (i:=k) z_ (by simp only[Cs,decide_eq_false_iff_not];omega)
      exact Be hjl (by rw[hp];clear hI hI2 hF hp';grind [Jg]))
   | skip
  all_goals have h0:Dt (fun _ v=>Cs n p.dev v) p.tagged=true:=Ci hI2 z_
  all_goals first
   | exact Aq hI hjl (by rw[hp];clear hI hI2 hF hp';grind [Jg,Ap,Cs,As])
   | (refine congrArg Ab ?_
      exact Be hjl (by rw[hp];clear hI hI2 hF hp';grind [Jg,Ap,Cs,As]))
 ·refine oO ?_
  exact Ar Y (.cons .tmp .nil) (congrArg Ab (Ci hI (by simpa using h))) Y
theorem Agy (n:Net) (i:Nat) (k:Int) (hn:n.Fin) (hi:i<n.domains.length) (hb:Dt (Iy n) n.domains=true):Sy.Spec Tryz.prog 295 [Aj n,Aa i,Aa k] [] (Ab (Od n i n.domains[i] k)) []:=cT F295 Tryz.ntmps295 fun F hF=>by
 have hd:=O0 hb hi
 have ha:n.domains[(i:Int).toNat]'z_=n.domains[i]:=rfl
 have hr:∀ x:Bool,Od n i n.domains[i] k=x→Od n i (n.domains[(i:Int).toNat]'z_) k=x:=fun x h=>h
 generalize n.domains[i]=d at *
 simp only[Ap,Bool.and_eq_true,decide_eq_true_eq]at hd
 conv=>whnf
 (repeat' (first | (refine⟨fun h=>?_,fun h=>?_⟩<;>(repeat (first | simp only[Ap]at h | simp only[decide_eq_true_eq]at h | simp only[decide_eq_false_iff_not]at h | simp only[beq_iff_eq]at h | simp only[beq_eq_false_iff_ne]at h | simp only[bne_iff_ne]at h | simp only[bne_eq_false_iff_eq]at h | simp only[Bool.and_eq_true]at h | simp only[Bool.and_eq_false_iff]at h | simp only[Bool.not_eq_true']at h | simp only[Bool.not_eq_false']at h))<;>((refine oO ?_);repeat((first|refine aF ?_|refine aT ?_);(refine oO ?_)))) | (refine Ar rfl (.cons .tmp .nil) ?_ rfl) | (refine⟨j_,?_⟩;((conv=>whnf))) | (refine⟨by (first | omega | (first | (simp only[ha];omega) | (have hq:=O0 hb (i:=k.toNat) z_;simp only[Ap,Bool.and_eq_true,decide_eq_true_eq]at hq;omega))),by (first | omega | (first | (simp only[ha];omega) | (have hq:=O0 hb (i:=k.toNat) z_;simp only[Ap,Bool.and_eq_true,decide_eq_true_eq]at hq;omega))),?_⟩;((conv=>whnf))) | (refine c0 (Cp k n.domains.length) F294 ?_;((refine oO ?_))) | (refine c0 (Ih (n.domains[k.toNat]'z_).peers i (hn.peers _ (List.getElem_mem _))) F226 ?_;((refine oO ?_)))))
 all_goals (
  refine congrArg Ab ?_
  have hq:∀ h:k.toNat<n.domains.length,0≤n.domains[k.toNat].dev∧n.domains[k.toNat].dev<n.devices.length:=fun h=>by
   have:=O0 hb h
   simpa only [Ap,Bool.and_eq_true,decide_eq_true_eq] using this
  clear hF hr;grind [Od,Acn,Ap,As])
theorem Aqo (l:List Int) (k:Nat) (hk:k<l.length):inB (l.take k) l[k]=!(Dl (· == l[k]) l == (k:Int)):=by
 have h0:∀ x,Dl (· == l[k]) l=x→inB (l.take k) l[k]=!(x == (k:Int)):=by
  intro x hx
  subst hx
  unfold Dl
  split
  ·rename_i i h
   rw[List.findIdx?_eq_some_iff_getElem]at h
   obtain ⟨hi,h1,h2⟩:=h
   have hle:i≤k:=by
    rcases Nat.lt_or_ge k i with h3 | h3
    ·exact absurd (h2 k h3) qe
    ·exact h3
   by_cases he:i=k
   ·subst he
    simp only[inB,beq_self_eq_true,Bool.not_true]
    rw[List.any_eq_false]
    intro x hx
    obtain ⟨m,hm,rfl⟩:=List.mem_iff_getElem.1 hx
    simp only[List.length_take]at hm
    rw[List.getElem_take]
    have:=h2 m z_
    simpa using this
   ·have:((i:Int) == (k:Int))=false:=by simp;omega
    rw[this]
    simp only[inB,Bool.not_false]
    refine List.any_eq_true.2 ⟨l[i],?_,h1⟩
    exact List.mem_iff_getElem.2 ⟨i,by simp;omega,by simp⟩
  ·rename_i h
   rw[List.findIdx?_eq_none_iff]at h
   have:=h l[k] (List.getElem_mem hk)
   simp at this
 exact h0 _ Y
theorem Q1 {P:Program} (Γ:Ty P) {o:Oper} {s:SS} {t:TypeId} {ti:TI} {et:TypeId} {sz eb lo hi:Nat} {ez:List Value} {x:Operand} {lx hx:Option Operand} {α:Type} {e:α→SV} {l:List α} (r:List α)
  (h:o.op=.slice t x lx hx none) (ht:Γ.get t=some ti) (hk:ti.k=.slice et sz eb ez) (hxe:ev s x=.sl sz e l) (hlo:BoundIs s lx 0 lo) (hhi:BoundIs s hx l.length hi) (h1:lo≤hi) (h2:hi≤l.length) (hr:(l.take hi).drop lo=r) :
  Good P o s ⟨.sl sz e r,[],[]⟩:=by
 subst hr
 exact Zd Γ h ht hk hxe hlo hhi h1 h2
theorem Yz (n:Net) (hn:n.Fin):Sy.Spec Tryz.prog 221 [Aj n] [] (Ab (Dt (Iy n) n.domains && Dt (Oc n) n.domains)) []:=cT F221 Tryz.ntmps221 fun F hF=>by
 have hl:=hn.domains
 unfold At at hl
 conv=>whnf
 refine A6 1 8 (Aj n) Y Y Y ?_
 refine A2 n.domains.length (fun j=>Da (Iy n) n.domains j) (fun j=>[(1,.ref 8 (Aj n) 0),(3,Aa j)]) (fun _=>[]) [] (Av _ _) ⟨⟨Y,Y,Y,Y,q_⟩,q_,Y,Y⟩ ?_
 intro j hj hI
 refine oO ?_
 refine⟨fun h=>?_,fun h=>?_⟩
 ·have hjl:j<n.domains.length:=by simpa using h
  generalize hp:n.domains[j]=p
  have hp':n.domains[(j:Int).toNat]'z_=p:=hp
  refine oO ?_
  refine⟨Y,by omega,by omega,?_⟩
  rw[hp']
  conv=>whnf
  (repeat' (first | (refine⟨fun h=>?_,fun h=>?_⟩<;>(repeat (first | simp only[Ap]at h | simp only[decide_eq_true_eq]at h | simp only[decide_eq_false_iff_not]at h | simp only[bne_iff_ne]at h | simp only[bne_eq_false_iff_eq]at h | simp only[Bool.and_eq_true]at h | simp only[Bool.and_eq_false_iff]at h | simp only[Bool.not_eq_true']at h | simp only[Bool.not_eq_false']at h))<;>((refine oO ?_);repeat((first|refine aF ?_|refine aT ?_);(refine oO ?_)))) | (refine Ar rfl (.cons .tmp .nil) ?_ rfl) | (refine⟨j_,?_⟩;((conv=>whnf))) | (refine⟨by (omega),by (omega),?_⟩;((conv=>whnf))) | (refine⟨by (unfold I64;omega),?_⟩;((conv=>whnf))) | (refine c0 (Cp p.dev n.devices.length) F294 ?_;((refine oO ?_))) | (refine c0 (Cp p.irb n.irbs.length) F294 ?_;((refine oO ?_))) | (refine c0 (Je n p.dev p.vlan hn.domains) F213 ?_;((refine oO ?_))) | refine Ba [] hI z_ ?_ ⟨⟨rfl,rfl,rfl,rfl,trivial⟩,trivial,rfl,rfl⟩))
  all_goals first
   | exact Aq hI hjl (by rw[hp];clear hI hF hp';grind [Iy,Ap,As])
   | (refine congrArg Ab ?_;rw[Be (p:=Iy n) hjl (by rw[hp];clear hI hF hp';grind [Iy,Ap,As])];rfl)
 have hb:Dt (Iy n) n.domains=true:=Ci hI (by simpa using h)
 clear hI
 refine oO ?_
 refine A2 n.domains.length (fun j=>Da (Oc n) n.domains j) (fun j=>[(1,.ref 8 (Aj n) 0),(5,Aa j)]) (fun _=>[]) [] (Av _ _) ⟨⟨Y,Y,Y,Y,q_⟩,q_,Y,Y⟩ ?_
 clear hj h
 intro j hj hI
 refine oO ?_
 refine⟨fun h=>?_,fun h=>?_⟩
 ·have hjl:j<n.domains.length:=by simpa using h
  have hpe:=fun k=>Agy n j k hn hjl hb
  have hsh:=hn.peers _ (List.getElem_mem hjl)
  generalize hp:n.domains[j]=p at hpe hsh
  have hp':n.domains[(j:Int).toNat]'z_=p:=hp
  refine oO ?_
  refine⟨Y,by omega,by omega,?_⟩
  rw[hp']
  conv=>whnf
  refine A6 6 6 (Am p) Y Y Y ?_
  refine A2 p.peers.length (fun k=>Da (fun at_ k=>Od n j p k && Dl (· == k) p.peers == at_) p.peers k) (fun k=>[(1,.ref 8 (Aj n) 0),(5,Aa j),(6,.ref 6 (Am p) 0),(7,Aa k)]) (fun _=>[]) [] (Av _ _) ⟨⟨Y,Y,Y,Y,Y,Y,Y,Y,q_⟩,q_,Y,Y⟩ ?_
  intro k hk hI2
  unfold At at hsh
  refine oO ?_
  refine⟨fun h2=>?_,fun h2=>?_⟩
  ·have hkl:k<p.peers.length:=by simpa using h2
   have hkk:p.peers[(k:Int).toNat]'z_=p.peers[k]:=rfl
   have hty:=Aqo p.peers k hkl
   refine oO ?_
   refine⟨j_,?_⟩
   refine⟨by omega,by omega,?_⟩
   rw[hkk]
   generalize p.peers[k]=x at *
   conv=>whnf
   (repeat' (first | (refine⟨fun h=>?_,fun h=>?_⟩<;>(repeat (first | simp only[Bool.not_eq_true']at h | simp only[Bool.not_eq_false']at h))<;>((first|refine rg ?_|refine rd j_ ?_);(conv=>whnf))) | (refine Ar rfl (.cons .tmp .nil) ?_ rfl) | (refine⟨j_,?_⟩;((conv=>whnf);repeat((refine aT ?_);(refine oO ?_)))) | (refine⟨by (omega),by (omega),?_⟩;((conv=>whnf))) | (refine⟨by (unfold I64;omega),?_⟩;((conv=>whnf))) | (refine cD (hpe x) F295 ?_;((refine rd j_ ?_);(conv=>whnf))) | (refine cD (Ih (p.peers.take k) (p.peers[(k:Int).toNat]'z_) (by unfold At;simp;omega)) F226 ?_;((refine rd j_ ?_);(conv=>whnf))) | refine Ba [] hI2 z_ ?_ ⟨⟨rfl,rfl,rfl,rfl,rfl,rfl,rfl,rfl,trivial⟩,trivial,rfl,rfl⟩ | ((refine Kd (Q1 Γ.toTy (lo:=0) (hi:=k) (p.peers.take k) rfl rfl rfl rfl (.inl ⟨rfl,rfl⟩) (.inr ⟨_,_,rfl,rfl⟩) z_ z_ rfl) j_ rfl ?_;((refine rd j_ ?_);(conv=>whnf))))))
   all_goals first
    | exact Aq hI2 hkl (by clear hF;grind)
    | (refine congrArg Ab ?_
       have h0:Oc n j p=false:=Be hkl (by clear hF;grind)
       rw[hb,Be (p:=Oc n) hjl (by rw[hp];exact h0)];rfl)
  ·have h0:Oc n j p=true:=Ci hI2 (by simpa using h2)
   refine oO ?_
   (repeat' (first | (refine⟨by (unfold I64;omega),?_⟩;((conv=>whnf))) | refine Ba [] hI z_ ?_ ⟨⟨rfl,rfl,rfl,rfl,trivial⟩,trivial,rfl,rfl⟩))
   exact Aq hI hjl (by rw[hp];exact h0)
 ·refine oO ?_
  refine Ar Y (.cons .tmp .nil) (congrArg Ab ?_) Y
  rw[hb,Ci hI (by simpa using h)]
  rfl
def M5 (n:Net):Bool:=Dt (fun _=>Hu n) n.statics && Dt (fun _=>Is n) n.floods && Dt (fun _=>Yy n) n.vrfs && Dt (Tu n) n.irbs
theorem rest1 {n:Net} (h:Dt (fun _=>Hu n) n.statics=false):M5 n=false:=by simp[M5,h]
theorem rest2 {n:Net} (h:Dt (fun _=>Is n) n.floods=false):M5 n=false:=by simp[M5,h]
theorem rest3 {n:Net} (h:Dt (fun _=>Yy n) n.vrfs=false):M5 n=false:=by simp[M5,h]
theorem rest4 {n:Net} (h:Dt (Tu n) n.irbs=false):M5 n=false:=by simp[M5,h]
theorem Agx (n:Net) (hn:n.Fin):Sy.Spec Tryz.prog 224 [Aj n] [] (Ab (M5 n)) []:=cT F224 Tryz.ntmps224 fun F hF=>by
 have hl1:=hn.statics
 have hl2:=hn.floods
 have hl3:=hn.vrfs
 have hl4:=hn.irbs
 unfold At at hl1 hl2 hl3 hl4
 conv=>whnf
 refine A6 1 8 (Aj n) Y Y Y ?_
 refine A2 n.statics.length (fun j=>Da (fun _=>Hu n) n.statics j) (fun j=>[(1,.ref 8 (Aj n) 0),(3,Aa j)]) (fun _=>[]) [] (Av _ _) ⟨⟨Y,Y,Y,Y,q_⟩,q_,Y,Y⟩ ?_
 intro j hj hI
 refine oO ?_
 refine⟨fun h=>?_,fun h=>?_⟩
 ·have hjl:j<n.statics.length:=by simpa using h
  generalize hp:n.statics[j]=s
  have hp':n.statics[(j:Int).toNat]'z_=s:=hp
  refine oO ?_
  refine⟨Y,by omega,by omega,?_⟩
  rw[hp']
  conv=>whnf
  (repeat' (first | (refine⟨fun h=>?_,fun h=>?_⟩<;>(repeat (first | simp only[Ap]at h | simp only[decide_eq_true_eq]at h | simp only[decide_eq_false_iff_not]at h | simp only[bne_iff_ne]at h | simp only[bne_eq_false_iff_eq]at h | simp only[Bool.and_eq_true]at h | simp only[Bool.and_eq_false_iff]at h | simp only[Bool.not_eq_true']at h | simp only[Bool.not_eq_false']at h))<;>((first|refine rg ?_|refine rd j_ ?_);(conv=>whnf);repeat((refine aT ?_);(refine oO ?_)))) | (refine Ar rfl (.cons .tmp .nil) ?_ rfl) | (refine⟨j_,?_⟩;((conv=>whnf);repeat((refine aT ?_);(refine oO ?_)))) | (refine⟨by (omega),by (omega),?_⟩;((conv=>whnf))) | (refine⟨by (unfold I64;omega),?_⟩;((conv=>whnf))) | (refine c0 (Cp s.domain n.domains.length) F294 ?_;((refine oO ?_))) | (refine c0 (Cp s.port n.ports.length) F294 ?_;((refine oO ?_))) | (refine cD (Lx (n.ports[s.port.toNat]'z_) (n.domains[s.domain.toNat]'z_).vlan (hn.tagged _ (List.getElem_mem _))) F215 ?_;((refine rd j_ ?_);(conv=>whnf))) | refine Ba [] hI z_ ?_ ⟨⟨rfl,rfl,rfl,rfl,trivial⟩,trivial,rfl,rfl⟩))
  all_goals first
   | exact Aq hI hjl (by rw[hp];clear hI hF hp';grind [Hu,Ap,As])
   | (refine congrArg Ab ?_;exact rest1 (Be hjl (by rw[hp];clear hI hF hp';grind [Hu,Ap,As])))
 have a1:Dt (fun _=>Hu n) n.statics=true:=Ci hI (by simpa using h)
 clear hI
 refine oO ?_
 refine A2 n.floods.length (fun j=>Da (fun _=>Is n) n.floods j) (fun j=>[(1,.ref 8 (Aj n) 0),(6,Aa j)]) (fun _=>[]) [] (Av _ _) ⟨⟨Y,Y,Y,Y,q_⟩,q_,Y,Y⟩ ?_
 clear hj h
 intro j hj hI
 refine oO ?_
 refine⟨fun h=>?_,fun h=>?_⟩
 ·have hjl:j<n.floods.length:=by simpa using h
  refine oO ?_
  (repeat' (first | (refine⟨fun h=>?_,fun h=>?_⟩<;>(repeat (first | simp only[Ap]at h | simp only[decide_eq_true_eq]at h | simp only[decide_eq_false_iff_not]at h | simp only[Bool.and_eq_true]at h | simp only[Bool.and_eq_false_iff]at h | simp only[Bool.not_eq_true']at h | simp only[Bool.not_eq_false']at h))<;>((first|refine rg ?_|refine rd j_ ?_);(conv=>whnf))) | (refine Ar rfl (.cons .tmp .nil) ?_ rfl) | (refine⟨j_,?_⟩;((conv=>whnf);repeat((refine aT ?_);(refine oO ?_)))) | (refine⟨by (omega),by (omega),?_⟩;((conv=>whnf))) | (refine⟨by (unfold I64;omega),?_⟩;((conv=>whnf))) | (refine cD (Cp (n.floods[(j:Int).toNat]'z_).dev n.devices.length) F294 ?_;((refine rd j_ ?_);(conv=>whnf))) | refine Ba [] hI z_ ?_ ⟨⟨rfl,rfl,rfl,rfl,trivial⟩,trivial,rfl,rfl⟩))
  all_goals (simp only[Int.toNat_natCast]at *)
  all_goals first
   | exact Aq hI hjl (by clear hI hF;grind [Is,Ap])
   | (refine congrArg Ab ?_;exact rest2 (Be hjl (by clear hI hF;grind [Is,Ap])))
 have a2:Dt (fun _=>Is n) n.floods=true:=Ci hI (by simpa using h)
 clear hI
 refine oO ?_
 refine A2 n.vrfs.length (fun j=>Da (fun _=>Yy n) n.vrfs j) (fun j=>[(1,.ref 8 (Aj n) 0),(7,Aa j)]) (fun _=>[]) [] (Av _ _) ⟨⟨Y,Y,Y,Y,q_⟩,q_,Y,Y⟩ ?_
 clear hj h
 intro j hj hI
 refine oO ?_
 refine⟨fun h=>?_,fun h=>?_⟩
 ·have hjl:j<n.vrfs.length:=by simpa using h
  have h1:=hn.imports _ (List.getElem_mem hjl)
  have h2:=hn.exports _ (List.getElem_mem hjl)
  generalize hp:n.vrfs[j]=v at h1 h2
  have hp':n.vrfs[(j:Int).toNat]'z_=v:=hp
  refine oO ?_
  refine⟨Y,by omega,by omega,?_⟩
  rw[hp']
  conv=>whnf
  (repeat' (first | (refine⟨fun h=>?_,fun h=>?_⟩<;>(repeat (first | simp only[Ap]at h | simp only[decide_eq_true_eq]at h | simp only[decide_eq_false_iff_not]at h | simp only[Bool.and_eq_true]at h | simp only[Bool.or_eq_true]at h | simp only[Bool.and_eq_false_iff]at h | simp only[Bool.or_eq_false_iff]at h | simp only[Bool.not_eq_true']at h | simp only[Bool.not_eq_false']at h))<;>((refine oO ?_);repeat((refine aT ?_);(refine oO ?_)))) | (refine Ar rfl (.cons .tmp .nil) ?_ rfl) | (refine⟨by (unfold I64;omega),?_⟩;((conv=>whnf))) | (refine c0 (Cp v.dev n.devices.length) F294 ?_;((refine oO ?_))) | (refine c0 (Lw v.imports 65535 h1) F296 ?_;((refine oO ?_))) | (refine c0 (Lw v.exports 65535 h2) F296 ?_;((refine oO ?_))) | refine Ba [] hI z_ ?_ ⟨⟨rfl,rfl,rfl,rfl,trivial⟩,trivial,rfl,rfl⟩))
  all_goals first
   | exact Aq hI hjl (by rw[hp];clear hI hF hp';grind [Yy,S9,Ap])
   | (refine congrArg Ab ?_;exact rest3 (Be hjl (by rw[hp];clear hI hF hp';grind [Yy,S9,Ap])))
 have a3:Dt (fun _=>Yy n) n.vrfs=true:=Ci hI (by simpa using h)
 clear hI
 refine oO ?_
 refine A2 n.irbs.length (fun j=>Da (Tu n) n.irbs j) (fun j=>[(1,.ref 8 (Aj n) 0),(9,Aa j)]) (fun _=>[]) [] (Av _ _) ⟨⟨Y,Y,Y,Y,q_⟩,q_,Y,Y⟩ ?_
 clear hj h
 intro j hj hI
 refine oO ?_
 refine⟨fun h=>?_,fun h=>?_⟩
 ·have hjl:j<n.irbs.length:=by simpa using h
  generalize hp:n.irbs[j]=x
  have hp':n.irbs[(j:Int).toNat]'z_=x:=hp
  refine oO ?_
  refine⟨Y,by omega,by omega,?_⟩
  rw[hp']
  conv=>whnf
  (repeat' (first | (refine⟨fun h=>?_,fun h=>?_⟩<;>(repeat (first | simp only[Ap]at h | simp only[decide_eq_true_eq]at h | simp only[decide_eq_false_iff_not]at h | simp only[bne_iff_ne]at h | simp only[bne_eq_false_iff_eq]at h | simp only[Bool.and_eq_true]at h | simp only[Bool.and_eq_false_iff]at h | simp only[Bool.not_eq_true']at h | simp only[Bool.not_eq_false']at h))<;>((first|refine rg ?_|refine rd j_ ?_);(conv=>whnf);repeat((refine aT ?_);(refine oO ?_)))) | (refine Ar rfl (.cons .tmp .nil) ?_ rfl) | (refine⟨j_,?_⟩;((conv=>whnf);repeat((refine aT ?_);(refine oO ?_)))) | (refine⟨by (omega),by (omega),?_⟩;((conv=>whnf))) | (refine⟨by (unfold I64;omega),?_⟩;((conv=>whnf))) | (refine c0 (Cp x.domain n.domains.length) F294 ?_;((refine oO ?_))) | (refine c0 (Cp x.vrf n.vrfs.length) F294 ?_;((refine oO ?_))) | refine Ba [] hI z_ ?_ ⟨⟨rfl,rfl,rfl,rfl,trivial⟩,trivial,rfl,rfl⟩))
  all_goals first
   | exact Aq hI hjl (by rw[hp];clear hI hF hp';grind [Tu,Ap,As])
   | (refine congrArg Ab ?_;exact rest4 (Be hjl (by rw[hp];clear hI hF hp';grind [Tu,Ap,As])))
 have a4:Dt (Tu n) n.irbs=true:=Ci hI (by simpa using h)
 refine oO ?_
 exact Ar Y (.cons .tmp .nil) (congrArg Ab (by simp[M5,a1,a2,a3,a4])) Y
theorem M6 (n:Net) (hn:n.Fin):Sy.Spec Tryz.prog 135 [Aj n] [] (Ab (Ah n)) []:=cT F135 Tryz.ntmps135 fun F hF=>by
 conv=>whnf
 (repeat' (first | (refine⟨fun h=>?_,fun h=>?_⟩<;>(repeat (first | simp only[decide_eq_true_eq]at h | simp only[decide_eq_false_iff_not]at h | simp only[Bool.and_eq_true]at h | simp only[Bool.and_eq_false_iff]at h))<;>((refine oO ?_);repeat((first|refine aF ?_|refine aT ?_);(refine oO ?_)))) | (refine Ar rfl (.cons .tmp .nil) ?_ rfl) | (refine c0 (Yz n hn) F221 ?_;((refine oO ?_))) | (refine c0 (Ac9 n hn) F222 ?_;((refine oO ?_))) | (refine c0 (Ada n hn) F223 ?_;((refine oO ?_))) | (refine c0 (Agx n hn) F224 ?_;((refine oO ?_)))))
 all_goals (refine congrArg Ab ?_;clear hF)
 all_goals (first | grind [Ah,Alu,M5] | trace_state)
end Go.Sy.YtjenpnjajjplkaaGreatDoor
namespace Go.Sy.YtjenpnjajjplkaaGreatDoor
section
variable {α:Type}
def Ai1 (p:α→Bool):List α→Nat
 | []=>0
 | a::l=>if Ai1 p l=l.length∧p a=true then l.length+1 else Ai1 p l
def insE (lt:α→α→Bool) (x:α) (l:List α):List α:=l.take (l.length-Ai1 (lt x) l)++x::l.drop (l.length-Ai1 (lt x) l)
def Acw (lt:α→α→Bool):List α→List α→List α
 | out,[]=>out
 | out,x::l=>Acw lt (insE lt x out) l
def Aq8 (lt:α→α→Bool) (l:List α):List α:=Acw lt [] l
end
end Go.Sy.YtjenpnjajjplkaaGreatDoor
namespace Go.Sy.YtjenpnjajjplkaaGreatDoor
section
variable {α:Type}
def bs (lt:α→α→Bool) (s:Nat) (l:List α):List α :=
 if h:s=0∨l.length≤s then Aq8 lt l else Aq8 lt (l.take s)++bs lt s (l.drop s)
termination_by l.length
decreasing_by
 simp only[List.length_drop];omega
end
end Go.Sy.YtjenpnjajjplkaaGreatDoor
namespace Go.Sy.YtjenpnjajjplkaaGreatDoor
section
variable {α:Type}
end
end Go.Sy.YtjenpnjajjplkaaGreatDoor
namespace Go.Sy.YtjenpnjajjplkaaGreatDoor
section
variable {α β:Type}
structure CmpOK (c:α→α→Int):Prop where
 anti:∀ x y,c x y<0↔0<c y x
 trans:∀ x y z,c x y≤0→c y z≤0→c x z≤0∧(c x z=0→c x y=0∧c y z=0)
theorem CmpOK.zero {c:α→α→Int} (h:CmpOK c) {x y:α} (hx:c x y=0):c y x=0:=by
 have h1:=h.anti x y;have h2:=h.anti y x;omega
theorem CmpOK.alike {c:α→α→Int} (h:CmpOK c) {x y z:α} (h1:c x y=0) (h2:c y z=0):c x z=0:=by
 have a:=(h.trans x y z z_ z_).1
 have b:=(h.trans z y x (by rw[h.zero h2];omega) (by rw[h.zero h1];omega)).1
 have d:=h.anti x z
 have e:=h.anti z x
 omega
def Vd (a b:Int):Int:=if a≠0 then a else b
theorem CmpOK.then {c d:α→α→Int} (hc:CmpOK c) (hd:CmpOK d):CmpOK (fun x y=>Vd (c x y) (d x y)) where
 anti x y:=by
  have h1:=hc.anti x y
  have h2:=hc.anti y x
  have h3:=hd.anti x y
  unfold Vd
  by_cases h:c x y=0
  ·rw[if_neg z_,if_neg z_];exact h3
  ·rw[if_pos h,if_pos z_];exact h1
 trans x y z:=by
  unfold Vd
  intro h1 h2
  have t:=hc.trans x y z
  by_cases hxy:c x y=0
  ·rw[if_neg z_]at h1
   by_cases hyz:c y z=0
   ·rw[if_neg z_]at h2
    have hxz:=hc.alike hxy hyz
    rw[if_neg z_,if_neg z_,if_neg z_]
    exact hd.trans x y z h1 h2
   ·rw[if_pos hyz]at h2
    have t:=t z_ h2
    have h0:c x z≠0:=fun e=>hyz (t.2 e).2
    rw[if_pos h0]
    exact⟨t.1,fun e=>absurd e h0⟩
  ·rw[if_pos hxy]at h1
   have hyz:c y z≤0:=by
    by_cases hyz:c y z=0
    ·omega
    ·rw[if_pos hyz]at h2;exact h2
   have t:=t h1 hyz
   have h0:c x z≠0:=fun e=>hxy (t.2 e).1
   rw[if_pos h0]
   exact⟨t.1,fun e=>absurd e h0⟩
def E0 (c:α→α→Int):List α→List α→Int
 | [],[]=>0
 | [],_::_=>-1
 | _::_,[]=>1
 | x::a,y::b=>Vd (c x y) (E0 c a b)
theorem Yo {c:α→α→Int} (h:CmpOK c):∀ (a b:List α),E0 c a b<0↔0<E0 c b a
 | [],[]=>by simp[E0]
 | [],_::_=>by simp[E0]
 | _::_,[]=>by simp[E0]
 | x::a,y::b=>by
  have ih:=Yo h a b
  have h1:=h.anti x y
  have h2:=h.anti y x
  rw[E0,E0]
  unfold Vd
  by_cases h0:c x y=0
  ·rw[if_neg z_,if_neg z_];exact ih
  ·rw[if_pos h0,if_pos z_];exact h1
theorem V3 {c:α→α→Int} (h:CmpOK c):∀ (a b d:List α),E0 c a b≤0→E0 c b d≤0→E0 c a d≤0∧(E0 c a d=0→E0 c a b=0∧E0 c b d=0)
 | [],[],[],_,_=>by simp[E0]
 | [],[],_::_,_,_=>by simp[E0]
 | [],_::_,[],_,h2=>by simp[E0]at h2
 | [],_::_,_::_,_,_=>by simp[E0]
 | _::_,[],_,h1,_=>by simp[E0]at h1
 | _::_,_::_,[],_,h2=>by simp[E0]at h2
 | x::a,y::b,z::d,h1,h2=>by
  have ih:=V3 h a b d
  rw[E0]at h1 h2 ⊢
  rw[E0,E0]
  unfold Vd at h1 h2 ⊢
  have t:=h.trans x y z
  by_cases hxy:c x y=0
  ·rw[if_neg z_]at h1
   by_cases hyz:c y z=0
   ·rw[if_neg z_]at h2
    have hxz:=h.alike hxy hyz
    rw[if_neg z_,if_neg z_,if_neg z_]
    exact ih h1 h2
   ·rw[if_pos hyz]at h2
    have t:=t z_ h2
    have h0:c x z≠0:=fun e=>hyz (t.2 e).2
    rw[if_pos h0]
    exact⟨t.1,fun e=>absurd e h0⟩
  ·rw[if_pos hxy]at h1
   have hyz:c y z≤0:=by
    by_cases hyz:c y z=0
    ·omega
    ·rw[if_pos hyz]at h2;exact h2
   have t:=t h1 hyz
   have h0:c x z≠0:=fun e=>hxy (t.2 e).1
   rw[if_pos h0]
   exact⟨t.1,fun e=>absurd e h0⟩
theorem CmpOK.list {c:α→α→Int} (h:CmpOK c):CmpOK (E0 c):=⟨Yo h,V3 h⟩
end
end Go.Sy.YtjenpnjajjplkaaGreatDoor
namespace Go.Sy.YtjenpnjajjplkaaGreatDoor
open Go.Proofs
attribute [local irreducible] Go.Sy.G Go.Sy.DR
set_option maxRecDepth 20000
set_option maxHeartbeats 4000000
def orI:List Int→Int
 | []=>0
 | x::l=>if x=0 then orI l else x
end Go.Sy.YtjenpnjajjplkaaGreatDoor
namespace Go.Sy.YtjenpnjajjplkaaGreatDoor
open Go.Proofs
structure LineM where
 row:Int
 kind:Int
 dev:ByteArray
 port:ByteArray
 peer:ByteArray
 far:ByteArray
 name:ByteArray
 mac:Int
 addr:Int
 bits:Int
 vlan:Int
 num:Int
 cost:Int
 tagged:List Int
 imports:List Int
 exports:List Int
 addrs:List Int
def Bi (l:LineM):List SV:=[Aa l.row,Aa l.kind,Ad l.dev,Ad l.port,Ad l.peer,Ad l.far,Ad l.name,B4 l.mac,A3 l.addr,Aa l.bits,Aa l.vlan,Aa l.num,Aa l.cost,.sl 1 Aa l.tagged,.sl 1 Aa l.imports,.sl 1 Aa l.exports,.sl 1 A3 l.addrs]
def Al (l:LineM):SV:=.agg [Aa l.row,Aa l.kind,Ad l.dev,Ad l.port,Ad l.peer,Ad l.far,Ad l.name,B4 l.mac,A3 l.addr,Aa l.bits,Aa l.vlan,Aa l.num,Aa l.cost,.sl 1 Aa l.tagged,.sl 1 Aa l.imports,.sl 1 Aa l.exports,.sl 1 A3 l.addrs]
theorem Ann (x:Int) (l:List Int):orI (x::l)=Vd x (orI l):=by
 rw[orI];unfold Vd;split<;>simp_all
theorem CmpOK.const {α:Type}:CmpOK (fun _ _:α=>(0:Int)):=⟨fun _ _=>by simp,fun _ _ _ _ _=>by simp⟩
theorem CmpOK.or {α:Type} {c:α→α→Int} {d:α→α→List Int} (hc:CmpOK c) (hd:CmpOK (fun x y=>orI (d x y))):CmpOK (fun x y=>orI (c x y::d x y)):=by
 have h:=hc.then hd
 simp only[Ann]
 exact h
end Go.Sy.YtjenpnjajjplkaaGreatDoor
namespace Go.Sy
theorem Wt {κ:Ka} {w:World} {x:SV}:∀ {l:List SV} {cs:List Value} {i:Nat},RdL κ w l cs→(∀ y v,l[i]? = some y→Rd κ w y v→Rd κ w x v)→RdL κ w (l.set i x) cs
 | [],_,_,h,_=>h
 | y::l,cs,0,h,hx=>by
  simp only[RdL,List.set_cons_zero]at h ⊢
  obtain ⟨v,r,e1,e2,e3⟩:=h
  exact⟨v,r,e1,hx y v Y e2,e3⟩
 | y::l,cs,i+1,h,hx=>by
  simp only[RdL,List.set_cons_succ]at h ⊢
  obtain ⟨v,r,e1,e2,e3⟩:=h
  exact⟨v,r,e1,e2,Wt e3 (fun z u hz hu=>hx z u hz hu)⟩
theorem Afp {C:Cx} {k:List KI} {s:SS} (b i d sz:Nat) {α:Type} (e:α→SV) {l:List SV} (hb:s.h b=.box l) (h:l[i]? = some (.val (.slice none 0 0))) (hd:s.h d=.fresh) (hbd:Nat.beq b d=false)
  (hg:G C k ⟨s.σ,upd (upd s.h b (.box (l.set i (.osl d)))) d (.row sz e [])⟩):G C k s:=fun κ a w hs=>by
 have hne:b≠d:=fun e=>by rw[e,Nat.beq_refl]at hbd;cases hbd
 have hnew:κ d=.new:=by have:=hs.obj d;rwa [hd]at this
 obtain ⟨st,inv⟩:=Jc hs.inv hnew (e:=.nil) (Grew.refl w) (fun b hb=>by cases hb)
 refine hg (En κ d .nil) a w ⟨hs.defers,hs.size,inv,hs.ctx.step inv st,fun j=>Rd.step st _ _ (hs.slot j),fun j=>?_⟩
 show ObOK _ w j (upd (upd s.h b (.box (l.set i (.osl d)))) d (.row sz e []) j)
 by_cases hj:j=d
 ·subst hj;rw[Cm];exact .inl ⟨A9 _ _ _,rfl⟩
 ·rw[Do _ _ hj]
  by_cases hjb:j=b
  ·subst hjb
   rw[Cm]
   have:=ObOK.step st hj _ (hs.obj j)
   rw[hb]at this
   obtain ⟨b',cs,T,fr,e1,e2,e3,e4,e5⟩:=this
   refine⟨b',cs,T,fr,e1,e2,e3,e4,Wt e5 fun y v hy hv=>?_⟩
   rw[h]at hy
   cases hy
   simp only[Rd]at hv
   simp only[Rd,A9]
   exact hv
  ·rw[Do _ _ hjb];exact ObOK.step st hj _ (hs.obj j)
theorem Qk {P:Program} (w:World) {t e:TypeId} (h:P.underlying t=some (.slice e)) (ad:Option Addr) (n cap c1 c2:Nat):(Op.equal t (.slice ad n cap) (.slice none c1 c2)).run P w=.ok ad.isNone w:=by
 have key:∀ d,(Op.equalIn (d+1) t (.slice ad n cap) (.slice none c1 c2)).run P w=.ok ad.isNone w:=fun d=>by
  cases ad<;>simp[Op.equalIn,run_underlying h]
 exact key 9999
inductive NilT (s:SS):SV→List Nat→Nat→Prop
 | sl {sz:Nat} {α:Type} {e:α→SV} {l:List α}:NilT s (.sl sz e l) [] l.length
 | row {k sz:Nat} {α:Type} {e:α→SV} {l:List α} (h:s.h k=.row sz e l):NilT s (.osl k) [k] l.length
theorem NilT.at {C:Cx} {s:SS} {κ:Ka} {a:Act} {w:World} {x:Operand} {rd:List Nat} {n:Nat} (hs:St C.F C.n s κ a w) (hx:NilT s (ev s x) rd n):∃ (ad:Option Addr) (m cap:Nat),a.eval x=.slice ad m cap∧(ad.isNone=true→n=0):=by
 have h1:Rd κ w (ev s x) (a.eval x):=hs.ev x
 generalize ev s x=y at *
 cases hx with
 | @sl sz α e l =>
  simp only[Rd,RdD]at h1
  rcases h1 with ⟨rfl,a',cap,h1⟩ | ⟨b,off,cap,h1,_⟩
  ·exact⟨_,_,_,h1,fun _=>rfl⟩
  ·exact⟨_,_,_,h1,fun h=>by cases h⟩
 | @row k' sz α e l hr =>
  have hob:=hs.obj k'
  rw[hr]at hob
  simp only[Rd]at h1
  rcases hob with ⟨hκ,hl⟩ | ⟨b,cap,_,_,_,hκ,_⟩
  ·rw[hκ]at h1
   exact⟨_,_,_,h1,fun _=>by rw[hl];rfl⟩
  ·rw[hκ]at h1
   exact⟨_,_,_,h1,fun h=>by cases h⟩
theorem Ic {C:Cx} {k:List KI} {s:SS} {all:Array Oper} {o:Oper} {rest:List Oper} {op:BinOp} {t yt:TypeId} {ti:TI} {et:TypeId} {sz eb n:Nat} {ez:List Value} {x y:Operand} {rd:List Nat} (h:o.op=.binOp op t x y yt) (hop:op=.eql∨op=.neq)
  (ht:C.Γ.get t=some ti) (hk:ti.k=.slice et sz eb ez) (hy:ev s y=.val (.slice none 0 0)) (hx:NilT s (ev s x) rd n) (hd:Q6 C.n o=true) (hw:E7 C.n all o s=some true)
  (hg:∀ b:Bool,(b=true→n=0)→G C (.ops all rest::k) (s.upd o.dst ⟨.val (.bool (if op=.eql then b else !b)),rd,[]⟩)):G C (.ops all (o::rest)::k) s:=fun κ a w hs=>by
 have h2:Rd κ w (ev s y) (a.eval y):=hs.ev y
 rw[hy]at h2
 obtain ⟨ad,m,cap,e1,e2⟩:=hx.at hs
 obtain ⟨d,info,z,k1,k2,_⟩:=C.Γ.ok t ti ht
 rw[hk]at k2
 simp only[TK.ok]at k2
 have hrun:=Qk (P:=C.P) w (t:=t) (e:=et) (by first | exact k2.1 ▸ k1 | (rw[k1,k2.1])) ad m cap 0 0
 have hG:=hg ad.isNone e2
 have hv:=h2.val
 refine wpList_step fun K hK=>?_
 rw[if_pos (O5 hs (D5 hw).2 (D5 hw).1)]
 have hx':(execOp a.eval o).run C.P w=.ok (.value (.bool (if op=.eql then ad.isNone else !ad.isNone))) w:=by
  rcases hop with rfl | rfl<;>simp[execOp,h,e1,hv,eqGuard,binOp,hrun]
 simp only[Oper.wp,hx',Oper.upon]
 exact hK _ _ (hG κ _ w (hs.put (U:=⟨.val (.bool (if op=.eql then ad.isNone else !ad.isNone)),rd,[]⟩) (Ym hd) (Step.refl _ κ w) hs.inv (by simp[Rd]) (fun p hp=>by cases hp)))
def KeepL (s:SS):List (Nat × Ob)→Prop
 | []=>True
 | (k,o)::r=>s.h k=o∧KeepL s r
theorem KeepL.all {s:SS}:∀ {l:List (Nat × Ob)},KeepL s l→∀ p∈l,s.h p.1=p.2
 | [],_,p,hp=>by cases hp
 | (k,o)::r,h,p,hp=>by
  rcases List.mem_cons.1 hp with rfl | hp
  ·exact h.1
  ·exact KeepL.all h.2 p hp
theorem Zq {κ:Ka} {w w':World} (hi:Inv κ w) (g:Grew w w'):Step (fun _=>False) κ w κ w'∧Inv κ w' :=
 ⟨⟨g.size,g.os,g.tape,g.output,rfl,fun b hb=>g.blk b (hi.mbnd b hb),fun b hb _=>g.blk b hb,fun k b _ hb=>g.blk b (hi.bnd k b hb),fun _ _=>rfl,fun _ h=>h.elim,fun _ h=>.inl h⟩,
  ⟨hi.inj,fun k b h=>Nat.lt_of_lt_of_le (hi.bnd k b h) g.size,hi.apart,fun b h=>Nat.lt_of_lt_of_le (hi.mbnd b h) g.size⟩⟩
theorem Spec.of_calls {P:Program} {f:FuncId} {A:List SV} {H:Obs} {u:Value}
  (h:∀ (κ:Ka) (w:World) (vs:List Value),Inv κ w→RdL κ w A vs→H.ok κ w→Calls P f vs.toArray w fun e w'=>e=.returned u∧RowKit.Below w.heap.size w w'):Spec P f A H (.val u) H:=by
 intro κ w vs hi _ hr ho
 refine(h κ w vs hi hr ho).mono fun e w' hw=>?_
 obtain ⟨he,hw⟩:=hw
 have g:Grew w w':=⟨hw.os,hw.tape,hw.output,hw.size,hw.block⟩
 have st:=Zq hi g
 exact⟨u,κ,he,(Ctx.refl κ w).step st.2 st.1,st.2,by simp[Rd],fun p hp=>ObOK.step st.1 qe p.2 (ho p hp)⟩
theorem Yf {P:Program} {o:Oper} {s:SS} {x y:Operand} {at_:Array TypeId} {k k':IntKind} {m n:Int} (h:o.op=.call ⟨.builtin .min,#[x,y],at_⟩)
  (hx:ev s x=.val (.int k m)) (hy:ev s y=.val (.int k' n)):Good P o s ⟨.val (.int k (if n<m then n else m)),[],[]⟩ :=
 Good.pure fun κ a w _ hr ho=>by
  have h1:=hr x (by simp[h,Op.operands,Call.operands])
  have h2:=hr y (by simp[h,Op.operands,Call.operands])
  rw[hx]at h1
  rw[hy]at h2
  refine⟨.int k (if n<m then n else m),?_,by simp[Rd]⟩
  simp[execOp,h,resolve,invoke,builtin,Builtin.min_,Builtin.min2,h1.val,h2.val]
def Jk (l:List ByteArray) (sep:ByteArray):ByteArray:=⟨(Lib.join (l.map (·.data.toList)) sep.data.toList).toArray⟩
def Ai2 (l:List ByteArray):Nat:=(l.map (·.size)).sum
theorem Aqk:∀ (l:List (List UInt8)) (sep:List UInt8),(Lib.join l sep).length≤(l.map (·.length)).sum+sep.length * l.length
 | [],_=>by simp[Lib.join_nil]
 | x::r,sep=>by
  rw[Lib.join_length]
  have:Lib.lens (x::r)=((x::r).map (·.length)).sum:=by
   clear sep
   induction (x::r) with
   | nil=>rfl
   | cons a t ih=>simp[Lib.lens,ih]
  rw[this,List.length_cons,Nat.mul_succ]
  omega
end Go.Sy
namespace Go.Proofs
open Go.Shelf
open Go.RowKit in
open Go.RowKit in
open Go.RowKit in
def Tryz.lays219_ren:Go.Shelf.Ren:=⟨fun | 219=>289 | 217=>290 | 225=>351 | 224=>352 | 267=>353 | 266=>354 | 314=>416 | n=>n,fun | 9=>9 | 3=>3 | 4=>4 | 5=>5 | 46=>275 | 146=>403 | 51=>62 | n=>n,fun | 1=>2 | n=>n⟩
theorem Tryz.lays219:Go.Proofs.Lays.n219 Tryz.prog Tryz.lays219_ren:={
 mixed:=by kernel_rfl
 f217:=Tryz.func290.trans (congrArg some Go.Sy.j_)
 f219:=Tryz.func289.trans (congrArg some Go.Sy.j_)
 f224:=Tryz.func352.trans (congrArg some Go.Sy.j_)
 f225:=Tryz.func351.trans (congrArg some Go.Sy.j_)
 f266:=Tryz.func354.trans (congrArg some Go.Sy.j_)
 f267:=Tryz.func353.trans (congrArg some Go.Sy.j_)
 f314:=Tryz.func416.trans (congrArg some Go.Sy.j_)
 t3:=Tryz.underlying3
 a3:=Tryz.isAgg3
 z3:=Tryz.sizeOf3
 v3:=Tryz.zeroValue3
 t4:=Tryz.underlying4
 a4:=Tryz.isAgg4
 z4:=Tryz.sizeOf4
 v4:=Tryz.zeroValue4
 t5:=Tryz.underlying5
 a5:=Tryz.isAgg5
 z5:=Tryz.sizeOf5
 v5:=Tryz.zeroValue5
 t9:=Tryz.underlying9
 a9:=Tryz.isAgg9
 z9:=Tryz.sizeOf9
 v9:=Tryz.zeroValue9
 t46:=Tryz.underlying275
 a46:=Tryz.isAgg275
 z46:=Tryz.sizeOf275
 v46:=Tryz.zeroValue275
 t51:=Tryz.underlying62
 a51:=Tryz.isAgg62
 z51:=Tryz.sizeOf62
 v51:=Tryz.zeroValue62
 t146:=Tryz.underlying403
 a146:=Tryz.isAgg403
 z146:=Tryz.sizeOf403
 v146:=Tryz.zeroValue403
 g1:=by kernel_rfl }
open Go.RowKit Go.Lib in
theorem Tryz.stringslite_Index_one (s:ByteArray) (c:UInt8) (w:World) :
  Calls Tryz.prog 289 #[.string s,.string ⟨#[c]⟩] w fun e w'=>e=.returned (.int .i64 (Lib.indexByte s.data.toList c))∧w'=w:=Any.stringslite_Index_one Tryz.lays219 s c w
def Tryz.lays143_ren:Go.Shelf.Ren:=⟨fun | 143=>261 | 219=>289 | 217=>290 | 225=>351 | 224=>352 | 267=>353 | 266=>354 | 314=>416 | n=>n,fun | 9=>9 | 3=>3 | 4=>4 | 5=>5 | 46=>275 | 146=>403 | 51=>62 | n=>n,fun | 1=>2 | n=>n⟩
theorem Tryz.lays143:Go.Proofs.Lays.n143 Tryz.prog Tryz.lays143_ren:={
 mixed:=by kernel_rfl
 f143:=Tryz.func261.trans (congrArg some Go.Sy.j_)
 f217:=Tryz.func290.trans (congrArg some Go.Sy.j_)
 f219:=Tryz.func289.trans (congrArg some Go.Sy.j_)
 f224:=Tryz.func352.trans (congrArg some Go.Sy.j_)
 f225:=Tryz.func351.trans (congrArg some Go.Sy.j_)
 f266:=Tryz.func354.trans (congrArg some Go.Sy.j_)
 f267:=Tryz.func353.trans (congrArg some Go.Sy.j_)
 f314:=Tryz.func416.trans (congrArg some Go.Sy.j_)
 t3:=Tryz.underlying3
 a3:=Tryz.isAgg3
 z3:=Tryz.sizeOf3
 v3:=Tryz.zeroValue3
 t4:=Tryz.underlying4
 a4:=Tryz.isAgg4
 z4:=Tryz.sizeOf4
 v4:=Tryz.zeroValue4
 t5:=Tryz.underlying5
 a5:=Tryz.isAgg5
 z5:=Tryz.sizeOf5
 v5:=Tryz.zeroValue5
 t9:=Tryz.underlying9
 a9:=Tryz.isAgg9
 z9:=Tryz.sizeOf9
 v9:=Tryz.zeroValue9
 t46:=Tryz.underlying275
 a46:=Tryz.isAgg275
 z46:=Tryz.sizeOf275
 v46:=Tryz.zeroValue275
 t51:=Tryz.underlying62
 a51:=Tryz.isAgg62
 z51:=Tryz.sizeOf62
 v51:=Tryz.zeroValue62
 t146:=Tryz.underlying403
 a146:=Tryz.isAgg403
 z146:=Tryz.sizeOf403
 v146:=Tryz.zeroValue403
 g1:=by kernel_rfl }
open Go.RowKit Go.Lib in
theorem Tryz.strings_Index_one (s:ByteArray) (c:UInt8) (w:World) :
  Calls Tryz.prog 261 #[.string s,.string ⟨#[c]⟩] w fun e w'=>e=.returned (.int .i64 (Lib.indexByte s.data.toList c))∧w'=w:=Any.strings_Index_one Tryz.lays143 s c w
open Go.RowKit Go.Lib in
def Tryz.lays101_ren:Go.Shelf.Ren:=⟨fun | 101=>209 | 208=>291 | 206=>355 | n=>n,fun | 9=>9 | 4=>4 | 3=>3 | n=>n,fun | n=>n⟩
theorem Tryz.lays101:Go.Proofs.Lays.n101 Tryz.prog Tryz.lays101_ren:={
 mixed:=by kernel_rfl
 f101:=Tryz.func209.trans (congrArg some Go.Sy.j_)
 f206:=Tryz.func355.trans (congrArg some Go.Sy.j_)
 f208:=Tryz.func291.trans (congrArg some Go.Sy.j_)
 t3:=Tryz.underlying3
 a3:=Tryz.isAgg3
 z3:=Tryz.sizeOf3
 v3:=Tryz.zeroValue3
 t4:=Tryz.underlying4
 a4:=Tryz.isAgg4
 z4:=Tryz.sizeOf4
 v4:=Tryz.zeroValue4
 t9:=Tryz.underlying9
 a9:=Tryz.isAgg9
 z9:=Tryz.sizeOf9
 v9:=Tryz.zeroValue9 }
open Go.RowKit Go.Lib in
theorem Tryz.strings_TrimPrefix (s p:ByteArray) (w:World) :
  Calls Tryz.prog 209 #[.string s,.string p] w fun e w'=>e=.returned (.string ⟨(Lib.trimPrefix s.data.toList p.data.toList).toArray⟩)∧w'=w:=Any.strings_TrimPrefix Tryz.lays101 s p w
end Go.Proofs
namespace Go.Sy.YtjenpnjajjplkaaGreatDoor
open Go.Proofs
def I6 (c:UInt8) (l:List UInt8):Nat:=(Lib.indexByte l c).toNat
def Cu (c:UInt8) (l:List UInt8):Nat→List UInt8
 | 0=>l
 | j+1=>(Cu c l j).drop (I6 c (Cu c l j)+1)
def Oa (c:UInt8) (l:List UInt8) (j:Nat):List UInt8:=(Cu c l j).take (I6 c (Cu c l j))
def mkT (l:List UInt8):ByteArray:=⟨l.toArray⟩
def Bd (c:UInt8) (s:ByteArray):List ByteArray :=
 (List.range (s.data.toList.count c)).map (fun j=>mkT (Oa c s.data.toList j))++[mkT (Cu c s.data.toList (s.data.toList.count c))]
theorem H5:∀ {l:List UInt8} {c:UInt8},c∈l→0≤Lib.indexByte l c∧(Lib.indexByte l c).toNat<l.length
 | b::l,c,h=>by
  unfold Lib.indexByte
  by_cases hb:b == c
  ·rw[if_pos hb];simp
  ·rw[if_neg hb]
   have hm':c∈l:=by
    rcases List.mem_cons.1 h with h | h
    ·exact absurd (by simp[h]) hb
    ·exact h
   have:=H5 hm'
   rw[if_neg (by simp;omega)]
   simp only[List.length_cons]
   omega
theorem Mb:∀ {l:List UInt8} {c:UInt8},c∈l→(l.drop (I6 c l+1)).count c+1=l.count c
 | b::l,c,h=>by
  unfold I6 Lib.indexByte
  by_cases hb:b == c
  ·rw[if_pos hb,List.count_cons,if_pos hb];simp
  ·rw[if_neg hb]
   have hm':c∈l:=by
    rcases List.mem_cons.1 h with h | h
    ·exact absurd (by simp[h]) hb
    ·exact h
   have h1:=H5 hm'
   rw[if_neg (by simp;omega),List.count_cons,if_neg hb,Nat.add_zero,← Mb hm']
   have e:(Lib.indexByte l c+1).toNat=I6 c l+1:=by unfold I6;omega
   rw[e,List.drop_succ_cons]
theorem Sw (c:UInt8) (l:List UInt8):∀ j,j≤l.count c→(Cu c l j).count c+j=l.count c
 | 0,_=>rfl
 | j+1,h=>by
  have ih:=Sw c l j z_
  have hm':c∈Cu c l j:=List.count_pos_iff.1 z_
  have:=Mb hm'
  rw[Cu]
  omega
theorem Agt {c:UInt8} {l:List UInt8} {j:Nat} (h:j<l.count c):c∈Cu c l j :=
 List.count_pos_iff.1 (by have:=Sw c l j z_;omega)
def Aim (c:UInt8) (s:ByteArray):Nat:=s.data.toList.count c
theorem D9 (c:UInt8) (s:ByteArray):(Bd c s).length=Aim c s+1:=by simp only[Bd,List.length_append,List.length_map,List.length_range,List.length_singleton];rfl
theorem Ac3 (c:UInt8) (l:List UInt8):∀ j,(Cu c l j).length≤l.length
 | 0=>Nat.le_refl _
 | j+1=>by rw[Cu,List.length_drop];have:=Ac3 c l j;omega
theorem It {a b:ByteArray} (h:a.data.toList=b.data.toList):a=b:=by
 cases a;cases b;simp only[ByteArray.mk.injEq];exact Array.toList_inj.1 h
theorem Bp (l:List UInt8):(mkT l).size=l.length:=by simp[mkT,ByteArray.size]
theorem Bv (l:List UInt8):(mkT l).data.toList=l:=by simp[mkT]
theorem Cr (l:List UInt8) (i j:Nat):(mkT l).extract i j=mkT ((l.take j).drop i):=by
 apply It
 simp[mkT,ByteArray.data_extract,List.extract_eq_take_drop,List.drop_take]
theorem Cv (s:ByteArray):mkT s.data.toList=s:=It (by simp[mkT])
theorem Ani {c:UInt8} {s:ByteArray} {j m:Nat} (h:Lib.indexByte (Cu c s.data.toList j) c=m):Oa c s.data.toList j=(Cu c s.data.toList j).take m:=by
 rw[Oa,I6,h,Int.toNat_natCast]
theorem Apr {c:UInt8} {s:ByteArray} {j m:Nat} (h:Lib.indexByte (Cu c s.data.toList j) c=m):Cu c s.data.toList (j+1)=(Cu c s.data.toList j).drop (m+1):=by
 rw[Cu,I6,h,Int.toNat_natCast]
end Go.Sy.YtjenpnjajjplkaaGreatDoor
namespace Go.Sy.YtjenpnjajjplkaaGreatDoor
open Go.Proofs
attribute [local irreducible] Go.Sy.G Go.Sy.DR
set_option maxRecDepth 20000
set_option maxHeartbeats 4000000
def Dd (c:UInt8):Bool:=decide (48≤c.toNat) && decide (c.toNat≤57)
def Hb (s:ByteArray):Nat→Int
 | 0=>0
 | j+1=>10 * Hb s j+((Ai s j).toNat-48)
def Mp (s:ByteArray):Bool:=(List.range s.size).all fun i=>Dd (Ai s i)
def smallT (s:ByteArray) (most:Int):Int × Bool :=
 if s.size=0∨3<s.size∨(1<s.size∧(Ai s 0).toNat=48)∨Mp s=false then (0,false) else (Hb s s.size,decide (Hb s s.size≤most))
theorem Lh {s:ByteArray} {i:Nat} (hi:i<s.size) (h:Dd (Ai s i)=false):Mp s=false:=by
 rw[Mp,List.all_eq_false]
 exact⟨i,by simpa using hi,by simp[h]⟩
theorem Qf {s:ByteArray} (h:∀ i,i<s.size→Dd (Ai s i)=true):Mp s=true:=by
 rw[Mp,List.all_eq_true]
 intro i hi
 exact h i (by simpa using hi)
theorem digB_iff {c:UInt8}:Dd c=true↔48≤c.toNat∧c.toNat≤57:=by simp[Dd]
theorem S2 {s:ByteArray}:∀ {j:Nat},(∀ i,i<j→Dd (Ai s i)=true)→0≤Hb s j∧Hb s j<10 ^ j
 | 0,_=>by simp[Hb]
 | j+1,h=>by
  have ih:=S2 (s:=s) (j:=j) (fun i hi=>h i z_)
  have hd:=digB_iff.1 (h j z_)
  rw[Hb]
  have e:(10:Int) ^ (j+1)=10 * 10 ^ j:=by rw[Int.pow_succ];omega
  rw[e]
  omega
theorem Amf {n:Nat} (h:48≤n) (h2:n<256):IntKind.u8.wrap ((n:Int)-48)=(n:Int)-48:=by
 rw[IntKind.wrap_u8]
 omega
theorem Aod {n:Int} (h:0≤n) (h2:n<256):IntKind.i64.wrap n=n:=by
 rw[IntKind.wrap_i64]
 omega
theorem Yt (s:ByteArray) (most:Int):Sy.Spec Tryz.prog 304 [Ad s,Aa most] [] (.tup [Aa (smallT s most).1,Ab (smallT s most).2]) []:=cT F304 Tryz.ntmps304 fun F hF=>by
 have hlk:=smallT.eq_1 s most
 generalize smallT s most=res at *
 ((conv=>whnf);repeat((first|refine aF ?_|refine aT ?_);(first|refine rG Γ hm ?_|refine rD Γ hm j_ ?_);conv=>whnf))
 refine⟨fun h=>?_,fun h=>?_⟩
 ·have h1:s.size=0:=by simpa using h
  rw[if_pos (.inl h1)]at hlk
  subst hlk
  ((first|refine rG Γ hm ?_|refine rD Γ hm j_ ?_);(conv=>whnf);repeat((first|refine aF ?_|refine aT ?_);(first|refine rG Γ hm ?_|refine rD Γ hm j_ ?_);conv=>whnf))
  exact dN
 have h1:¬ s.size=0:=by simpa using h
 ((first|refine rG Γ hm ?_|refine rD Γ hm j_ ?_);(conv=>whnf);repeat((first|refine aF ?_|refine aT ?_);(first|refine rG Γ hm ?_|refine rD Γ hm j_ ?_);conv=>whnf))
 refine⟨fun h=>?_,fun h=>?_⟩
 ·have h2:3<s.size:=qA h
  rw[if_pos (.inr (.inl h2))]at hlk
  subst hlk
  ((first|refine rG Γ hm ?_|refine rD Γ hm j_ ?_);(conv=>whnf);repeat((first|refine aF ?_|refine aT ?_);(first|refine rG Γ hm ?_|refine rD Γ hm j_ ?_);conv=>whnf))
  exact dN
 have h2:¬ 3<s.size:=qB h
 ((first|refine rG Γ hm ?_|refine rD Γ hm j_ ?_);(conv=>whnf);repeat((first|refine aF ?_|refine aT ?_);(first|refine rG Γ hm ?_|refine rD Γ hm j_ ?_);conv=>whnf))
 refine⟨fun h=>?_,fun h=>?_⟩
 ·have h3:1<s.size:=qA h
  ((first|refine rG Γ hm ?_|refine rD Γ hm j_ ?_);(conv=>whnf);repeat((first|refine aF ?_|refine aT ?_);(first|refine rG Γ hm ?_|refine rD Γ hm j_ ?_);conv=>whnf))
  refine⟨by decide,by simp;omega,?_⟩
  ((conv=>whnf);repeat((first|refine aF ?_|refine aT ?_);(first|refine rG Γ hm ?_|refine rD Γ hm j_ ?_);conv=>whnf))
  refine⟨fun h=>?_,fun h=>?_⟩
  ·have h4:(Ai s 0).toNat=48:=by have:=h;simp at this;omega
   rw[if_pos (.inr (.inr (.inl ⟨h3,h4⟩)))]at hlk
   subst hlk
   ((first|refine rG Γ hm ?_|refine rD Γ hm j_ ?_);(conv=>whnf);repeat((first|refine aF ?_|refine aT ?_);(first|refine rG Γ hm ?_|refine rD Γ hm j_ ?_);conv=>whnf))
   exact dN
  have h34:¬ (1<s.size∧(Ai s 0).toNat=48):=by
   intro e
   have:=h
   simp at this
   omega
  ((first|refine rG Γ hm ?_|refine rD Γ hm j_ ?_);(conv=>whnf);repeat((first|refine aF ?_|refine aT ?_);(first|refine rG Γ hm ?_|refine rD Γ hm j_ ?_);conv=>whnf))
  refine A2 s.size (fun j=>∀ i,i<j→Dd (Ai s i)=true) (fun j=>[(0,Ad s),(1,Aa most),(6,Aa (Hb s j)),(27,Aa s.size),(28,Aa j)]) (fun _=>[]) [] (fun i hi=>absurd hi z_) ⟨⟨Y,Y,Y,Y,Y,Y,Y,Y,Y,Y,q_⟩,q_,Y,Y⟩ ?_
  intro j hj hI
  have hv:=S2 hI
  have hp:(10:Int) ^ j≤1000:=by
   have:j=0∨j=1∨j=2∨j=3:=by omega
   rcases this with rfl | rfl | rfl | rfl<;>decide
  have hsu:Hb s (j+1)=10 * Hb s j+((Ai s j).toNat-48):=rfl
  have hjn:((j:Nat):Int).toNat=j:=Int.toNat_natCast j
  have hb:=(Ai s j).toNat_lt
  generalize hvj:Hb s j=v at *
  ((first|refine rG Γ hm ?_|refine rD Γ hm j_ ?_);(conv=>whnf);repeat((first|refine aF ?_|refine aT ?_);(first|refine rG Γ hm ?_|refine rD Γ hm j_ ?_);conv=>whnf))
  refine⟨fun h=>?_,fun h=>?_⟩
  ·have hlt:j<s.size:=by simpa using h
   ((first|refine rG Γ hm ?_|refine rD Γ hm j_ ?_);(conv=>whnf);repeat((first|refine aF ?_|refine aT ?_);(first|refine rG Γ hm ?_|refine rD Γ hm j_ ?_);conv=>whnf))
   refine⟨by omega,by simpa using hlt,?_⟩
   rw[hjn]
   ((conv=>whnf);repeat((first|refine aF ?_|refine aT ?_);(first|refine rG Γ hm ?_|refine rD Γ hm j_ ?_);conv=>whnf))
   refine⟨fun h=>?_,fun h=>?_⟩
   ·have h5:¬ 48≤(Ai s j).toNat:=qA h
    rw[if_pos (.inr (.inr (.inr (Lh hlt (by simp only[Dd,Bool.and_eq_false_iff,decide_eq_false_iff_not];exact .inl h5)))))]at hlk
    subst hlk
    ((first|refine rG Γ hm ?_|refine rD Γ hm j_ ?_);(conv=>whnf);repeat((first|refine aF ?_|refine aT ?_);(first|refine rG Γ hm ?_|refine rD Γ hm j_ ?_);conv=>whnf))
    exact dN
   have h5:48≤(Ai s j).toNat:=qB h
   ((first|refine rG Γ hm ?_|refine rD Γ hm j_ ?_);(conv=>whnf);repeat((first|refine aF ?_|refine aT ?_);(first|refine rG Γ hm ?_|refine rD Γ hm j_ ?_);conv=>whnf))
   refine⟨by omega,by simpa using hlt,?_⟩
   rw[hjn]
   ((conv=>whnf);repeat((first|refine aF ?_|refine aT ?_);(first|refine rG Γ hm ?_|refine rD Γ hm j_ ?_);conv=>whnf))
   refine⟨fun h=>?_,fun h=>?_⟩
   ·have h6:¬ (Ai s j).toNat≤57:=qA h
    rw[if_pos (.inr (.inr (.inr (Lh hlt (by simp only[Dd,Bool.and_eq_false_iff,decide_eq_false_iff_not];exact .inr h6)))))]at hlk
    subst hlk
    ((first|refine rG Γ hm ?_|refine rD Γ hm j_ ?_);(conv=>whnf);repeat((first|refine aF ?_|refine aT ?_);(first|refine rG Γ hm ?_|refine rD Γ hm j_ ?_);conv=>whnf))
    exact dN
   have h6:(Ai s j).toNat≤57:=qB h
   ((first|refine rG Γ hm ?_|refine rD Γ hm j_ ?_);(conv=>whnf);repeat((first|refine aF ?_|refine aT ?_);(first|refine rG Γ hm ?_|refine rD Γ hm j_ ?_);conv=>whnf))
   refine iL ?_
   ((conv=>whnf);repeat((first|refine aF ?_|refine aT ?_);(first|refine rG Γ hm ?_|refine rD Γ hm j_ ?_);conv=>whnf))
   refine⟨by omega,by simpa using hlt,?_⟩
   rw[hjn]
   ((conv=>whnf);repeat((first|refine aF ?_|refine aT ?_);(first|refine rG Γ hm ?_|refine rD Γ hm j_ ?_);conv=>whnf))
   rw[Amf h5 hb,Aod z_ z_]
   refine iL ?_
   ((conv=>whnf);repeat((first|refine aF ?_|refine aT ?_);(first|refine rG Γ hm ?_|refine rD Γ hm j_ ?_);conv=>whnf))
   refine iL ?_
   ((conv=>whnf);repeat((first|refine aF ?_|refine aT ?_);(first|refine rG Γ hm ?_|refine rD Γ hm j_ ?_);conv=>whnf))
   refine Ba [] hI z_ (fun i hi=>?_) ⟨⟨Y,Y,Y,Y,congrArg Aa hsu,Y,Y,Y,Y,Y,q_⟩,q_,Y,Y⟩
   by_cases hij:i=j
   ·subst hij;exact digB_iff.2 ⟨h5,h6⟩
   ·exact hI i z_
  ·have:j=s.size:=qB h
   subst this
   rw[if_neg (by rw[Qf hI];simp only[h1,h2,false_or,Bool.true_eq_false,or_false];exact h34),hvj]at hlk
   subst hlk
   ((first|refine rG Γ hm ?_|refine rD Γ hm j_ ?_);(conv=>whnf);repeat((first|refine aF ?_|refine aT ?_);(first|refine rG Γ hm ?_|refine rD Γ hm j_ ?_);conv=>whnf))
   exact dN
 ·have h34:¬ (1<s.size∧(Ai s 0).toNat=48):=qB h
  ((first|refine rG Γ hm ?_|refine rD Γ hm j_ ?_);(conv=>whnf);repeat((first|refine aF ?_|refine aT ?_);(first|refine rG Γ hm ?_|refine rD Γ hm j_ ?_);conv=>whnf))
  refine A2 s.size (fun j=>∀ i,i<j→Dd (Ai s i)=true) (fun j=>[(0,Ad s),(1,Aa most),(6,Aa (Hb s j)),(27,Aa s.size),(28,Aa j)]) (fun _=>[]) [] (fun i hi=>absurd hi z_) ⟨⟨Y,Y,Y,Y,Y,Y,Y,Y,Y,Y,q_⟩,q_,Y,Y⟩ ?_
  intro j hj hI
  have hv:=S2 hI
  have hp:(10:Int) ^ j≤1000:=by
   have:j=0∨j=1∨j=2∨j=3:=by omega
   rcases this with rfl | rfl | rfl | rfl<;>decide
  have hsu:Hb s (j+1)=10 * Hb s j+((Ai s j).toNat-48):=rfl
  have hjn:((j:Nat):Int).toNat=j:=Int.toNat_natCast j
  have hb:=(Ai s j).toNat_lt
  generalize hvj:Hb s j=v at *
  ((first|refine rG Γ hm ?_|refine rD Γ hm j_ ?_);(conv=>whnf);repeat((first|refine aF ?_|refine aT ?_);(first|refine rG Γ hm ?_|refine rD Γ hm j_ ?_);conv=>whnf))
  refine⟨fun h=>?_,fun h=>?_⟩
  ·have hlt:j<s.size:=by simpa using h
   ((first|refine rG Γ hm ?_|refine rD Γ hm j_ ?_);(conv=>whnf);repeat((first|refine aF ?_|refine aT ?_);(first|refine rG Γ hm ?_|refine rD Γ hm j_ ?_);conv=>whnf))
   refine⟨by omega,by simpa using hlt,?_⟩
   rw[hjn]
   ((conv=>whnf);repeat((first|refine aF ?_|refine aT ?_);(first|refine rG Γ hm ?_|refine rD Γ hm j_ ?_);conv=>whnf))
   refine⟨fun h=>?_,fun h=>?_⟩
   ·have h5:¬ 48≤(Ai s j).toNat:=qA h
    rw[if_pos (.inr (.inr (.inr (Lh hlt (by simp only[Dd,Bool.and_eq_false_iff,decide_eq_false_iff_not];exact .inl h5)))))]at hlk
    subst hlk
    ((first|refine rG Γ hm ?_|refine rD Γ hm j_ ?_);(conv=>whnf);repeat((first|refine aF ?_|refine aT ?_);(first|refine rG Γ hm ?_|refine rD Γ hm j_ ?_);conv=>whnf))
    exact dN
   have h5:48≤(Ai s j).toNat:=qB h
   ((first|refine rG Γ hm ?_|refine rD Γ hm j_ ?_);(conv=>whnf);repeat((first|refine aF ?_|refine aT ?_);(first|refine rG Γ hm ?_|refine rD Γ hm j_ ?_);conv=>whnf))
   refine⟨by omega,by simpa using hlt,?_⟩
   rw[hjn]
   ((conv=>whnf);repeat((first|refine aF ?_|refine aT ?_);(first|refine rG Γ hm ?_|refine rD Γ hm j_ ?_);conv=>whnf))
   refine⟨fun h=>?_,fun h=>?_⟩
   ·have h6:¬ (Ai s j).toNat≤57:=qA h
    rw[if_pos (.inr (.inr (.inr (Lh hlt (by simp only[Dd,Bool.and_eq_false_iff,decide_eq_false_iff_not];exact .inr h6)))))]at hlk
    subst hlk
    ((first|refine rG Γ hm ?_|refine rD Γ hm j_ ?_);(conv=>whnf);repeat((first|refine aF ?_|refine aT ?_);(first|refine rG Γ hm ?_|refine rD Γ hm j_ ?_);conv=>whnf))
    exact dN
   have h6:(Ai s j).toNat≤57:=qB h
   ((first|refine rG Γ hm ?_|refine rD Γ hm j_ ?_);(conv=>whnf);repeat((first|refine aF ?_|refine aT ?_);(first|refine rG Γ hm ?_|refine rD Γ hm j_ ?_);conv=>whnf))
   refine iL ?_
   ((conv=>whnf);repeat((first|refine aF ?_|refine aT ?_);(first|refine rG Γ hm ?_|refine rD Γ hm j_ ?_);conv=>whnf))
   refine⟨by omega,by simpa using hlt,?_⟩
   rw[hjn]
   ((conv=>whnf);repeat((first|refine aF ?_|refine aT ?_);(first|refine rG Γ hm ?_|refine rD Γ hm j_ ?_);conv=>whnf))
   rw[Amf h5 hb,Aod z_ z_]
   refine iL ?_
   ((conv=>whnf);repeat((first|refine aF ?_|refine aT ?_);(first|refine rG Γ hm ?_|refine rD Γ hm j_ ?_);conv=>whnf))
   refine iL ?_
   ((conv=>whnf);repeat((first|refine aF ?_|refine aT ?_);(first|refine rG Γ hm ?_|refine rD Γ hm j_ ?_);conv=>whnf))
   refine Ba [] hI z_ (fun i hi=>?_) ⟨⟨Y,Y,Y,Y,congrArg Aa hsu,Y,Y,Y,Y,Y,q_⟩,q_,Y,Y⟩
   by_cases hij:i=j
   ·subst hij;exact digB_iff.2 ⟨h5,h6⟩
   ·exact hI i z_
  ·have:j=s.size:=qB h
   subst this
   rw[if_neg (by rw[Qf hI];simp only[h1,h2,false_or,Bool.true_eq_false,or_false];exact h34),hvj]at hlk
   subst hlk
   ((first|refine rG Γ hm ?_|refine rD Γ hm j_ ?_);(conv=>whnf);repeat((first|refine aF ?_|refine aT ?_);(first|refine rG Γ hm ?_|refine rD Γ hm j_ ?_);conv=>whnf))
   exact dN
end Go.Sy.YtjenpnjajjplkaaGreatDoor
