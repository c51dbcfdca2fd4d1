/-
  Ty N1 N2 N3 N4 N5 N6 N7 N8 N9 N10 N11 V1 I5 Sy25 Sy26 Sy27 Sy28 Sh E1 E2 A2 E3 E4 Sy29 B0 D1 E36 E37 E5 E6: parts of a proof, joined by program.
-/
import Derived.Test.YtjenpnjajjplkaaGreatDoorXK2
import Derived.Test.YtjenpnjajjplkaaGreatDoorProg
import Derived.Test.YtjenpnjajjplkaaGreatDoorXK1
import Derived.ChangeKeysEq
import Derived.Below
import Derived.Lib.Join
import Derived.Shelf.Strings.OnBuilder
import Derived.Shelf.Small.Strs
import Derived.Shelf.Strings.Search1
import Derived.Shelf.Strings.Search2
import Derived.Shelf.Strings.Search3
import Derived.Shelf.Strings.Cut
import Derived.Shelf.Strings.Count
import Derived.Shelf.Strings.Prefix
set_option linter.all false
set_option linter.unusedVariables false
set_option linter.unusedSimpArgs false
set_option linter.deprecated false
namespace Go.Sy.YtjenpnjajjplkaaGreatDoor
open Go.Proofs
set_option maxRecDepth 100000
theorem ty1:Bh Tryz.prog 1=some ⟨.func,1,[.nilFunc]⟩:=by kernel_rfl
theorem ty3:Bh Tryz.prog 3=some ⟨.int .i64,1,[.int .i64 0]⟩:=by kernel_rfl
theorem ty4:Bh Tryz.prog 4=some ⟨.bool,1,[.bool false]⟩:=by kernel_rfl
theorem ty5:Bh Tryz.prog 5=some ⟨.int .u8,1,[.int .u8 0]⟩:=by kernel_rfl
theorem ty9:Bh Tryz.prog 9=some ⟨.string,1,[.string .empty]⟩:=by kernel_rfl
theorem ty22:Bh Tryz.prog 22=some ⟨.slice 66 17 240 [.int .i64 0,.int .i64 0,.string .empty,.string .empty,.string .empty,.string .empty,.string .empty,.int .u64 0,.int .u32 0,.int .i64 0,.int .i64 0,.int .i64 0,.int .i64 0,.slice none 0 0,.slice none 0 0,.slice none 0 0,.slice none 0 0],1,[.slice none 0 0]⟩:=by kernel_rfl
theorem ty24:Bh Tryz.prog 24=some ⟨.slice 5 1 1 [.int .u8 0],1,[.slice none 0 0]⟩:=by kernel_rfl
theorem ty31:Bh Tryz.prog 31=some ⟨.slice 80 5 48 [.int .i64 0,.int .i64 0,.string .empty,.int .u64 0,.int .u32 0],1,[.slice none 0 0]⟩:=by kernel_rfl
theorem ty32:Bh Tryz.prog 32=some ⟨.slice 82 7 80 [.int .i64 0,.int .i64 0,.int .i64 0,.int .i64 0,.int .i64 0,.string .empty,.slice none 0 0],1,[.slice none 0 0]⟩:=by kernel_rfl
theorem ty33:Bh Tryz.prog 33=some ⟨.slice 124 3 24 [.int .i64 0,.int .i64 0,.int .i64 0],1,[.slice none 0 0]⟩:=by kernel_rfl
theorem ty34:Bh Tryz.prog 34=some ⟨.slice 84 6 64 [.int .i64 0,.int .i64 0,.int .i64 0,.int .i64 0,.int .i64 0,.slice none 0 0],1,[.slice none 0 0]⟩:=by kernel_rfl
theorem ty35:Bh Tryz.prog 35=some ⟨.slice 127 4 32 [.int .i64 0,.int .i64 0,.int .i64 0,.int .u64 0],1,[.slice none 0 0]⟩:=by kernel_rfl
theorem ty36:Bh Tryz.prog 36=some ⟨.slice 113 4 48 [.int .i64 0,.int .i64 0,.int .i64 0,.slice none 0 0],1,[.slice none 0 0]⟩:=by kernel_rfl
theorem ty37:Bh Tryz.prog 37=some ⟨.slice 116 5 80 [.int .i64 0,.int .i64 0,.string .empty,.slice none 0 0,.slice none 0 0],1,[.slice none 0 0]⟩:=by kernel_rfl
theorem ty38:Bh Tryz.prog 38=some ⟨.slice 132 5 40 [.int .i64 0,.int .i64 0,.int .i64 0,.int .u32 0,.int .i64 0],1,[.slice none 0 0]⟩:=by kernel_rfl
theorem ty40:Bh Tryz.prog 40=some ⟨.struct [(0,1),(1,1),(2,1),(3,1),(4,1),(5,1),(6,1),(7,1)],8,[.slice none 0 0,.slice none 0 0,.slice none 0 0,.slice none 0 0,.slice none 0 0,.slice none 0 0,.slice none 0 0,.slice none 0 0]⟩:=by kernel_rfl
theorem ty41:Bh Tryz.prog 41=some ⟨.int .i64,1,[.int .i64 0]⟩:=by kernel_rfl
theorem ty49:Bh Tryz.prog 49=some ⟨.func,1,[.nilFunc]⟩:=by kernel_rfl
theorem ty57:Bh Tryz.prog 57=some ⟨.func,1,[.nilFunc]⟩:=by kernel_rfl
theorem ty61:Bh Tryz.prog 61=some ⟨.int .u64,1,[.int .u64 0]⟩:=by kernel_rfl
theorem ty62:Bh Tryz.prog 62=some ⟨.int .u32,1,[.int .u32 0]⟩:=by kernel_rfl
theorem ty63:Bh Tryz.prog 63=some ⟨.slice 3 1 8 [.int .i64 0],1,[.slice none 0 0]⟩:=by kernel_rfl
theorem ty64:Bh Tryz.prog 64=some ⟨.slice 62 1 4 [.int .u32 0],1,[.slice none 0 0]⟩:=by kernel_rfl
theorem ty66:Bh Tryz.prog 66=some ⟨.struct [(0,1),(1,1),(2,1),(3,1),(4,1),(5,1),(6,1),(7,1),(8,1),(9,1),(10,1),(11,1),(12,1),(13,1),(14,1),(15,1),(16,1)],17,[.int .i64 0,.int .i64 0,.string .empty,.string .empty,.string .empty,.string .empty,.string .empty,.int .u64 0,.int .u32 0,.int .i64 0,.int .i64 0,.int .i64 0,.int .i64 0,.slice none 0 0,.slice none 0 0,.slice none 0 0,.slice none 0 0]⟩:=by kernel_rfl
theorem ty68:Bh Tryz.prog 68=some ⟨.slice 9 1 16 [.string .empty],1,[.slice none 0 0]⟩:=by kernel_rfl
theorem ty80:Bh Tryz.prog 80=some ⟨.struct [(0,1),(1,1),(2,1),(3,1),(4,1)],5,[.int .i64 0,.int .i64 0,.string .empty,.int .u64 0,.int .u32 0]⟩:=by kernel_rfl
theorem ty82:Bh Tryz.prog 82=some ⟨.struct [(0,1),(1,1),(2,1),(3,1),(4,1),(5,1),(6,1)],7,[.int .i64 0,.int .i64 0,.int .i64 0,.int .i64 0,.int .i64 0,.string .empty,.slice none 0 0]⟩:=by kernel_rfl
theorem ty84:Bh Tryz.prog 84=some ⟨.struct [(0,1),(1,1),(2,1),(3,1),(4,1),(5,1)],6,[.int .i64 0,.int .i64 0,.int .i64 0,.int .i64 0,.int .i64 0,.slice none 0 0]⟩:=by kernel_rfl
theorem ty85:Bh Tryz.prog 85=some ⟨.ptr,1,[.pointer none]⟩:=by kernel_rfl
theorem ty90:Bh Tryz.prog 90=some ⟨.struct [(0,0),(0,1)],1,[.int .u32 0]⟩:=by kernel_rfl
theorem ty94:Bh Tryz.prog 94=some ⟨.struct [(0,0),(0,2)],2,[.int .i32 0,.int .u32 0]⟩:=by kernel_rfl
theorem ty96:Bh Tryz.prog 96=some ⟨.struct [(0,0),(0,1),(1,2)],3,[.int .u32 0,.int .i32 0,.int .u32 0]⟩:=by kernel_rfl
theorem ty98:Bh Tryz.prog 98=some ⟨.struct [(0,3),(3,1),(4,8),(12,1),(13,1)],14,[.int .u32 0,.int .i32 0,.int .u32 0,.slice none 0 0,.slice none 0 0,.slice none 0 0,.slice none 0 0,.slice none 0 0,.slice none 0 0,.slice none 0 0,.slice none 0 0,.slice none 0 0,.int .i64 0,.int .i64 0]⟩:=by kernel_rfl
theorem ty113:Bh Tryz.prog 113=some ⟨.struct [(0,1),(1,1),(2,1),(3,1)],4,[.int .i64 0,.int .i64 0,.int .i64 0,.slice none 0 0]⟩:=by kernel_rfl
theorem ty116:Bh Tryz.prog 116=some ⟨.struct [(0,1),(1,1),(2,1),(3,1),(4,1)],5,[.int .i64 0,.int .i64 0,.string .empty,.slice none 0 0,.slice none 0 0]⟩:=by kernel_rfl
theorem ty124:Bh Tryz.prog 124=some ⟨.struct [(0,1),(1,1),(2,1)],3,[.int .i64 0,.int .i64 0,.int .i64 0]⟩:=by kernel_rfl
theorem ty127:Bh Tryz.prog 127=some ⟨.struct [(0,1),(1,1),(2,1),(3,1)],4,[.int .i64 0,.int .i64 0,.int .i64 0,.int .u64 0]⟩:=by kernel_rfl
theorem ty130:Bh Tryz.prog 130=some ⟨.struct [(0,1),(1,1)],2,[.int .u32 0,.int .i64 0]⟩:=by kernel_rfl
theorem ty132:Bh Tryz.prog 132=some ⟨.struct [(0,1),(1,1),(2,1),(3,2)],5,[.int .i64 0,.int .i64 0,.int .i64 0,.int .u32 0,.int .i64 0]⟩:=by kernel_rfl
theorem ty145:Bh Tryz.prog 145=some ⟨.slice 3 1 8 [.int .i64 0],1,[.slice none 0 0]⟩:=by kernel_rfl
theorem ty149:Bh Tryz.prog 149=some ⟨.func,1,[.nilFunc]⟩:=by kernel_rfl
theorem ty151:Bh Tryz.prog 151=some ⟨.struct [(0,8)],8,[.slice none 0 0,.slice none 0 0,.slice none 0 0,.slice none 0 0,.slice none 0 0,.slice none 0 0,.slice none 0 0,.slice none 0 0]⟩:=by kernel_rfl
theorem ty153:Bh Tryz.prog 153=some ⟨.func,1,[.nilFunc]⟩:=by kernel_rfl
theorem ty155:Bh Tryz.prog 155=some ⟨.func,1,[.nilFunc]⟩:=by kernel_rfl
theorem ty157:Bh Tryz.prog 157=some ⟨.func,1,[.nilFunc]⟩:=by kernel_rfl
theorem ty159:Bh Tryz.prog 159=some ⟨.func,1,[.nilFunc]⟩:=by kernel_rfl
theorem ty162:Bh Tryz.prog 162=some ⟨.func,1,[.nilFunc]⟩:=by kernel_rfl
theorem ty165:Bh Tryz.prog 165=some ⟨.func,1,[.nilFunc]⟩:=by kernel_rfl
theorem ty167:Bh Tryz.prog 167=some ⟨.func,1,[.nilFunc]⟩:=by kernel_rfl
theorem ty209:Bh Tryz.prog 209=some ⟨.func,1,[.nilFunc]⟩:=by kernel_rfl
theorem ty239:Bh Tryz.prog 239=some ⟨.func,1,[.nilFunc]⟩:=by kernel_rfl
theorem ty241:Bh Tryz.prog 241=some ⟨.func,1,[.nilFunc]⟩:=by kernel_rfl
theorem ty243:Bh Tryz.prog 243=some ⟨.func,1,[.nilFunc]⟩:=by kernel_rfl
theorem ty272:Bh Tryz.prog 272=some ⟨.ptr,1,[.pointer none]⟩:=by kernel_rfl
theorem ty275:Bh Tryz.prog 275=some ⟨.int .u64,1,[.int .u64 0]⟩:=by kernel_rfl
theorem ty289:Bh Tryz.prog 289=some ⟨.ptr,1,[.pointer none]⟩:=by kernel_rfl
theorem ty291:Bh Tryz.prog 291=some ⟨.struct [(0,1),(1,1),(2,1)],3,[.slice none 0 0,.int .i64 0,.int .i64 0]⟩:=by kernel_rfl
theorem ty297:Bh Tryz.prog 297=some ⟨.ptr,1,[.pointer none]⟩:=by kernel_rfl
theorem ty299:Bh Tryz.prog 299=some ⟨.func,1,[.nilFunc]⟩:=by kernel_rfl
theorem ty323:Bh Tryz.prog 323=some ⟨.func,1,[.nilFunc]⟩:=by kernel_rfl
theorem ty333:Bh Tryz.prog 333=some ⟨.ptr,1,[.pointer none]⟩:=by kernel_rfl
theorem ty335:Bh Tryz.prog 335=some ⟨.ptr,1,[.pointer none]⟩:=by kernel_rfl
theorem ty362:Bh Tryz.prog 362=some ⟨.ptr,1,[.pointer none]⟩:=by kernel_rfl
theorem ty366:Bh Tryz.prog 366=some ⟨.struct [(0,8)],8,[.slice none 0 0,.slice none 0 0,.slice none 0 0,.slice none 0 0,.slice none 0 0,.slice none 0 0,.slice none 0 0,.slice none 0 0]⟩:=by kernel_rfl
theorem ty369:Bh Tryz.prog 369=some ⟨.array 3 2 1,2,[.int .i64 0,.int .i64 0]⟩:=by kernel_rfl
theorem ty378:Bh Tryz.prog 378=some ⟨.func,1,[.nilFunc]⟩:=by kernel_rfl
theorem ty400:Bh Tryz.prog 400=some ⟨.func,1,[.nilFunc]⟩:=by kernel_rfl
theorem ty402:Bh Tryz.prog 402=some ⟨.func,1,[.nilFunc]⟩:=by kernel_rfl
theorem tq80:Sh Tryz.prog 80=some [.int .i64,.int .i64,.string,.int .u64,.int .u32]:=by kernel_rfl
theorem tq124:Sh Tryz.prog 124=some [.int .i64,.int .i64,.int .i64]:=by kernel_rfl
theorem tq127:Sh Tryz.prog 127=some [.int .i64,.int .i64,.int .i64,.int .u64]:=by kernel_rfl
theorem tq130:Sh Tryz.prog 130=some [.int .u32,.int .i64]:=by kernel_rfl
def tab:Tr TI:=(.nd 116 (⟨.struct [(0,1),(1,1),(2,1),(3,1),(4,1)],5,[.int .i64 0,.int .i64 0,.string .empty,.slice none 0 0,.slice none 0 0]⟩) (.nd 49 (⟨.func,1,[.nilFunc]⟩) (.nd 32 (⟨.slice 82 7 80 [.int .i64 0,.int .i64 0,.int .i64 0,.int .i64 0,.int .i64 0,.string .empty,.slice none 0 0],1,[.slice none 0 0]⟩) (.nd 9 (⟨.string,1,[.string .empty]⟩) (.nd 4 (⟨.bool,1,[.bool false]⟩) (.nd 3 (⟨.int .i64,1,[.int .i64 0]⟩) (.nd 1 (⟨.func,1,[.nilFunc]⟩) .lf .lf) .lf) (.nd 5 (⟨.int .u8,1,[.int .u8 0]⟩) .lf .lf)) (.nd 24 (⟨.slice 5 1 1 [.int .u8 0],1,[.slice none 0 0]⟩) (.nd 22 (⟨.slice 66 17 240 [.int .i64 0,.int .i64 0,.string .empty,.string .empty,.string .empty,.string .empty,.string .empty,.int .u64 0,.int .u32 0,.int .i64 0,.int .i64 0,.int .i64 0,.int .i64 0,.slice none 0 0,.slice none 0 0,.slice none 0 0,.slice none 0 0],1,[.slice none 0 0]⟩) .lf .lf) (.nd 31 (⟨.slice 80 5 48 [.int .i64 0,.int .i64 0,.string .empty,.int .u64 0,.int .u32 0],1,[.slice none 0 0]⟩) .lf .lf))) (.nd 37 (⟨.slice 116 5 80 [.int .i64 0,.int .i64 0,.string .empty,.slice none 0 0,.slice none 0 0],1,[.slice none 0 0]⟩) (.nd 35 (⟨.slice 127 4 32 [.int .i64 0,.int .i64 0,.int .i64 0,.int .u64 0],1,[.slice none 0 0]⟩) (.nd 34 (⟨.slice 84 6 64 [.int .i64 0,.int .i64 0,.int .i64 0,.int .i64 0,.int .i64 0,.slice none 0 0],1,[.slice none 0 0]⟩) (.nd 33 (⟨.slice 124 3 24 [.int .i64 0,.int .i64 0,.int .i64 0],1,[.slice none 0 0]⟩) .lf .lf) .lf) (.nd 36 (⟨.slice 113 4 48 [.int .i64 0,.int .i64 0,.int .i64 0,.slice none 0 0],1,[.slice none 0 0]⟩) .lf .lf)) (.nd 40 (⟨.struct [(0,1),(1,1),(2,1),(3,1),(4,1),(5,1),(6,1),(7,1)],8,[.slice none 0 0,.slice none 0 0,.slice none 0 0,.slice none 0 0,.slice none 0 0,.slice none 0 0,.slice none 0 0,.slice none 0 0]⟩) (.nd 38 (⟨.slice 132 5 40 [.int .i64 0,.int .i64 0,.int .i64 0,.int .u32 0,.int .i64 0],1,[.slice none 0 0]⟩) .lf .lf) (.nd 41 (⟨.int .i64,1,[.int .i64 0]⟩) .lf .lf)))) (.nd 82 (⟨.struct [(0,1),(1,1),(2,1),(3,1),(4,1),(5,1),(6,1)],7,[.int .i64 0,.int .i64 0,.int .i64 0,.int .i64 0,.int .i64 0,.string .empty,.slice none 0 0]⟩) (.nd 64 (⟨.slice 62 1 4 [.int .u32 0],1,[.slice none 0 0]⟩) (.nd 62 (⟨.int .u32,1,[.int .u32 0]⟩) (.nd 61 (⟨.int .u64,1,[.int .u64 0]⟩) (.nd 57 (⟨.func,1,[.nilFunc]⟩) .lf .lf) .lf) (.nd 63 (⟨.slice 3 1 8 [.int .i64 0],1,[.slice none 0 0]⟩) .lf .lf)) (.nd 68 (⟨.slice 9 1 16 [.string .empty],1,[.slice none 0 0]⟩) (.nd 66 (⟨.struct [(0,1),(1,1),(2,1),(3,1),(4,1),(5,1),(6,1),(7,1),(8,1),(9,1),(10,1),(11,1),(12,1),(13,1),(14,1),(15,1),(16,1)],17,[.int .i64 0,.int .i64 0,.string .empty,.string .empty,.string .empty,.string .empty,.string .empty,.int .u64 0,.int .u32 0,.int .i64 0,.int .i64 0,.int .i64 0,.int .i64 0,.slice none 0 0,.slice none 0 0,.slice none 0 0,.slice none 0 0]⟩) .lf .lf) (.nd 80 (⟨.struct [(0,1),(1,1),(2,1),(3,1),(4,1)],5,[.int .i64 0,.int .i64 0,.string .empty,.int .u64 0,.int .u32 0]⟩) .lf .lf))) (.nd 94 (⟨.struct [(0,0),(0,2)],2,[.int .i32 0,.int .u32 0]⟩) (.nd 85 (⟨.ptr,1,[.pointer none]⟩) (.nd 84 (⟨.struct [(0,1),(1,1),(2,1),(3,1),(4,1),(5,1)],6,[.int .i64 0,.int .i64 0,.int .i64 0,.int .i64 0,.int .i64 0,.slice none 0 0]⟩) .lf .lf) (.nd 90 (⟨.struct [(0,0),(0,1)],1,[.int .u32 0]⟩) .lf .lf)) (.nd 98 (⟨.struct [(0,3),(3,1),(4,8),(12,1),(13,1)],14,[.int .u32 0,.int .i32 0,.int .u32 0,.slice none 0 0,.slice none 0 0,.slice none 0 0,.slice none 0 0,.slice none 0 0,.slice none 0 0,.slice none 0 0,.slice none 0 0,.slice none 0 0,.int .i64 0,.int .i64 0]⟩) (.nd 96 (⟨.struct [(0,0),(0,1),(1,2)],3,[.int .u32 0,.int .i32 0,.int .u32 0]⟩) .lf .lf) (.nd 113 (⟨.struct [(0,1),(1,1),(2,1),(3,1)],4,[.int .i64 0,.int .i64 0,.int .i64 0,.slice none 0 0]⟩) .lf .lf))))) (.nd 241 (⟨.func,1,[.nilFunc]⟩) (.nd 155 (⟨.func,1,[.nilFunc]⟩) (.nd 145 (⟨.slice 3 1 8 [.int .i64 0],1,[.slice none 0 0]⟩) (.nd 130 (⟨.struct [(0,1),(1,1)],2,[.int .u32 0,.int .i64 0]⟩) (.nd 127 (⟨.struct [(0,1),(1,1),(2,1),(3,1)],4,[.int .i64 0,.int .i64 0,.int .i64 0,.int .u64 0]⟩) (.nd 124 (⟨.struct [(0,1),(1,1),(2,1)],3,[.int .i64 0,.int .i64 0,.int .i64 0]⟩) .lf .lf) .lf) (.nd 132 (⟨.struct [(0,1),(1,1),(2,1),(3,2)],5,[.int .i64 0,.int .i64 0,.int .i64 0,.int .u32 0,.int .i64 0]⟩) .lf .lf)) (.nd 151 (⟨.struct [(0,8)],8,[.slice none 0 0,.slice none 0 0,.slice none 0 0,.slice none 0 0,.slice none 0 0,.slice none 0 0,.slice none 0 0,.slice none 0 0]⟩) (.nd 149 (⟨.func,1,[.nilFunc]⟩) .lf .lf) (.nd 153 (⟨.func,1,[.nilFunc]⟩) .lf .lf))) (.nd 165 (⟨.func,1,[.nilFunc]⟩) (.nd 159 (⟨.func,1,[.nilFunc]⟩) (.nd 157 (⟨.func,1,[.nilFunc]⟩) .lf .lf) (.nd 162 (⟨.func,1,[.nilFunc]⟩) .lf .lf)) (.nd 209 (⟨.func,1,[.nilFunc]⟩) (.nd 167 (⟨.func,1,[.nilFunc]⟩) .lf .lf) (.nd 239 (⟨.func,1,[.nilFunc]⟩) .lf .lf)))) (.nd 333 (⟨.ptr,1,[.pointer none]⟩) (.nd 291 (⟨.struct [(0,1),(1,1),(2,1)],3,[.slice none 0 0,.int .i64 0,.int .i64 0]⟩) (.nd 275 (⟨.int .u64,1,[.int .u64 0]⟩) (.nd 272 (⟨.ptr,1,[.pointer none]⟩) (.nd 243 (⟨.func,1,[.nilFunc]⟩) .lf .lf) .lf) (.nd 289 (⟨.ptr,1,[.pointer none]⟩) .lf .lf)) (.nd 299 (⟨.func,1,[.nilFunc]⟩) (.nd 297 (⟨.ptr,1,[.pointer none]⟩) .lf .lf) (.nd 323 (⟨.func,1,[.nilFunc]⟩) .lf .lf))) (.nd 369 (⟨.array 3 2 1,2,[.int .i64 0,.int .i64 0]⟩) (.nd 362 (⟨.ptr,1,[.pointer none]⟩) (.nd 335 (⟨.ptr,1,[.pointer none]⟩) .lf .lf) (.nd 366 (⟨.struct [(0,8)],8,[.slice none 0 0,.slice none 0 0,.slice none 0 0,.slice none 0 0,.slice none 0 0,.slice none 0 0,.slice none 0 0,.slice none 0 0]⟩) .lf .lf)) (.nd 400 (⟨.func,1,[.nilFunc]⟩) (.nd 378 (⟨.func,1,[.nilFunc]⟩) .lf .lf) (.nd 402 (⟨.func,1,[.nilFunc]⟩) .lf .lf))))))
def etab:Tr (List EK):=(.nd 127 ([.int .i64,.int .i64,.int .i64,.int .u64]) (.nd 124 ([.int .i64,.int .i64,.int .i64]) (.nd 80 ([.int .i64,.int .i64,.string,.int .u64,.int .u32]) .lf .lf) .lf) (.nd 130 ([.int .u32,.int .i64]) .lf .lf))
theorem tab_ok:tab.all (fun t i=>Bh Tryz.prog t=some i):=⟨ty116,⟨ty49,⟨ty32,⟨ty9,⟨ty4,⟨ty3,⟨ty1,trivial,trivial⟩,trivial⟩,⟨ty5,trivial,trivial⟩⟩,⟨ty24,⟨ty22,trivial,trivial⟩,⟨ty31,trivial,trivial⟩⟩⟩,⟨ty37,⟨ty35,⟨ty34,⟨ty33,trivial,trivial⟩,trivial⟩,⟨ty36,trivial,trivial⟩⟩,⟨ty40,⟨ty38,trivial,trivial⟩,⟨ty41,trivial,trivial⟩⟩⟩⟩,⟨ty82,⟨ty64,⟨ty62,⟨ty61,⟨ty57,trivial,trivial⟩,trivial⟩,⟨ty63,trivial,trivial⟩⟩,⟨ty68,⟨ty66,trivial,trivial⟩,⟨ty80,trivial,trivial⟩⟩⟩,⟨ty94,⟨ty85,⟨ty84,trivial,trivial⟩,⟨ty90,trivial,trivial⟩⟩,⟨ty98,⟨ty96,trivial,trivial⟩,⟨ty113,trivial,trivial⟩⟩⟩⟩⟩,⟨ty241,⟨ty155,⟨ty145,⟨ty130,⟨ty127,⟨ty124,trivial,trivial⟩,trivial⟩,⟨ty132,trivial,trivial⟩⟩,⟨ty151,⟨ty149,trivial,trivial⟩,⟨ty153,trivial,trivial⟩⟩⟩,⟨ty165,⟨ty159,⟨ty157,trivial,trivial⟩,⟨ty162,trivial,trivial⟩⟩,⟨ty209,⟨ty167,trivial,trivial⟩,⟨ty239,trivial,trivial⟩⟩⟩⟩,⟨ty333,⟨ty291,⟨ty275,⟨ty272,⟨ty243,trivial,trivial⟩,trivial⟩,⟨ty289,trivial,trivial⟩⟩,⟨ty299,⟨ty297,trivial,trivial⟩,⟨ty323,trivial,trivial⟩⟩⟩,⟨ty369,⟨ty362,⟨ty335,trivial,trivial⟩,⟨ty366,trivial,trivial⟩⟩,⟨ty400,⟨ty378,trivial,trivial⟩,⟨ty402,trivial,trivial⟩⟩⟩⟩⟩⟩
theorem Aeo:etab.all (fun t i=>Sh Tryz.prog t=some i):=⟨tq127,⟨tq124,⟨tq80,trivial,trivial⟩,trivial⟩,⟨tq130,trivial,trivial⟩⟩
def Γ:TyE Tryz.prog:=⟨⟨fun t=>tab.look t,fun _ _ h=>Ad2 (Tr.look_ok tab_ok h)⟩,fun t=>etab.look t,fun _ _ h=>Add (Tr.look_ok Aeo h)⟩
theorem hm:Tryz.prog.follows .mixedOrders=true:=by kernel_rfl
abbrev fT (i:Nat) (fn:Func):Prop:=Fun Tryz.prog i fn (Sm fn)
theorem fN {P : Program} {f : FuncId} {fn : Func} (h : P.funcs[f]? = some fn) (hb : fn.body = some (Sm fn) := by exact rfl) (hn : (fn.name == "runtime.NumGoroutine") = false := by kernel_rfl) : Fun P f fn (Sm fn) := ⟨h, hb, hn⟩
theorem cT {f:FuncId} {fn:Func} {c:Code} {A:List SV} {H:Obs} {R:SV} {H':Obs} (hF:Fun Tryz.prog f fn c) {n:Nat} (hn':fn.ntmps=n)
  (h:∀ (F:Fr) (hF:∀ k,F.k0 k≠.new→k∈H.keys),Hz ⟨Tryz.prog,Γ.toTy,F,n,O3 Tryz.prog fn F R H',H.keys,hF⟩ Γ 100 [.code c] ⟨argσ A,mkh H⟩) (hn:Wk A n=true:=by exact rfl):Sy.Spec Tryz.prog f A H R H':=Sk Γ hm 100 hF hn' hn h
theorem F6:fT 6 Tryz.f6:=fN Tryz.func6
theorem F11:fT 11 Tryz.f11:=fN Tryz.func11
theorem F13:fT 13 Tryz.f13:=fN Tryz.func13
theorem F17:fT 17 Tryz.f17:=fN Tryz.func17
theorem F20:fT 20 Tryz.f20:=fN Tryz.func20
theorem F23:fT 23 Tryz.f23:=fN Tryz.func23
theorem F24:fT 24 Tryz.f24:=fN Tryz.func24
theorem F25:fT 25 Tryz.f25:=fN Tryz.func25
theorem F33:fT 33 Tryz.f33:=fN Tryz.func33
theorem F36:fT 36 Tryz.f36:=fN Tryz.func36
theorem F44:fT 44 Tryz.f44:=fN Tryz.func44
theorem F52:fT 52 Tryz.f52:=fN Tryz.func52
theorem F57:fT 57 Tryz.f57:=fN Tryz.func57
theorem F60:fT 60 Tryz.f60:=fN Tryz.func60
theorem F61:fT 61 Tryz.f61:=fN Tryz.func61
theorem F62:fT 62 Tryz.f62:=fN Tryz.func62
theorem F63:fT 63 Tryz.f63:=fN Tryz.func63
theorem F64:fT 64 Tryz.f64:=fN Tryz.func64
theorem F65:fT 65 Tryz.f65:=fN Tryz.func65
theorem F66:fT 66 Tryz.f66:=fN Tryz.func66
theorem F67:fT 67 Tryz.f67:=fN Tryz.func67
theorem F68:fT 68 Tryz.f68:=fN Tryz.func68
theorem F69:fT 69 Tryz.f69:=fN Tryz.func69
theorem F70:fT 70 Tryz.f70:=fN Tryz.func70
theorem F71:fT 71 Tryz.f71:=fN Tryz.func71
theorem F72:fT 72 Tryz.f72:=fN Tryz.func72
theorem F73:fT 73 Tryz.f73:=fN Tryz.func73
theorem F74:fT 74 Tryz.f74:=fN Tryz.func74
theorem F75:fT 75 Tryz.f75:=fN Tryz.func75
theorem F76:fT 76 Tryz.f76:=fN Tryz.func76
theorem F77:fT 77 Tryz.f77:=fN Tryz.func77
theorem F78:fT 78 Tryz.f78:=fN Tryz.func78
theorem F79:fT 79 Tryz.f79:=fN Tryz.func79
theorem F80:fT 80 Tryz.f80:=fN Tryz.func80
theorem F81:fT 81 Tryz.f81:=fN Tryz.func81
theorem F82:fT 82 Tryz.f82:=fN Tryz.func82
theorem F83:fT 83 Tryz.f83:=fN Tryz.func83
theorem F84:fT 84 Tryz.f84:=fN Tryz.func84
theorem F85:fT 85 Tryz.f85:=fN Tryz.func85
theorem F86:fT 86 Tryz.f86:=fN Tryz.func86
theorem F100:fT 100 Tryz.f100:=fN Tryz.func100
theorem F111:fT 111 Tryz.f111:=fN Tryz.func111
theorem F112:fT 112 Tryz.f112:=fN Tryz.func112
theorem F117:fT 117 Tryz.f117:=fN Tryz.func117
theorem F119:fT 119 Tryz.f119:=fN Tryz.func119
theorem F121:fT 121 Tryz.f121:=fN Tryz.func121
theorem F124:fT 124 Tryz.f124:=fN Tryz.func124
theorem F145:fT 145 Tryz.f145:=fN Tryz.func145
theorem F146:fT 146 Tryz.f146:=fN Tryz.func146
theorem F150:fT 150 Tryz.f150:=fN Tryz.func150
theorem F151:fT 151 Tryz.f151:=fN Tryz.func151
theorem F152:fT 152 Tryz.f152:=fN Tryz.func152
theorem F153:fT 153 Tryz.f153:=fN Tryz.func153
theorem F154:fT 154 Tryz.f154:=fN Tryz.func154
theorem F155:fT 155 Tryz.f155:=fN Tryz.func155
theorem F156:fT 156 Tryz.f156:=fN Tryz.func156
theorem F157:fT 157 Tryz.f157:=fN Tryz.func157
theorem F158:fT 158 Tryz.f158:=fN Tryz.func158
theorem F159:fT 159 Tryz.f159:=fN Tryz.func159
theorem F160:fT 160 Tryz.f160:=fN Tryz.func160
theorem F161:fT 161 Tryz.f161:=fN Tryz.func161
theorem F162:fT 162 Tryz.f162:=fN Tryz.func162
theorem F163:fT 163 Tryz.f163:=fN Tryz.func163
theorem F164:fT 164 Tryz.f164:=fN Tryz.func164
theorem F165:fT 165 Tryz.f165:=fN Tryz.func165
theorem F166:fT 166 Tryz.f166:=fN Tryz.func166
theorem F167:fT 167 Tryz.f167:=fN Tryz.func167
theorem F168:fT 168 Tryz.f168:=fN Tryz.func168
theorem F169:fT 169 Tryz.f169:=fN Tryz.func169
theorem F170:fT 170 Tryz.f170:=fN Tryz.func170
theorem F171:fT 171 Tryz.f171:=fN Tryz.func171
theorem F172:fT 172 Tryz.f172:=fN Tryz.func172
theorem F173:fT 173 Tryz.f173:=fN Tryz.func173
theorem F174:fT 174 Tryz.f174:=fN Tryz.func174
theorem F175:fT 175 Tryz.f175:=fN Tryz.func175
theorem F176:fT 176 Tryz.f176:=fN Tryz.func176
theorem F177:fT 177 Tryz.f177:=fN Tryz.func177
theorem F178:fT 178 Tryz.f178:=fN Tryz.func178
theorem F179:fT 179 Tryz.f179:=fN Tryz.func179
theorem F180:fT 180 Tryz.f180:=fN Tryz.func180
theorem F181:fT 181 Tryz.f181:=fN Tryz.func181
theorem F184:fT 184 Tryz.f184:=fN Tryz.func184
theorem F204:fT 204 Tryz.f204:=fN Tryz.func204
theorem F205:fT 205 Tryz.f205:=fN Tryz.func205
theorem F206:fT 206 Tryz.f206:=fN Tryz.func206
theorem F209:fT 209 Tryz.f209:=fN Tryz.func209
theorem F227:fT 227 Tryz.f227:=fN Tryz.func227
theorem F228:fT 228 Tryz.f228:=fN Tryz.func228
theorem F229:fT 229 Tryz.f229:=fN Tryz.func229
theorem F230:fT 230 Tryz.f230:=fN Tryz.func230
theorem F231:fT 231 Tryz.f231:=fN Tryz.func231
theorem F232:fT 232 Tryz.f232:=fN Tryz.func232
theorem F233:fT 233 Tryz.f233:=fN Tryz.func233
theorem F234:fT 234 Tryz.f234:=fN Tryz.func234
theorem F235:fT 235 Tryz.f235:=fN Tryz.func235
theorem F236:fT 236 Tryz.f236:=fN Tryz.func236
theorem F237:fT 237 Tryz.f237:=fN Tryz.func237
theorem F238:fT 238 Tryz.f238:=fN Tryz.func238
theorem F239:fT 239 Tryz.f239:=fN Tryz.func239
theorem F240:fT 240 Tryz.f240:=fN Tryz.func240
theorem F241:fT 241 Tryz.f241:=fN Tryz.func241
theorem F242:fT 242 Tryz.f242:=fN Tryz.func242
theorem F243:fT 243 Tryz.f243:=fN Tryz.func243
theorem F249:fT 249 Tryz.f249:=fN Tryz.func249
theorem F250:fT 250 Tryz.f250:=fN Tryz.func250
theorem F251:fT 251 Tryz.f251:=fN Tryz.func251
theorem F252:fT 252 Tryz.f252:=fN Tryz.func252
theorem F253:fT 253 Tryz.f253:=fN Tryz.func253
theorem F254:fT 254 Tryz.f254:=fN Tryz.func254
theorem F263:fT 263 Tryz.f263:=fN Tryz.func263
theorem F280:fT 280 Tryz.f280:=fN Tryz.func280
theorem F281:fT 281 Tryz.f281:=fN Tryz.func281
theorem F282:fT 282 Tryz.f282:=fN Tryz.func282
theorem F283:fT 283 Tryz.f283:=fN Tryz.func283
theorem F284:fT 284 Tryz.f284:=fN Tryz.func284
theorem F285:fT 285 Tryz.f285:=fN Tryz.func285
theorem F286:fT 286 Tryz.f286:=fN Tryz.func286
theorem F287:fT 287 Tryz.f287:=fN Tryz.func287
theorem F288:fT 288 Tryz.f288:=fN Tryz.func288
theorem F298:fT 298 Tryz.f298:=fN Tryz.func298
theorem F299:fT 299 Tryz.f299:=fN Tryz.func299
theorem F300:fT 300 Tryz.f300:=fN Tryz.func300
theorem F301:fT 301 Tryz.f301:=fN Tryz.func301
theorem F302:fT 302 Tryz.f302:=fN Tryz.func302
theorem F304:fT 304 Tryz.f304:=fN Tryz.func304
theorem F305:fT 305 Tryz.f305:=fN Tryz.func305
theorem F306:fT 306 Tryz.f306:=fN Tryz.func306
theorem F307:fT 307 Tryz.f307:=fN Tryz.func307
theorem F308:fT 308 Tryz.f308:=fN Tryz.func308
theorem F325:fT 325 Tryz.f325:=fN Tryz.func325
theorem F337:fT 337 Tryz.f337:=fN Tryz.func337
theorem F338:fT 338 Tryz.f338:=fN Tryz.func338
theorem F339:fT 339 Tryz.f339:=fN Tryz.func339
theorem F340:fT 340 Tryz.f340:=fN Tryz.func340
theorem F341:fT 341 Tryz.f341:=fN Tryz.func341
theorem F342:fT 342 Tryz.f342:=fN Tryz.func342
theorem F343:fT 343 Tryz.f343:=fN Tryz.func343
theorem F344:fT 344 Tryz.f344:=fN Tryz.func344
theorem F345:fT 345 Tryz.f345:=fN Tryz.func345
theorem F346:fT 346 Tryz.f346:=fN Tryz.func346
theorem F347:fT 347 Tryz.f347:=fN Tryz.func347
theorem F348:fT 348 Tryz.f348:=fN Tryz.func348
theorem F349:fT 349 Tryz.f349:=fN Tryz.func349
theorem F350:fT 350 Tryz.f350:=fN Tryz.func350
theorem F364:fT 364 Tryz.f364:=fN Tryz.func364
theorem F365:fT 365 Tryz.f365:=fN Tryz.func365
theorem F366:fT 366 Tryz.f366:=fN Tryz.func366
theorem F368:fT 368 Tryz.f368:=fN Tryz.func368
theorem F369:fT 369 Tryz.f369:=fN Tryz.func369
theorem F370:fT 370 Tryz.f370:=fN Tryz.func370
theorem F371:fT 371 Tryz.f371:=fN Tryz.func371
theorem F383:fT 383 Tryz.f383:=fN Tryz.func383
theorem F404:fT 404 Tryz.f404:=fN Tryz.func404
theorem F405:fT 405 Tryz.f405:=fN Tryz.func405
theorem F406:fT 406 Tryz.f406:=fN Tryz.func406
theorem F407:fT 407 Tryz.f407:=fN Tryz.func407
theorem F408:fT 408 Tryz.f408:=fN Tryz.func408
theorem F409:fT 409 Tryz.f409:=fN Tryz.func409
theorem F410:fT 410 Tryz.f410:=fN Tryz.func410
theorem F411:fT 411 Tryz.f411:=fN Tryz.func411
theorem F412:fT 412 Tryz.f412:=fN Tryz.func412
theorem F413:fT 413 Tryz.f413:=fN Tryz.func413
theorem F414:fT 414 Tryz.f414:=fN Tryz.func414
theorem F415:fT 415 Tryz.f415:=fN Tryz.func415
theorem F439:fT 439 Tryz.f439:=fN Tryz.func439
theorem F440:fT 440 Tryz.f440:=fN Tryz.func440
theorem F441:fT 441 Tryz.f441:=fN Tryz.func441
theorem F442:fT 442 Tryz.f442:=fN Tryz.func442
theorem rg {F:Fr} {n:Nat} {B:Exit→Act→World→Prop} {bn:List Nat} {hbn:∀ k,F.k0 k≠.new→k∈bn} {k:List KI} {s:SS} (h:Hz ⟨Tryz.prog,Γ.toTy,F,n,B,bn,hbn⟩ Γ 400 k s):G ⟨Tryz.prog,Γ.toTy,F,n,B,bn,hbn⟩ k s:=rG Γ hm h
theorem rd {F:Fr} {n:Nat} {B:Exit→Act→World→Prop} {bn:List Nat} {hbn:∀ k,F.k0 k≠.new→k∈bn} {k:List KI} {s:SS} {all:Array Oper} {done:List Stp} {rest:List Oper} (hs:all.toList=done.map (·.o)++rest) (h:L6 ⟨Tryz.prog,Γ.toTy,F,n,B,bn,hbn⟩ Γ 400 k all done rest s):DR ⟨Tryz.prog,Γ.toTy,F,n,B,bn,hbn⟩ k all done rest s:=rD Γ hm hs h
structure Bq (Q:Prop):Prop where out:Q
theorem oO {P Q:Prop} (h:Q) (e:Bq Q→P:=by intro hb;refine rg ?_;(conv=>whnf);exact hb.out):P:=e ⟨h⟩
theorem oF {P Q:Prop} (h:Q) (e:Bq Q→P:=by intro hb;refine rg ?_;(conv=>whnf);refine aF ?_;refine rg ?_;(conv=>whnf);exact hb.out):P:=e ⟨h⟩
theorem oT {P Q:Prop} (h:Q) (e:Bq Q→P:=by intro hb;refine rg ?_;(conv=>whnf);refine aT ?_;refine rg ?_;(conv=>whnf);exact hb.out):P:=e ⟨h⟩
theorem bF {P Q:Prop} (h:Q) (e:Bq Q→P:=by intro hb;refine aF ?_;refine rg ?_;(conv=>whnf);exact hb.out):P:=e ⟨h⟩
theorem bT {P Q:Prop} (h:Q) (e:Bq Q→P:=by intro hb;refine aT ?_;refine rg ?_;(conv=>whnf);exact hb.out):P:=e ⟨h⟩
theorem oD {P Q:Prop} (h:Q) (e:Bq Q→P:=by intro hb;refine rd z_ ?_;(conv=>whnf);exact hb.out):P:=e ⟨h⟩
theorem dN {P:Prop} (h:P:=by
 apply Ar
 ·exact E
 ·(repeat (first | exact ResVs.nil | (apply ResVs.cons;(first | exact .tmp | exact .cell rfl rfl rfl rfl))))
 ·exact E
 ·exact E):P:=h
theorem iL {a:Int} {K:Prop} (h:K) (e:I64 a:=by unfold I64;omega):I64 a∧K:=⟨e,h⟩
theorem iW {a:Int} {K Q:Prop} (h:Q) (e:I64 a:=by unfold I64;omega) (e2:Bq Q→K:=by intro hb;(conv=>whnf);exact hb.out):I64 a∧K:=⟨e,e2 ⟨h⟩⟩
theorem kW {α:Sort _} {a b:α} {K Q:Prop} (h:Q) (e:a=b:=by kernel_rfl) (e2:Bq Q→K:=by intro hb;(conv=>whnf);exact hb.out):a=b∧K:=⟨e,e2 ⟨h⟩⟩
theorem c0 {C:Cx} {k:List KI} {s:SS} {all:Array Oper} {o:Oper} {rest:List Oper} {f:FuncId} {fn:Func} {c:Code} {xs:List Operand} {ts:Array TypeId} {A:List SV} {R:SV} (hs:Sy.Spec C.P f A [] R []) (hf:Fun C.P f fn c) (hg:G C (.ops all rest::k) (s.upd o.dst ⟨R,[],[]⟩)) (h:o.op=.call ⟨.value (.func f),xs.toArray,ts⟩:=by exact rfl)
  (hA:A=xs.map (ev s):=by exact rfl) (hok:(Bs [] A && R.inn [])=true:=by exact rfl) (hd:K6 C.n o=true:=by exact rfl) (hw:Dq C.n all o s=some true:=by exact rfl):G C (.ops all (o::rest)::k) s:=Jh hs hf h hA hok hd hw hg
theorem cD {C:Cx} {k:List KI} {s:SS} {all:Array Oper} {done:List Stp} {o:Oper} {rest:List Oper} {f:FuncId} {fn:Func} {c:Code} {xs:List Operand} {ts:Array TypeId} {A:List SV} {R:SV} (hs:Sy.Spec C.P f A [] R []) (hf:Fun C.P f fn c) (hg:DR C k all (done++[⟨done.length,o,⟨R,[],[]⟩,true⟩]) rest (s.upd o.dst ⟨R,[],[]⟩)) (h:o.op=.call ⟨.value (.func f),xs.toArray,ts⟩:=by exact rfl)
  (hA:A=xs.map (ev s):=by exact rfl) (hok:(Bs [] A && R.inn [])=true:=by exact rfl) (hi:all[done.length]? = some o:=by kernel_rfl) (hw:Dq C.n all o s=some true:=by exact rfl):DR C k all done (o::rest) s:=Adk hs hf h hA hok hi hw hg
theorem qA {p q:Prop} [Decidable p] (h:decide p=true) (e:p→q:=by intro _h;omega):q:=e (of_decide_eq_true h)
theorem qB {p q:Prop} [Decidable p] (h:decide p=false) (e:¬ p→q:=by intro _h;omega):q:=e (of_decide_eq_false h)
end Go.Sy.YtjenpnjajjplkaaGreatDoor
namespace Go.Sy.YtjenpnjajjplkaaGreatDoor
open Go.Proofs
structure Device where
 (row prio:Int) (name:ByteArray) (mac vtep:Int)
structure Port where
 (row dev native cost link:Int) (name:ByteArray) (tagged:List Int)
structure Link where
 (row a b:Int)
structure Domain where
 (dev vlan vni irb row:Int) (peers:List Int)
structure Static where
 (row domain port mac:Int)
structure Flood where
 (row dev vni:Int) (addrs:List Int)
structure Vrf where
 (row dev:Int) (name:ByteArray) (imports exports:List Int)
structure Irb where
 (row domain vrf addr bits:Int)
structure Net where
 (devices:List Device) (ports:List Port) (links:List Link) (domains:List Domain) (statics:List Static) (floods:List Flood) (vrfs:List Vrf) (irbs:List Irb)
def Au (d:Device):SV:=.agg [Aa d.row,Aa d.prio,Ah d.name,Dv d.mac,A9 d.vtep]
def A2 (p:Port):SV:=.agg [Aa p.row,Aa p.dev,Aa p.native,Aa p.cost,Aa p.link,Ah p.name,.sl 1 Aa p.tagged]
def Bt (l:Link):SV:=.agg [Aa l.row,Aa l.a,Aa l.b]
def Ai (d:Domain):SV:=.agg [Aa d.dev,Aa d.vlan,Aa d.vni,Aa d.irb,Aa d.row,.sl 1 Aa d.peers]
def A1 (s:Static):SV:=.agg [Aa s.row,Aa s.domain,Aa s.port,Dv s.mac]
def A3 (f:Flood):SV:=.agg [Aa f.row,Aa f.dev,Aa f.vni,.sl 1 A9 f.addrs]
def Bz (v:Vrf):SV:=.agg [Aa v.row,Aa v.dev,Ah v.name,.sl 1 Aa v.imports,.sl 1 Aa v.exports]
def By (i:Irb):SV:=.agg [Aa i.row,Aa i.domain,Aa i.vrf,A9 i.addr,Aa i.bits]
def B1 (n:Net):List SV:=[.sl 5 Au n.devices,.sl 7 A2 n.ports,.sl 3 Bt n.links,.sl 6 Ai n.domains,.sl 4 A1 n.statics,.sl 4 A3 n.floods,.sl 5 Bz n.vrfs,.sl 5 By n.irbs]
def Ao (n:Net):SV:=.agg [.sl 5 Au n.devices,.sl 7 A2 n.ports,.sl 3 Bt n.links,.sl 6 Ai n.domains,.sl 4 A1 n.statics,.sl 4 A3 n.floods,.sl 5 Bz n.vrfs,.sl 5 By n.irbs]
instance:Inhabited Device:=⟨⟨0,0,.empty,0,0⟩⟩
instance:Inhabited Port:=⟨⟨0,0,0,0,0,.empty,[]⟩⟩
instance:Inhabited Link:=⟨⟨0,0,0⟩⟩
instance:Inhabited Domain:=⟨⟨0,0,0,0,0,[]⟩⟩
instance:Inhabited Static:=⟨⟨0,0,0,0⟩⟩
instance:Inhabited Flood:=⟨⟨0,0,0,[]⟩⟩
instance:Inhabited Vrf:=⟨⟨0,0,.empty,[],[]⟩⟩
instance:Inhabited Irb:=⟨⟨0,0,0,0,0⟩⟩
def Al (i:Int) (n:Nat):Bool:=decide (0≤i) && decide (i<n)
def inB (l:List Int) (x:Int):Bool:=l.any (· == x)
def nth {α:Type} [Inhabited α] (l:List α) (i:Int):α:=(l[i.toNat]?).getD default
theorem A7 {α:Type} [Inhabited α] {l:List α} {i:Int} (h:i.toNat<l.length):nth l i=l[i.toNat]:=by
 simp[nth,h]
def Br {α:Type} (p:α→Bool) (l:List α):Int:=match l.findIdx? p with | some i=>(i:Int) | none=>-1
theorem Co {α:Type} {p:α→Bool} {l:List α} {j:Nat} (h:j<l.length) (h1:∀ i (hi:i<l.length),i<j→p l[i]=false) (h2:p l[j]=true):Br p l=j:=by
 have:l.findIdx? p=some j:=by
  rw[List.findIdx?_eq_some_iff_getElem]
  exact⟨h,h2,fun i hi=>by simp[h1 i q_ hi]⟩
 simp[Br,this]
theorem Do {α:Type} {p:α→Bool} {l:List α} (h1:∀ i (hi:i<l.length),p l[i]=false):Br p l=-1:=by
 have:l.findIdx? p=none:=by
  rw[List.findIdx?_eq_none_iff]
  intro x hx
  obtain ⟨i,hi,rfl⟩:=List.mem_iff_getElem.1 hx
  exact h1 i hi
 simp[Br,this]
theorem U3 {α:Type} (p:α→Bool) (l:List α):Br p l<l.length:=by
 unfold Br
 split
 ·rename_i i h
  rw[List.findIdx?_eq_some_iff_getElem]at h
  obtain ⟨h,_⟩:=h
  omega
 ·omega
theorem Io {α:Type} (p:α→Bool) (l:List α):decide (0≤Br p l)=l.any p:=by
 unfold Br
 split
 ·rename_i i h
  rw[List.findIdx?_eq_some_iff_getElem]at h
  obtain ⟨h,h2,_⟩:=h
  have:l.any p=true:=List.any_eq_true.2 ⟨_,List.getElem_mem h,h2⟩
  rw[this]
  simp
 ·rename_i h
  rw[List.findIdx?_eq_none_iff]at h
  have:l.any p=false:=by
   rw[List.any_eq_false]
   intro x hx
   simp[h x hx]
  rw[this]
  simp
def Dp {α:Type} (p:Nat→α→Bool) (l:List α):Bool:=l.zipIdx.all fun q=>p q.2 q.1
theorem allB_iff {α:Type} {p:Nat→α→Bool} {l:List α}:Dp p l=true↔∀ i (h:i<l.length),p i l[i]=true:=by
 simp only[Dp,List.all_eq_true]
 constructor
 ·intro h i hi
  exact h (l[i],i) (by rw[List.mk_mem_zipIdx_iff_getElem?];simp[hi])
 ·rintro h ⟨x,i⟩ hx
  rw[List.mk_mem_zipIdx_iff_getElem?]at hx
  obtain ⟨hi,rfl⟩:=List.getElem?_eq_some_iff.1 hx
  exact h i hi
theorem Abm {α:Type} {p:Nat→α→Bool} {l:List α} (h:∀ i (h:i<l.length),p i l[i]=true):Dp p l=true:=allB_iff.2 h
theorem Bv {α:Type} {p:Nat→α→Bool} {l:List α} {i:Nat} (h:i<l.length) (h1:p i l[i]=false):Dp p l=false:=by
 cases hh:Dp p l with
 | false=>rfl
 | true=>have:=allB_iff.1 hh i h;rw[h1]at this;cases this
def El {α:Type} (p:Nat→α→Bool) (l:List α) (j:Nat):Prop:=∀ i (h:i<l.length),i<j→p i l[i]=true
theorem Bc {α:Type} (p:Nat→α→Bool) (l:List α):El p l 0:=fun i h hj=>absurd hj q_
theorem A8 {α:Type} {p:Nat→α→Bool} {l:List α} {j:Nat} (hI:El p l j) (hj:j<l.length) (h:p j l[j]=true):El p l (j+1):=by
 intro i hi hij
 rcases Nat.lt_or_ge i j with h1 | h1
 ·exact hI i hi h1
 ·have:i=j:=by omega
  subst this
  exact h
theorem C4 {α:Type} {p:Nat→α→Bool} {l:List α} {j:Nat} (hI:El p l j) (hj:l.length≤j):Dp p l=true:=Abm fun i hi=>hI i hi q_
def Aq {α:Type} (l:List α):Prop:=l.length<2147483648
end Go.Sy.YtjenpnjajjplkaaGreatDoor
namespace Go.Sy.YtjenpnjajjplkaaGreatDoor
open Go.Proofs
attribute [local irreducible] Go.Sy.G Go.Sy.DR
set_option maxRecDepth 20000
set_option maxHeartbeats 4000000
theorem Dw {α:Type} (sz:Nat) (e:α→SV) (l:List α) (i:Int):Sy.Spec Tryz.prog 81 [.sl sz e l,Aa i] [] (Ab (Al i l.length)) []:=cT F81 Tryz.ntmps81 fun F hF=>by
 conv=>whnf
 (repeat' (first | (refine⟨fun h=>?_,fun h=>?_⟩<;>(repeat (first | simp only[decide_eq_true_eq]at h | simp only[decide_eq_false_iff_not]at h))<;>((refine oO ?_))) | (refine Ar rfl (.cons .tmp .nil) ?_ rfl)))
 all_goals (refine congrArg Ab ?_)
 all_goals grind [Al]
theorem Ym {α:Type} (sz:Nat) (e:α→SV) (l:List α) (i:Int):Sy.Spec Tryz.prog 170 [.sl sz e l,Aa i] [] (Ab (Al i l.length)) []:=cT F170 Tryz.ntmps170 fun F hF=>by
 conv=>whnf
 (repeat' (first | (refine⟨fun h=>?_,fun h=>?_⟩<;>(repeat (first | simp only[decide_eq_true_eq]at h | simp only[decide_eq_false_iff_not]at h))<;>((refine oO ?_))) | (refine Ar rfl (.cons .tmp .nil) ?_ rfl)))
 all_goals (refine congrArg Ab ?_)
 all_goals grind [Al]
theorem V6 {α:Type} (sz:Nat) (e:α→SV) (l:List α) (i:Int):Sy.Spec Tryz.prog 176 [.sl sz e l,Aa i] [] (Ab (Al i l.length)) []:=cT F176 Tryz.ntmps176 fun F hF=>by
 conv=>whnf
 (repeat' (first | (refine⟨fun h=>?_,fun h=>?_⟩<;>(repeat (first | simp only[decide_eq_true_eq]at h | simp only[decide_eq_false_iff_not]at h))<;>((refine oO ?_))) | (refine Ar rfl (.cons .tmp .nil) ?_ rfl)))
 all_goals (refine congrArg Ab ?_)
 all_goals grind [Al]
theorem Ju {α:Type} (sz:Nat) (e:α→SV) (l:List α) (i:Int):Sy.Spec Tryz.prog 177 [.sl sz e l,Aa i] [] (Ab (Al i l.length)) []:=cT F177 Tryz.ntmps177 fun F hF=>by
 conv=>whnf
 (repeat' (first | (refine⟨fun h=>?_,fun h=>?_⟩<;>(repeat (first | simp only[decide_eq_true_eq]at h | simp only[decide_eq_false_iff_not]at h))<;>((refine oO ?_))) | (refine Ar rfl (.cons .tmp .nil) ?_ rfl)))
 all_goals (refine congrArg Ab ?_)
 all_goals grind [Al]
theorem Ib {α:Type} (sz:Nat) (e:α→SV) (l:List α) (i:Int):Sy.Spec Tryz.prog 178 [.sl sz e l,Aa i] [] (Ab (Al i l.length)) []:=cT F178 Tryz.ntmps178 fun F hF=>by
 conv=>whnf
 (repeat' (first | (refine⟨fun h=>?_,fun h=>?_⟩<;>(repeat (first | simp only[decide_eq_true_eq]at h | simp only[decide_eq_false_iff_not]at h))<;>((refine oO ?_))) | (refine Ar rfl (.cons .tmp .nil) ?_ rfl)))
 all_goals (refine congrArg Ab ?_)
 all_goals grind [Al]
theorem Yl {α:Type} (sz:Nat) (e:α→SV) (l:List α) (i:Int):Sy.Spec Tryz.prog 181 [.sl sz e l,Aa i] [] (Ab (Al i l.length)) []:=cT F181 Tryz.ntmps181 fun F hF=>by
 conv=>whnf
 (repeat' (first | (refine⟨fun h=>?_,fun h=>?_⟩<;>(repeat (first | simp only[decide_eq_true_eq]at h | simp only[decide_eq_false_iff_not]at h))<;>((refine oO ?_))) | (refine Ar rfl (.cons .tmp .nil) ?_ rfl)))
 all_goals (refine congrArg Ab ?_)
 all_goals grind [Al]
theorem Ac1 (l:List Int) (x:Int) (hl:Aq l):Sy.Spec Tryz.prog 175 [.sl 1 Aa l,Aa x] [] (Aa (Br (· == x) l)) []:=cT F175 Tryz.ntmps175 fun F hF=>by
 unfold Aq at hl
 conv=>whnf
 refine A6 l.length (fun j=>∀ i (h:i<l.length),i<j→(l[i] == x)=false) (fun j=>[(0,.sl 1 Aa l),(1,Aa x),(7,Aa l.length),(8,Aa j)]) (fun _=>[]) [] (fun i h hj=>absurd hj q_) ⟨⟨E,E,E,E,E,E,E,E,Y⟩,Y,E,E⟩ ?_
 intro j hj hI
 refine oO ?_
 (repeat' (first | (refine⟨fun h=>?_,fun h=>?_⟩<;>(repeat (first | simp only[decide_eq_true_eq]at h | simp only[decide_eq_false_iff_not]at h | simp only[beq_iff_eq]at h | simp only[beq_eq_false_iff_ne]at h))<;>((refine oO ?_))) | (refine Ar rfl (.cons .tmp .nil) ?_ rfl) | (refine⟨z_,?_⟩;((conv=>whnf))) | (refine⟨by (omega),by (omega),?_⟩;((conv=>whnf))) | (refine⟨by (unfold I64;omega),?_⟩;((conv=>whnf))) | refine Bb [] hI q_ ?_ ⟨⟨rfl,rfl,rfl,rfl,rfl,rfl,rfl,rfl,trivial⟩,trivial,rfl,rfl⟩))
 all_goals try (refine congrArg Aa ?_)
 ·exact Co q_ hI (by simpa using h.symm)
 ·intro i hi hij
  rcases Nat.lt_or_ge i j with h1 | h1
  ·exact hI i hi h1
  ·have:i=j:=by omega
   subst this
   simpa using Ne.symm h
 ·exact Do (fun i hi=>hI i hi q_)
theorem Ir (l:List Int) (x:Int) (hl:Aq l):Sy.Spec Tryz.prog 100 [.sl 1 Aa l,Aa x] [] (Ab (inB l x)) []:=cT F100 Tryz.ntmps100 fun F hF=>by
 conv=>whnf
 (repeat' (first | (refine Ar rfl (.cons .tmp .nil) ?_ rfl) | (refine c0 (Ac1 _ _ hl) F175 ?_;((refine oO ?_)))))
 exact congrArg Ab (Io _ _).symm
def Cs (p:Port) (v:Int):Bool:=v != 0 && (v == p.native || inB p.tagged v)
theorem Ux (p:Port) (v:Int) (hl:Aq p.tagged):Sy.Spec Tryz.prog 179 [A2 p,Aa v] [] (Ab (Cs p v)) []:=cT F179 Tryz.ntmps179 fun F hF=>by
 conv=>whnf
 (repeat' (first | (refine⟨fun h=>?_,fun h=>?_⟩<;>(repeat (first | simp only[beq_iff_eq]at h | simp only[beq_eq_false_iff_ne]at h | simp only[bne_iff_ne]at h | simp only[bne_eq_false_iff_eq]at h))<;>((refine oO ?_))) | (refine Ar rfl (.cons .tmp .nil) ?_ rfl) | (refine c0 (Ir _ _ hl) F100 ?_;((refine oO ?_)))))
 all_goals (refine congrArg Ab ?_)
 all_goals grind [Cs]
def Ku (l:List Int) (least most:Int) (i:Nat) (x:Int):Bool:=decide (least≤x) && decide (x≤most) && (i == 0 || decide (nth l ((i:Int)-1)<x))
def D0 (l:List Int) (least most:Int):Bool:=decide (0<l.length) && decide (l.length≤16) && Dp (Ku l least most) l
theorem Qp (l:List Int) (least most:Int) (hl:Aq l):Sy.Spec Tryz.prog 180 [.sl 1 Aa l,Aa least,Aa most] [] (Ab (D0 l least most)) []:=cT F180 Tryz.ntmps180 fun F hF=>by
 unfold Aq at hl
 conv=>whnf
 refine A6 l.length (fun j=>El (Ku l least most) l j) (fun j=>[(0,.sl 1 Aa l),(1,Aa least),(2,Aa most),(9,.sl 1 Aa l),(10,Aa l.length),(11,Aa j)]) (fun _=>[]) [] (Bc _ _) ⟨⟨E,E,E,E,E,E,E,E,E,E,E,E,Y⟩,Y,E,E⟩ ?_
 intro j hj hI
 refine oO ?_
 (repeat' (first | (refine⟨fun h=>?_,fun h=>?_⟩<;>(repeat (first | simp only[decide_eq_true_eq]at h | simp only[decide_eq_false_iff_not]at h))<;>((refine oO ?_);repeat((first|refine aF ?_|refine aT ?_);(refine oO ?_)))) | (refine Ar rfl (.cons .tmp .nil) ?_ rfl) | (refine⟨z_,?_⟩;((conv=>whnf))) | (refine⟨by (first | (unfold I64;omega) | omega),by (omega),?_⟩;((conv=>whnf))) | (refine⟨by (unfold I64;omega),?_⟩;((conv=>whnf))) | refine Bb [] hI q_ ?_ ⟨⟨rfl,rfl,rfl,rfl,rfl,rfl,rfl,rfl,rfl,rfl,rfl,rfl,trivial⟩,trivial,rfl,rfl⟩))
 all_goals try (refine congrArg Ab ?_)
 all_goals try simp only[Int.toNat_natCast,Int.pred_toNat]at *
 ·rw[D0,Bv (i:=j) q_ (by simp[Ku];omega)];simp
 ·rw[D0,Bv (i:=j) q_ (by simp[Ku];omega)];simp
 ·rw[D0,Bv (i:=j) q_ (by simp only[Ku,A7 (show ((j:Int)-1).toNat<l.length by omega),Int.pred_toNat,Int.toNat_natCast];simp;omega)];simp
 ·exact A8 hI q_ (by simp only[Ku,A7 (show ((j:Int)-1).toNat<l.length by omega),Int.pred_toNat,Int.toNat_natCast];simp;omega)
 ·exact A8 hI q_ (by simp[Ku];omega)
 ·rw[D0,C4 hI q_,Bool.eq_iff_iff];simp;omega
 ·rw[D0];simp;omega
theorem Um (l:List Int) (most:Int) (hl:Aq l):Sy.Spec Tryz.prog 84 [.sl 1 Aa l,Aa most] [] (Ab (decide (l.length=0) || D0 l 1 most)) []:=cT F84 Tryz.ntmps84 fun F hF=>by
 conv=>whnf
 (repeat' (first | (refine⟨fun h=>?_,fun h=>?_⟩<;>(repeat (first | simp only[beq_iff_eq]at h | simp only[beq_eq_false_iff_ne]at h))<;>((refine oO ?_))) | (refine Ar rfl (.cons .tmp .nil) ?_ rfl) | (refine c0 (Qp l 1 most hl) F180 ?_;((refine oO ?_)))))
 all_goals (refine congrArg Ab ?_)
 all_goals grind
theorem Dl {K:List Nat}:∀ (a b:List SV),Bs K (a++b)=(Bs K a && Bs K b)
 | [],b=>by simp[Bs]
 | x::a,b=>by simp[Bs,Dl a b,Bool.and_assoc]
theorem C0 {f:FuncId} {first cap xs:List SV} (hc:(SV.clo (.func f) first cap).inn []=true) (hx:Bs [] xs=true):Bs [] (first++xs++cap)=true:=by
 simp only[SV.inn,Bool.and_eq_true]at hc
 rw[Dl,Dl,hc.1,hc.2,hx]
 rfl
theorem Dd (l:List Domain) (p:Domain→Bool) (f:FuncId) (first cap:List SV) (hc:(SV.clo (.func f) first cap).inn []=true) (hf:∀ x∈l,Hc Tryz.prog f (first++[Ai x]++cap) (Ab (p x))) (hl:Aq l) :
  Sy.Spec Tryz.prog 163 [.sl 6 Ai l,.clo (.func f) first cap] [] (Aa (Br p l)) []:=cT F163 Tryz.ntmps163 fun F hF=>by
 unfold Aq at hl
 have hin:∀ x:Domain,Bs [] (first++[Ai x]++cap)=true:=fun x=>C0 hc rfl
 conv=>whnf
 refine A6 l.length (fun j=>El (fun _ x=>!(p x)) l j) (fun j=>[(0,.sl 6 Ai l),(1,.clo (.func f) first cap),(7,Aa l.length),(8,Aa j)]) (fun _=>[]) [] (Bc _ _) ⟨⟨E,E,Be _,hc,E,E,E,E,Y⟩,Y,E,E⟩ ?_
 intro j hj hI
 refine oO ?_
 refine⟨fun h=>?_,fun h=>?_⟩
 ·have h:=of_decide_eq_true h
  have hj2:j<l.length:=by omega
  refine oO ?_
  refine⟨E,by omega,by omega,?_⟩
  conv=>whnf
  refine E5 (hf l[j] (List.getElem_mem hj2)) E E E (by simp only[hin];rfl) E E ?_
  refine oO ?_
  refine⟨fun h2=>?_,fun h2=>?_⟩
  ·refine oO ?_
   refine Ar E (.cons .tmp .nil) (congrArg Aa ?_) E
   exact Co hj2 (fun i hi hij=>by simpa using hI i hi hij) h2
  ·refine oO ?_
   refine iW ?_
   exact Bb [] hI hj2 (A8 hI hj2 (by simp[h2])) ⟨⟨E,E,Be _,hc,E,E,E,E,Y⟩,Y,E,E⟩
 ·have h:=of_decide_eq_false h
  refine oO ?_
  refine Ar E (.cons .tmp .nil) (congrArg Aa ?_) E
  exact Do (fun i hi=>by simpa using hI i hi q_)
theorem O0 (l:List Port) (p:Port→Bool) (f:FuncId) (first cap:List SV) (hc:(SV.clo (.func f) first cap).inn []=true) (hf:∀ x∈l,Hc Tryz.prog f (first++[A2 x]++cap) (Ab (p x))) (hl:Aq l) :
  Sy.Spec Tryz.prog 121 [.sl 7 A2 l,.clo (.func f) first cap] [] (Aa (Br p l)) []:=cT F121 Tryz.ntmps121 fun F hF=>by
 unfold Aq at hl
 have hin:∀ x:Port,Bs [] (first++[A2 x]++cap)=true:=fun x=>C0 hc rfl
 conv=>whnf
 refine A6 l.length (fun j=>El (fun _ x=>!(p x)) l j) (fun j=>[(0,.sl 7 A2 l),(1,.clo (.func f) first cap),(7,Aa l.length),(8,Aa j)]) (fun _=>[]) [] (Bc _ _) ⟨⟨E,E,Be _,hc,E,E,E,E,Y⟩,Y,E,E⟩ ?_
 intro j hj hI
 refine oO ?_
 refine⟨fun h=>?_,fun h=>?_⟩
 ·have h:=of_decide_eq_true h
  have hj2:j<l.length:=by omega
  refine oO ?_
  refine⟨E,by omega,by omega,?_⟩
  conv=>whnf
  refine E5 (hf l[j] (List.getElem_mem hj2)) E E E (by simp only[hin];rfl) E E ?_
  refine oO ?_
  refine⟨fun h2=>?_,fun h2=>?_⟩
  ·refine oO ?_
   refine Ar E (.cons .tmp .nil) (congrArg Aa ?_) E
   exact Co hj2 (fun i hi hij=>by simpa using hI i hi hij) h2
  ·refine oO ?_
   refine iW ?_
   exact Bb [] hI hj2 (A8 hI hj2 (by simp[h2])) ⟨⟨E,E,Be _,hc,E,E,E,E,Y⟩,Y,E,E⟩
 ·have h:=of_decide_eq_false h
  refine oO ?_
  refine Ar E (.cons .tmp .nil) (congrArg Aa ?_) E
  exact Do (fun i hi=>by simpa using hI i hi q_)
theorem Abk (l:List Port) (p:Nat→Port→Bool) (f:FuncId) (first cap:List SV) (hc:(SV.clo (.func f) first cap).inn []=true) (hf:∀ i (h:i<l.length),Hc Tryz.prog f (first++[Aa i,A2 l[i]]++cap) (Ab (p i l[i]))) (hl:Aq l) :
  Sy.Spec Tryz.prog 73 [.sl 7 A2 l,.clo (.func f) first cap] [] (Ab (Dp p l)) []:=cT F73 Tryz.ntmps73 fun F hF=>by
 unfold Aq at hl
 have hin:∀ (i:Nat) (x:Port),Bs [] (first++[Aa i,A2 x]++cap)=true:=fun i x=>C0 hc rfl
 conv=>whnf
 refine A6 l.length (fun j=>El p l j) (fun j=>[(0,.sl 7 A2 l),(1,.clo (.func f) first cap),(7,.sl 7 A2 l),(8,Aa l.length),(9,Aa j)]) (fun _=>[]) [] (Bc _ _) ⟨⟨E,E,Be _,hc,E,E,E,E,E,E,Y⟩,Y,E,E⟩ ?_
 intro j hj hI
 refine oO ?_
 refine⟨fun h=>?_,fun h=>?_⟩
 ·have h:=of_decide_eq_true h
  have hj2:j<l.length:=by omega
  refine oO ?_
  refine⟨E,by omega,by omega,?_⟩
  conv=>whnf
  refine E5 (hf j hj2) E E E (by simp only[hin];rfl) E E ?_
  refine oO ?_
  refine⟨fun h2=>?_,fun h2=>?_⟩
  ·refine oO ?_
   refine Ar E (.cons .tmp .nil) (congrArg Ab ?_) E
   exact Bv hj2 (by simpa using h2)
  ·refine oO ?_
   refine iW ?_
   exact Bb [] hI hj2 (A8 hI hj2 (by simpa using h2)) ⟨⟨E,E,Be _,hc,E,E,E,E,E,E,Y⟩,Y,E,E⟩
 ·have h:=of_decide_eq_false h
  refine oO ?_
  refine Ar E (.cons .tmp .nil) (congrArg Ab ?_) E
  exact C4 hI q_
theorem Abl (l:List Link) (p:Nat→Link→Bool) (f:FuncId) (first cap:List SV) (hc:(SV.clo (.func f) first cap).inn []=true) (hf:∀ i (h:i<l.length),Hc Tryz.prog f (first++[Aa i,Bt l[i]]++cap) (Ab (p i l[i]))) (hl:Aq l) :
  Sy.Spec Tryz.prog 75 [.sl 3 Bt l,.clo (.func f) first cap] [] (Ab (Dp p l)) []:=cT F75 Tryz.ntmps75 fun F hF=>by
 unfold Aq at hl
 have hin:∀ (i:Nat) (x:Link),Bs [] (first++[Aa i,Bt x]++cap)=true:=fun i x=>C0 hc rfl
 conv=>whnf
 refine A6 l.length (fun j=>El p l j) (fun j=>[(0,.sl 3 Bt l),(1,.clo (.func f) first cap),(7,.sl 3 Bt l),(8,Aa l.length),(9,Aa j)]) (fun _=>[]) [] (Bc _ _) ⟨⟨E,E,Be _,hc,E,E,E,E,E,E,Y⟩,Y,E,E⟩ ?_
 intro j hj hI
 refine oO ?_
 refine⟨fun h=>?_,fun h=>?_⟩
 ·have h:=of_decide_eq_true h
  have hj2:j<l.length:=by omega
  refine oO ?_
  refine⟨E,by omega,by omega,?_⟩
  conv=>whnf
  refine E5 (hf j hj2) E E E (by simp only[hin];rfl) E E ?_
  refine oO ?_
  refine⟨fun h2=>?_,fun h2=>?_⟩
  ·refine oO ?_
   refine Ar E (.cons .tmp .nil) (congrArg Ab ?_) E
   exact Bv hj2 (by simpa using h2)
  ·refine oO ?_
   refine iW ?_
   exact Bb [] hI hj2 (A8 hI hj2 (by simpa using h2)) ⟨⟨E,E,Be _,hc,E,E,E,E,E,E,Y⟩,Y,E,E⟩
 ·have h:=of_decide_eq_false h
  refine oO ?_
  refine Ar E (.cons .tmp .nil) (congrArg Ab ?_) E
  exact C4 hI q_
theorem Ot (l:List Domain) (p:Nat→Domain→Bool) (f:FuncId) (first cap:List SV) (hc:(SV.clo (.func f) first cap).inn []=true) (hf:∀ i (h:i<l.length),Hc Tryz.prog f (first++[Aa i,Ai l[i]]++cap) (Ab (p i l[i]))) (hl:Aq l) :
  Sy.Spec Tryz.prog 70 [.sl 6 Ai l,.clo (.func f) first cap] [] (Ab (Dp p l)) []:=cT F70 Tryz.ntmps70 fun F hF=>by
 unfold Aq at hl
 have hin:∀ (i:Nat) (x:Domain),Bs [] (first++[Aa i,Ai x]++cap)=true:=fun i x=>C0 hc rfl
 conv=>whnf
 refine A6 l.length (fun j=>El p l j) (fun j=>[(0,.sl 6 Ai l),(1,.clo (.func f) first cap),(7,.sl 6 Ai l),(8,Aa l.length),(9,Aa j)]) (fun _=>[]) [] (Bc _ _) ⟨⟨E,E,Be _,hc,E,E,E,E,E,E,Y⟩,Y,E,E⟩ ?_
 intro j hj hI
 refine oO ?_
 refine⟨fun h=>?_,fun h=>?_⟩
 ·have h:=of_decide_eq_true h
  have hj2:j<l.length:=by omega
  refine oO ?_
  refine⟨E,by omega,by omega,?_⟩
  conv=>whnf
  refine E5 (hf j hj2) E E E (by simp only[hin];rfl) E E ?_
  refine oO ?_
  refine⟨fun h2=>?_,fun h2=>?_⟩
  ·refine oO ?_
   refine Ar E (.cons .tmp .nil) (congrArg Ab ?_) E
   exact Bv hj2 (by simpa using h2)
  ·refine oO ?_
   refine iW ?_
   exact Bb [] hI hj2 (A8 hI hj2 (by simpa using h2)) ⟨⟨E,E,Be _,hc,E,E,E,E,E,E,Y⟩,Y,E,E⟩
 ·have h:=of_decide_eq_false h
  refine oO ?_
  refine Ar E (.cons .tmp .nil) (congrArg Ab ?_) E
  exact C4 hI q_
theorem Xc (l:List Static) (p:Nat→Static→Bool) (f:FuncId) (first cap:List SV) (hc:(SV.clo (.func f) first cap).inn []=true) (hf:∀ i (h:i<l.length),Hc Tryz.prog f (first++[Aa i,A1 l[i]]++cap) (Ab (p i l[i]))) (hl:Aq l) :
  Sy.Spec Tryz.prog 77 [.sl 4 A1 l,.clo (.func f) first cap] [] (Ab (Dp p l)) []:=cT F77 Tryz.ntmps77 fun F hF=>by
 unfold Aq at hl
 have hin:∀ (i:Nat) (x:Static),Bs [] (first++[Aa i,A1 x]++cap)=true:=fun i x=>C0 hc rfl
 conv=>whnf
 refine A6 l.length (fun j=>El p l j) (fun j=>[(0,.sl 4 A1 l),(1,.clo (.func f) first cap),(7,.sl 4 A1 l),(8,Aa l.length),(9,Aa j)]) (fun _=>[]) [] (Bc _ _) ⟨⟨E,E,Be _,hc,E,E,E,E,E,E,Y⟩,Y,E,E⟩ ?_
 intro j hj hI
 refine oO ?_
 refine⟨fun h=>?_,fun h=>?_⟩
 ·have h:=of_decide_eq_true h
  have hj2:j<l.length:=by omega
  refine oO ?_
  refine⟨E,by omega,by omega,?_⟩
  conv=>whnf
  refine E5 (hf j hj2) E E E (by simp only[hin];rfl) E E ?_
  refine oO ?_
  refine⟨fun h2=>?_,fun h2=>?_⟩
  ·refine oO ?_
   refine Ar E (.cons .tmp .nil) (congrArg Ab ?_) E
   exact Bv hj2 (by simpa using h2)
  ·refine oO ?_
   refine iW ?_
   exact Bb [] hI hj2 (A8 hI hj2 (by simpa using h2)) ⟨⟨E,E,Be _,hc,E,E,E,E,E,E,Y⟩,Y,E,E⟩
 ·have h:=of_decide_eq_false h
  refine oO ?_
  refine Ar E (.cons .tmp .nil) (congrArg Ab ?_) E
  exact C4 hI q_
theorem Ze (l:List Flood) (p:Nat→Flood→Bool) (f:FuncId) (first cap:List SV) (hc:(SV.clo (.func f) first cap).inn []=true) (hf:∀ i (h:i<l.length),Hc Tryz.prog f (first++[Aa i,A3 l[i]]++cap) (Ab (p i l[i]))) (hl:Aq l) :
  Sy.Spec Tryz.prog 79 [.sl 4 A3 l,.clo (.func f) first cap] [] (Ab (Dp p l)) []:=cT F79 Tryz.ntmps79 fun F hF=>by
 unfold Aq at hl
 have hin:∀ (i:Nat) (x:Flood),Bs [] (first++[Aa i,A3 x]++cap)=true:=fun i x=>C0 hc rfl
 conv=>whnf
 refine A6 l.length (fun j=>El p l j) (fun j=>[(0,.sl 4 A3 l),(1,.clo (.func f) first cap),(7,.sl 4 A3 l),(8,Aa l.length),(9,Aa j)]) (fun _=>[]) [] (Bc _ _) ⟨⟨E,E,Be _,hc,E,E,E,E,E,E,Y⟩,Y,E,E⟩ ?_
 intro j hj hI
 refine oO ?_
 refine⟨fun h=>?_,fun h=>?_⟩
 ·have h:=of_decide_eq_true h
  have hj2:j<l.length:=by omega
  refine oO ?_
  refine⟨E,by omega,by omega,?_⟩
  conv=>whnf
  refine E5 (hf j hj2) E E E (by simp only[hin];rfl) E E ?_
  refine oO ?_
  refine⟨fun h2=>?_,fun h2=>?_⟩
  ·refine oO ?_
   refine Ar E (.cons .tmp .nil) (congrArg Ab ?_) E
   exact Bv hj2 (by simpa using h2)
  ·refine oO ?_
   refine iW ?_
   exact Bb [] hI hj2 (A8 hI hj2 (by simpa using h2)) ⟨⟨E,E,Be _,hc,E,E,E,E,E,E,Y⟩,Y,E,E⟩
 ·have h:=of_decide_eq_false h
  refine oO ?_
  refine Ar E (.cons .tmp .nil) (congrArg Ab ?_) E
  exact C4 hI q_
theorem Adq (l:List Vrf) (p:Nat→Vrf→Bool) (f:FuncId) (first cap:List SV) (hc:(SV.clo (.func f) first cap).inn []=true) (hf:∀ i (h:i<l.length),Hc Tryz.prog f (first++[Aa i,Bz l[i]]++cap) (Ab (p i l[i]))) (hl:Aq l) :
  Sy.Spec Tryz.prog 82 [.sl 5 Bz l,.clo (.func f) first cap] [] (Ab (Dp p l)) []:=cT F82 Tryz.ntmps82 fun F hF=>by
 unfold Aq at hl
 have hin:∀ (i:Nat) (x:Vrf),Bs [] (first++[Aa i,Bz x]++cap)=true:=fun i x=>C0 hc rfl
 conv=>whnf
 refine A6 l.length (fun j=>El p l j) (fun j=>[(0,.sl 5 Bz l),(1,.clo (.func f) first cap),(7,.sl 5 Bz l),(8,Aa l.length),(9,Aa j)]) (fun _=>[]) [] (Bc _ _) ⟨⟨E,E,Be _,hc,E,E,E,E,E,E,Y⟩,Y,E,E⟩ ?_
 intro j hj hI
 refine oO ?_
 refine⟨fun h=>?_,fun h=>?_⟩
 ·have h:=of_decide_eq_true h
  have hj2:j<l.length:=by omega
  refine oO ?_
  refine⟨E,by omega,by omega,?_⟩
  conv=>whnf
  refine E5 (hf j hj2) E E E (by simp only[hin];rfl) E E ?_
  refine oO ?_
  refine⟨fun h2=>?_,fun h2=>?_⟩
  ·refine oO ?_
   refine Ar E (.cons .tmp .nil) (congrArg Ab ?_) E
   exact Bv hj2 (by simpa using h2)
  ·refine oO ?_
   refine iW ?_
   exact Bb [] hI hj2 (A8 hI hj2 (by simpa using h2)) ⟨⟨E,E,Be _,hc,E,E,E,E,E,E,Y⟩,Y,E,E⟩
 ·have h:=of_decide_eq_false h
  refine oO ?_
  refine Ar E (.cons .tmp .nil) (congrArg Ab ?_) E
  exact C4 hI q_
theorem Adr (l:List Irb) (p:Nat→Irb→Bool) (f:FuncId) (first cap:List SV) (hc:(SV.clo (.func f) first cap).inn []=true) (hf:∀ i (h:i<l.length),Hc Tryz.prog f (first++[Aa i,By l[i]]++cap) (Ab (p i l[i]))) (hl:Aq l) :
  Sy.Spec Tryz.prog 85 [.sl 5 By l,.clo (.func f) first cap] [] (Ab (Dp p l)) []:=cT F85 Tryz.ntmps85 fun F hF=>by
 unfold Aq at hl
 have hin:∀ (i:Nat) (x:Irb),Bs [] (first++[Aa i,By x]++cap)=true:=fun i x=>C0 hc rfl
 conv=>whnf
 refine A6 l.length (fun j=>El p l j) (fun j=>[(0,.sl 5 By l),(1,.clo (.func f) first cap),(7,.sl 5 By l),(8,Aa l.length),(9,Aa j)]) (fun _=>[]) [] (Bc _ _) ⟨⟨E,E,Be _,hc,E,E,E,E,E,E,Y⟩,Y,E,E⟩ ?_
 intro j hj hI
 refine oO ?_
 refine⟨fun h=>?_,fun h=>?_⟩
 ·have h:=of_decide_eq_true h
  have hj2:j<l.length:=by omega
  refine oO ?_
  refine⟨E,by omega,by omega,?_⟩
  conv=>whnf
  refine E5 (hf j hj2) E E E (by simp only[hin];rfl) E E ?_
  refine oO ?_
  refine⟨fun h2=>?_,fun h2=>?_⟩
  ·refine oO ?_
   refine Ar E (.cons .tmp .nil) (congrArg Ab ?_) E
   exact Bv hj2 (by simpa using h2)
  ·refine oO ?_
   refine iW ?_
   exact Bb [] hI hj2 (A8 hI hj2 (by simpa using h2)) ⟨⟨E,E,Be _,hc,E,E,E,E,E,E,Y⟩,Y,E,E⟩
 ·have h:=of_decide_eq_false h
  refine oO ?_
  refine Ar E (.cons .tmp .nil) (congrArg Ab ?_) E
  exact C4 hI q_
theorem Adp (l:List Int) (p:Nat→Int→Bool) (f:FuncId) (first cap:List SV) (hc:(SV.clo (.func f) first cap).inn []=true) (hf:∀ i (h:i<l.length),Hc Tryz.prog f (first++[Aa i,Aa l[i]]++cap) (Ab (p i l[i]))) (hl:Aq l) :
  Sy.Spec Tryz.prog 172 [.sl 1 Aa l,.clo (.func f) first cap] [] (Ab (Dp p l)) []:=cT F172 Tryz.ntmps172 fun F hF=>by
 unfold Aq at hl
 have hin:∀ (i:Nat) (x:Int),Bs [] (first++[Aa i,Aa x]++cap)=true:=fun i x=>C0 hc rfl
 conv=>whnf
 refine A6 l.length (fun j=>El p l j) (fun j=>[(0,.sl 1 Aa l),(1,.clo (.func f) first cap),(7,.sl 1 Aa l),(8,Aa l.length),(9,Aa j)]) (fun _=>[]) [] (Bc _ _) ⟨⟨E,E,Be _,hc,E,E,E,E,E,E,Y⟩,Y,E,E⟩ ?_
 intro j hj hI
 refine oO ?_
 refine⟨fun h=>?_,fun h=>?_⟩
 ·have h:=of_decide_eq_true h
  have hj2:j<l.length:=by omega
  refine oO ?_
  refine⟨E,by omega,by omega,?_⟩
  conv=>whnf
  refine E5 (hf j hj2) E E E (by simp only[hin];rfl) E E ?_
  refine oO ?_
  refine⟨fun h2=>?_,fun h2=>?_⟩
  ·refine oO ?_
   refine Ar E (.cons .tmp .nil) (congrArg Ab ?_) E
   exact Bv hj2 (by simpa using h2)
  ·refine oO ?_
   refine iW ?_
   exact Bb [] hI hj2 (A8 hI hj2 (by simpa using h2)) ⟨⟨E,E,Be _,hc,E,E,E,E,E,E,Y⟩,Y,E,E⟩
 ·have h:=of_decide_eq_false h
  refine oO ?_
  refine Ar E (.cons .tmp .nil) (congrArg Ab ?_) E
  exact C4 hI q_
structure Net.Fin (n:Net):Prop where
 devices:Aq n.devices
 ports:Aq n.ports
 links:Aq n.links
 domains:Aq n.domains
 statics:Aq n.statics
 floods:Aq n.floods
 vrfs:Aq n.vrfs
 irbs:Aq n.irbs
 tagged:∀ p∈n.ports,Aq p.tagged
 peers:∀ d∈n.domains,Aq d.peers
 addrs:∀ f∈n.floods,Aq f.addrs
 imports:∀ v∈n.vrfs,Aq v.imports
 exports:∀ v∈n.vrfs,Aq v.exports
def B7 (n:Net) (dev vlan:Int):Int:=Br (fun d=>d.dev == dev && d.vlan == vlan) n.domains
theorem Aeq (dev vlan:Int) (d:Domain):Sy.Spec Tryz.prog 253 [Ai d,.ref 1 (Aa dev) 0,.ref 1 (Aa vlan) 0] [] (Ab (d.dev == dev && d.vlan == vlan)) []:=cT F253 Tryz.ntmps253 fun F hF=>by
 conv=>whnf
 (repeat' (first | (refine⟨fun h=>?_,fun h=>?_⟩<;>(repeat (first | simp only[beq_iff_eq]at h | simp only[beq_eq_false_iff_ne]at h))<;>((refine oO ?_))) | (refine Ar rfl (.cons .tmp .nil) ?_ rfl)))
 all_goals (refine congrArg Ab ?_)
 all_goals simp_all
theorem I6 (n:Net) (dev vlan:Int) (hl:Aq n.domains):Sy.Spec Tryz.prog 171 [Ao n,Aa dev,Aa vlan] [] (Aa (B7 n dev vlan)) []:=cT F171 Tryz.ntmps171 fun F hF=>by
 conv=>whnf
 refine Bg 4 1 (Aa dev) E E E ?_
 refine Bg 5 1 (Aa vlan) E E E ?_
 refine c0 (Dd n.domains (fun d=>d.dev == dev && d.vlan == vlan) 253 [] [.ref 1 (Aa dev) 0,.ref 1 (Aa vlan) 0] E (fun d _=>⟨⟨_,_,F253⟩,Aeq dev vlan d⟩) hl) F163 ?_
 refine oO ?_
 exact dN
def Ww (n:Net):Bool:=decide (n.devices.length≤8) && decide (n.ports.length≤40) && decide (n.links.length≤20) && decide (n.domains.length≤48) && decide (n.statics.length≤64) && decide (n.floods.length≤48) && decide (n.vrfs.length≤16) && decide (n.irbs.length≤48)
theorem fewS (n:Net):Sy.Spec Tryz.prog 69 [Ao n] [] (Ab (Ww n)) []:=cT F69 Tryz.ntmps69 fun F hF=>by
 conv=>whnf
 (repeat' (first | (refine⟨fun h=>?_,fun h=>?_⟩<;>(repeat (first | simp only[decide_eq_true_eq]at h | simp only[decide_eq_false_iff_not]at h))<;>((refine oO ?_);repeat((refine aF ?_);(refine oO ?_)))) | (refine Ar rfl (.cons .tmp .nil) ?_ rfl)))
 all_goals (refine congrArg Ab ?_)
 all_goals (unfold Ww;rw[Bool.eq_iff_iff];simp;omega)
def Me (n:Net) (i:Nat) (d:Domain):Bool :=
 Al d.dev n.devices.length && decide (1≤d.vlan) && decide (d.vlan≤4094) && decide (0≤d.vni) && decide (d.vni≤16777215) && (d.irb == -1 || Al d.irb n.irbs.length && (nth n.irbs d.irb).domain == i) && B7 n d.dev d.vlan == i
theorem bareS (n:Net) (i:Nat) (d:Domain) (hl:Aq n.domains):Sy.Spec Tryz.prog 71 [Ao n,Aa i,Ai d] [] (Ab (Me n i d)) []:=cT F71 Tryz.ntmps71 fun F hF=>by
 conv=>whnf
 (repeat' (first | (refine⟨fun h=>?_,fun h=>?_⟩<;>(repeat (first | simp only[Al]at h | simp only[decide_eq_true_eq]at h | simp only[decide_eq_false_iff_not]at h | simp only[beq_iff_eq]at h | simp only[beq_eq_false_iff_ne]at h | simp only[Bool.and_eq_true]at h | simp only[Bool.and_eq_false_iff]at h))<;>((refine oO ?_);repeat((first|refine aF ?_|refine aT ?_);(refine oO ?_)))) | (refine Ar rfl (.cons .tmp .nil) ?_ rfl) | (refine⟨z_,?_⟩;((conv=>whnf))) | (refine⟨by (omega),by (omega),?_⟩;((conv=>whnf))) | (refine c0 (Dw 5 Au n.devices d.dev) F81 ?_;((refine oO ?_))) | (refine c0 (Ym 5 By n.irbs d.irb) F170 ?_;((refine oO ?_))) | (refine c0 (I6 n d.dev d.vlan hl) F171 ?_;((refine oO ?_)))))
 all_goals (refine congrArg Ab ?_)
 all_goals (clear hF;grind [Me,Al,A7])
def Hj (n:Net) (d:Domain):Bool:=(nth n.devices d.dev).vtep != 0
theorem Ae2 (n:Net) (d:Domain) (hd:Al d.dev n.devices.length=true):Sy.Spec Tryz.prog 254 [Ao n,Ai d] [] (Ab (Hj n d)) []:=cT F254 Tryz.ntmps254 fun F hF=>by
 simp only[Al,Bool.and_eq_true,decide_eq_true_eq]at hd
 conv=>whnf
 (repeat' (first | (refine Ar rfl (.cons .tmp .nil) ?_ rfl) | (refine⟨z_,?_⟩;((conv=>whnf))) | (refine⟨by (omega),by (omega),?_⟩;((conv=>whnf)))))
 all_goals (refine congrArg Ab ?_)
 all_goals (clear hF;grind [Hj,A7])
def Kx (n:Net) (i:Nat) (d:Domain) (k:Int):Bool :=
 Al k n.domains.length && k != i && Al (nth n.domains k).dev n.devices.length && (nth n.domains k).dev != d.dev && (nth n.domains k).vni == d.vni && d.vni != 0 && Hj n (nth n.domains k) && Hj n d && inB (nth n.domains k).peers i
theorem peerS (n:Net) (i:Nat) (d:Domain) (k:Int) (hn:n.Fin) (hd:Al d.dev n.devices.length=true):Sy.Spec Tryz.prog 174 [Ao n,Aa i,Ai d,Aa k] [] (Ab (Kx n i d k)) []:=cT F174 Tryz.ntmps174 fun F hF=>by
 conv=>whnf
 (repeat' (first | (refine⟨fun h=>?_,fun h=>?_⟩<;>(repeat (first | simp only[Al]at h | simp only[decide_eq_true_eq]at h | simp only[decide_eq_false_iff_not]at h | simp only[beq_iff_eq]at h | simp only[beq_eq_false_iff_ne]at h | simp only[bne_iff_ne]at h | simp only[bne_eq_false_iff_eq]at h | simp only[Bool.and_eq_true]at h | simp only[Bool.and_eq_false_iff]at h | simp only[Bool.not_eq_true']at h | simp only[Bool.not_eq_false']at h))<;>((refine oO ?_);repeat((first|refine aF ?_|refine aT ?_);(refine oO ?_)))) | (refine Ar rfl (.cons .tmp .nil) ?_ rfl) | (refine⟨z_,?_⟩;((conv=>whnf))) | (refine⟨by (omega),by (omega),?_⟩;((conv=>whnf))) | (refine c0 (Ib 6 Ai n.domains k) F178 ?_;((refine oO ?_))) | (refine c0 (Dw 5 Au n.devices (n.domains[k.toNat]'q_).dev) F81 ?_;((refine oO ?_))) | (refine c0 (Ae2 n (n.domains[k.toNat]'q_) (by simp only[Al,Bool.and_eq_true,decide_eq_true_eq];omega)) F254 ?_;((refine oO ?_))) | (refine c0 (Ae2 n d hd) F254 ?_;((refine oO ?_))) | (refine c0 (Ir (n.domains[k.toNat]'q_).peers i (hn.peers _ (List.getElem_mem _))) F100 ?_;((refine oO ?_)))))
 all_goals (refine congrArg Ab ?_;clear hF;grind [Kx,Al,A7])
def Ic (n:Net) (i:Nat) (d:Domain):Bool:=Dp (fun at_ k=>Kx n i d k && Br (· == k) d.peers == at_) d.peers
theorem peers1 (n:Net) (i:Nat) (d:Domain) (at_:Nat) (k:Int) (hn:n.Fin) (hp:Aq d.peers) (hd:Al d.dev n.devices.length=true) :
  Sy.Spec Tryz.prog 173 [Aa at_,Aa k,.ref 8 (Ao n) 0,.ref 1 (Aa i) 0,.ref 6 (Ai d) 0] [] (Ab (Kx n i d k && Br (· == k) d.peers == at_)) []:=cT F173 Tryz.ntmps173 fun F hF=>by
 conv=>whnf
 (repeat' (first | (refine⟨fun h=>?_,fun h=>?_⟩<;>((refine oO ?_))) | (refine Ar rfl (.cons .tmp .nil) ?_ rfl) | (refine c0 (peerS n i d k hn hd) F174 ?_;((refine oO ?_))) | (refine c0 (Ac1 d.peers k hp) F175 ?_;((refine oO ?_)))))
 all_goals (refine congrArg Ab ?_;clear hF;grind)
theorem peersS (n:Net) (i:Nat) (d:Domain) (hn:n.Fin) (hp:Aq d.peers) (hd:Al d.dev n.devices.length=true):Sy.Spec Tryz.prog 72 [Ao n,Aa i,Ai d] [] (Ab (Ic n i d)) []:=cT F72 Tryz.ntmps72 fun F hF=>by
 conv=>whnf
 refine Bg 3 8 (Ao n) E E E ?_
 refine Bg 4 1 (Aa i) E E E ?_
 refine Bg 5 6 (Ai d) E E E ?_
 refine c0 (Adp d.peers (fun at_ k=>Kx n i d k && Br (· == k) d.peers == at_) 173 [] [.ref 8 (Ao n) 0,.ref 1 (Aa i) 0,.ref 6 (Ai d) 0] E (fun a ha=>⟨⟨_,_,F173⟩,peers1 n i d a d.peers[a] hn hp hd⟩) hp) F172 ?_
 refine oO ?_
 exact dN
def Cv (n:Net) (dev vlan:Int):Bool:=decide (0≤B7 n dev vlan)
def Ij (n:Net) (i:Nat) (p:Port):Bool :=
 Al p.dev n.devices.length && decide (0≤p.native) && decide (p.native≤4094) && (decide (p.tagged.length=0) || D0 p.tagged 1 4094) && !inB p.tagged p.native && !(p.native == 0 && decide (p.tagged.length=0)) &&
  Dp (fun _ v=>Cv n p.dev v) p.tagged && !(decide (0<p.native) && !Cv n p.dev p.native) &&
  (p.link == -1 || Al p.link n.links.length && ((nth n.links p.link).a == i || (nth n.links p.link).b == i))
theorem Yw (n:Net) (i:Nat) (p:Port) (hn:n.Fin) (hp:Aq p.tagged):Sy.Spec Tryz.prog 74 [Ao n,Aa i,A2 p] [] (Ab (Ij n i p)) []:=cT F74 Tryz.ntmps74 fun F hF=>by
 conv=>whnf
 (repeat' (first | (refine⟨fun h=>?_,fun h=>?_⟩<;>(repeat (first | simp only[Al]at h | simp only[decide_eq_true_eq]at h | simp only[decide_eq_false_iff_not]at h | simp only[beq_iff_eq]at h | simp only[beq_eq_false_iff_ne]at h | simp only[Bool.and_eq_true]at h | simp only[Bool.or_eq_true]at h | simp only[Bool.and_eq_false_iff]at h | simp only[Bool.or_eq_false_iff]at h | simp only[Bool.not_eq_true']at h | simp only[Bool.not_eq_false']at h))<;>((refine oO ?_);repeat((first|refine aF ?_|refine aT ?_);(refine oO ?_)))) | (refine Ar rfl (.cons .tmp .nil) ?_ rfl) | (refine c0 (Dw 5 Au n.devices p.dev) F81 ?_;((refine oO ?_))) | (refine c0 (Um p.tagged 4094 hp) F84 ?_;((refine oO ?_))) | (refine c0 (Ir p.tagged p.native hp) F100 ?_;((refine oO ?_)))))
 all_goals first | (refine congrArg Ab ?_;clear hF;grind [Ij,Al]) | skip
 all_goals (
  refine Bg 3 8 (Ao n) E E E ?_
  refine Bg 5 7 (A2 p) E E E ?_
  refine A6 p.tagged.length (fun j=>El (fun _ v=>Cv n p.dev v) p.tagged j) (fun j=>[(1,Aa i),(3,.ref 8 (Ao n) 0),(5,.ref 7 (A2 p) 0),(51,.sl 1 Aa p.tagged),(52,Aa p.tagged.length),(53,Aa j)]) (fun _=>[]) [] (Bc _ _) ⟨⟨E,E,E,E,E,E,E,E,E,E,E,E,Y⟩,Y,E,E⟩ ?_
  intro j hj hI
  have hsh:=hp
  unfold Aq at hsh
  ((first|refine rG Γ hm ?_|refine rD Γ hm z_ ?_);(conv=>whnf);repeat((first|refine aF ?_|refine aT ?_);(first|refine rG Γ hm ?_|refine rD Γ hm z_ ?_);conv=>whnf)))
 all_goals (
  (repeat' (first | (refine⟨fun h=>?_,fun h=>?_⟩<;>(repeat (first | simp only[Al]at h | simp only[decide_eq_true_eq]at h | simp only[decide_eq_false_iff_not]at h | simp only[beq_iff_eq]at h | simp only[beq_eq_false_iff_ne]at h | simp only[Bool.and_eq_true]at h | simp only[Bool.and_eq_false_iff]at h))<;>((refine oO ?_);repeat((refine aF ?_);(refine oO ?_)))) | (refine Ar rfl (.cons .tmp .nil) ?_ rfl) | (refine⟨z_,?_⟩;((conv=>whnf))) | (refine⟨by (omega),by (omega),?_⟩;((conv=>whnf))) | (refine⟨by (unfold I64;omega),?_⟩;((conv=>whnf))) | (refine c0 (I6 n p.dev (p.tagged[j]'q_) hn.domains) F171 ?_;((refine oO ?_))) | (refine c0 (I6 n p.dev p.native hn.domains) F171 ?_;((refine oO ?_))) | (refine c0 (V6 3 Bt n.links p.link) F176 ?_;((refine oO ?_))) | refine Bb [] hI q_ ?_ ⟨⟨rfl,rfl,rfl,rfl,rfl,rfl,rfl,rfl,rfl,rfl,rfl,rfl,trivial⟩,trivial,rfl,rfl⟩)))
 all_goals first
  | exact A8 hI q_ (by simp only[Cv,decide_eq_true_eq];omega)
  | (refine congrArg Ab ?_
     have h0:Dp (fun _ v=>Cv n p.dev v) p.tagged=false:=Bv (i:=j) q_ (by simp only[Cv,decide_eq_false_iff_not];omega)
     clear hF hI;grind [Ij])
  | (refine congrArg Ab ?_
     have h0:Dp (fun _ v=>Cv n p.dev v) p.tagged=true:=C4 hI q_
     clear hF hI;grind [Ij,Al,Cv,A7])
def Of (n:Net) (i:Nat) (l:Link):Bool :=
 Al l.a n.ports.length && Al l.b n.ports.length && (nth n.ports l.a).dev != (nth n.ports l.b).dev && (nth n.ports l.a).link == i && (nth n.ports l.b).link == i
theorem Yx (n:Net) (i:Nat) (l:Link):Sy.Spec Tryz.prog 76 [Ao n,Aa i,Bt l] [] (Ab (Of n i l)) []:=cT F76 Tryz.ntmps76 fun F hF=>by
 conv=>whnf
 (repeat' (first | (refine⟨fun h=>?_,fun h=>?_⟩<;>(repeat (first | simp only[Al]at h | simp only[decide_eq_true_eq]at h | simp only[decide_eq_false_iff_not]at h | simp only[beq_iff_eq]at h | simp only[beq_eq_false_iff_ne]at h | simp only[bne_iff_ne]at h | simp only[bne_eq_false_iff_eq]at h | simp only[Bool.and_eq_true]at h | simp only[Bool.and_eq_false_iff]at h | simp only[Bool.not_eq_true']at h | simp only[Bool.not_eq_false']at h))<;>((refine oO ?_);repeat((first|refine aF ?_|refine aT ?_);(refine oO ?_)))) | (refine Ar rfl (.cons .tmp .nil) ?_ rfl) | (refine⟨z_,?_⟩;((conv=>whnf))) | (refine⟨by (omega),by (omega),?_⟩;((conv=>whnf))) | (refine c0 (Ju 7 A2 n.ports l.a) F177 ?_;((refine oO ?_))) | (refine c0 (Ju 7 A2 n.ports l.b) F177 ?_;((refine oO ?_)))))
 all_goals (refine congrArg Ab ?_;clear hF;grind [Of,Al,A7])
def H3 (n:Net) (s:Static):Bool :=
 Al s.domain n.domains.length && Al s.port n.ports.length && (nth n.ports s.port).dev == (nth n.domains s.domain).dev && Cs (nth n.ports s.port) (nth n.domains s.domain).vlan
theorem U1 (n:Net) (i:Nat) (s:Static) (hn:n.Fin):Sy.Spec Tryz.prog 78 [Ao n,Aa i,A1 s] [] (Ab (H3 n s)) []:=cT F78 Tryz.ntmps78 fun F hF=>by
 conv=>whnf
 (repeat' (first | (refine⟨fun h=>?_,fun h=>?_⟩<;>(repeat (first | simp only[Al]at h | simp only[decide_eq_true_eq]at h | simp only[decide_eq_false_iff_not]at h | simp only[beq_iff_eq]at h | simp only[beq_eq_false_iff_ne]at h | simp only[Bool.and_eq_true]at h | simp only[Bool.and_eq_false_iff]at h | simp only[Bool.not_eq_true']at h | simp only[Bool.not_eq_false']at h))<;>((refine oO ?_);repeat((refine aT ?_);(refine oO ?_)))) | (refine Ar rfl (.cons .tmp .nil) ?_ rfl) | (refine⟨z_,?_⟩;((conv=>whnf))) | (refine⟨by (omega),by (omega),?_⟩;((conv=>whnf))) | (refine c0 (Ib 6 Ai n.domains s.domain) F178 ?_;((refine oO ?_))) | (refine c0 (Ju 7 A2 n.ports s.port) F177 ?_;((refine oO ?_))) | (refine c0 (Ux (n.ports[s.port.toNat]'q_) (n.domains[s.domain.toNat]'q_).vlan (hn.tagged _ (List.getElem_mem _))) F179 ?_;((refine oO ?_)))))
 all_goals (refine congrArg Ab ?_;clear hF;grind [H3,Al,A7])
def U2 (n:Net) (i:Nat) (x:Irb):Bool :=
 Al x.domain n.domains.length && Al x.vrf n.vrfs.length && (nth n.domains x.domain).dev == (nth n.vrfs x.vrf).dev && (nth n.domains x.domain).irb == i && decide (1≤x.bits) && decide (x.bits≤30)
theorem Aa8 (n:Net) (i:Nat) (x:Irb):Sy.Spec Tryz.prog 86 [Ao n,Aa i,By x] [] (Ab (U2 n i x)) []:=cT F86 Tryz.ntmps86 fun F hF=>by
 conv=>whnf
 (repeat' (first | (refine⟨fun h=>?_,fun h=>?_⟩<;>(repeat (first | simp only[Al]at h | simp only[decide_eq_true_eq]at h | simp only[decide_eq_false_iff_not]at h | simp only[beq_iff_eq]at h | simp only[beq_eq_false_iff_ne]at h | simp only[Bool.and_eq_true]at h | simp only[Bool.and_eq_false_iff]at h))<;>((refine rd z_ ?_);(conv=>whnf);repeat((refine aF ?_);(refine rd z_ ?_);(conv=>whnf)))) | (refine Ar rfl (.cons .tmp .nil) ?_ rfl) | (refine⟨z_,?_⟩;((conv=>whnf))) | (refine⟨by (omega),by (omega),?_⟩;((conv=>whnf))) | (refine cD (Ib 6 Ai n.domains x.domain) F178 ?_;((refine rd z_ ?_);(conv=>whnf))) | (refine cD (Yl 5 Bz n.vrfs x.vrf) F181 ?_;((refine rd z_ ?_);(conv=>whnf)))))
 all_goals (refine congrArg Ab ?_;clear hF;grind [U2,Al,A7])
def Ht (n:Net) (f:Flood):Bool:=Al f.dev n.devices.length && decide (f.addrs.length≤16)
theorem right1 (n:Net) (i:Nat) (f:Flood):Sy.Spec Tryz.prog 80 [Aa i,A3 f,.ref 8 (Ao n) 0] [] (Ab (Ht n f)) []:=cT F80 Tryz.ntmps80 fun F hF=>by
 conv=>whnf
 (repeat' (first | (refine⟨fun h=>?_,fun h=>?_⟩<;>(repeat (first | simp only[Al]at h | simp only[decide_eq_true_eq]at h | simp only[decide_eq_false_iff_not]at h | simp only[Bool.and_eq_true]at h | simp only[Bool.and_eq_false_iff]at h))<;>((refine oO ?_))) | (refine Ar rfl (.cons .tmp .nil) ?_ rfl) | (refine c0 (Dw 5 Au n.devices f.dev) F81 ?_;((refine oO ?_)))))
 all_goals (refine congrArg Ab ?_;clear hF;grind [Ht,Al])
def Jo (l:List Int) (most:Int):Bool:=decide (l.length=0) || D0 l 1 most
def Vn (n:Net) (v:Vrf):Bool:=Al v.dev n.devices.length && Jo v.imports 65535 && Jo v.exports 65535
theorem right2 (n:Net) (i:Nat) (v:Vrf) (h1:Aq v.imports) (h2:Aq v.exports):Sy.Spec Tryz.prog 83 [Aa i,Bz v,.ref 8 (Ao n) 0] [] (Ab (Vn n v)) []:=cT F83 Tryz.ntmps83 fun F hF=>by
 conv=>whnf
 (repeat' (first | (refine⟨fun h=>?_,fun h=>?_⟩<;>(repeat (first | simp only[Al]at h | simp only[decide_eq_true_eq]at h | simp only[decide_eq_false_iff_not]at h | simp only[Bool.and_eq_true]at h | simp only[Bool.or_eq_true]at h | simp only[Bool.and_eq_false_iff]at h | simp only[Bool.or_eq_false_iff]at h))<;>((refine oO ?_);repeat((refine aF ?_);(refine oO ?_)))) | (refine Ar rfl (.cons .tmp .nil) ?_ rfl) | (refine c0 (Dw 5 Au n.devices v.dev) F81 ?_;((refine oO ?_))) | (refine c0 (Um v.imports 65535 h1) F84 ?_;((refine oO ?_))) | (refine c0 (Um v.exports 65535 h2) F84 ?_;((refine oO ?_)))))
 all_goals (refine congrArg Ab ?_;clear hF;grind [Vn,Jo,Al])
def Af (n:Net):Bool :=
 Ww n && Dp (Me n) n.domains && Dp (Ic n) n.domains && Dp (Ij n) n.ports && Dp (Of n) n.links && Dp (fun _=>H3 n) n.statics && Dp (fun _=>Ht n) n.floods && Dp (fun _=>Vn n) n.vrfs && Dp (U2 n) n.irbs
theorem Adm {n:Net} (h:Dp (Me n) n.domains=true) {i:Nat} (hi:i<n.domains.length):Al n.domains[i].dev n.devices.length=true:=by
 have:=allB_iff.1 h i hi
 simp only[Me,Bool.and_eq_true]at this
 exact this.1.1.1.1.1.1
theorem Bn (n:Net) (hn:n.Fin):Sy.Spec Tryz.prog 25 [Ao n] [] (Ab (Af n)) []:=cT F25 Tryz.ntmps25 fun F hF=>by
 conv=>whnf
 refine Bg 1 8 (Ao n) E E E ?_
 (repeat' (first | (refine⟨fun h=>?_,fun h=>?_⟩<;>((refine oO ?_);repeat((refine aF ?_);(refine oO ?_)))) | (refine Ar rfl (.cons .tmp .nil) ?_ rfl) | (refine c0 (fewS n) F69 ?_;((refine oO ?_))) | (refine c0 (Ot n.domains (Me n) 71 [Ao n] [] rfl (fun i h=>⟨⟨_,_,F71⟩,bareS n i n.domains[i] hn.domains⟩) hn.domains) F70 ?_;((refine oO ?_))) | (refine Jh (Ot n.domains (Ic n) 72 [Ao n] [] rfl (fun i h=>⟨⟨_,_,F72⟩,peersS n i n.domains[i] hn (hn.peers _ (List.getElem_mem _)) (Adm ‹_› h)⟩) hn.domains) F70 rfl rfl rfl rfl rfl ?_;((refine oO ?_))) | (refine Jh (Abk n.ports (Ij n) 74 [Ao n] [] rfl (fun i h=>⟨⟨_,_,F74⟩,Yw n i n.ports[i] hn (hn.tagged _ (List.getElem_mem _))⟩) hn.ports) F73 rfl rfl rfl rfl rfl ?_;((refine oO ?_))) | (refine c0 (Abl n.links (Of n) 76 [Ao n] [] rfl (fun i h=>⟨⟨_,_,F76⟩,Yx n i n.links[i]⟩) hn.links) F75 ?_;((refine oO ?_))) | (refine c0 (Xc n.statics (fun _=>H3 n) 78 [Ao n] [] rfl (fun i h=>⟨⟨_,_,F78⟩,U1 n i n.statics[i] hn⟩) hn.statics) F77 ?_;((refine oO ?_))) | (refine c0 (Ze n.floods (fun _=>Ht n) 80 [] [.ref 8 (Ao n) 0] rfl (fun i h=>⟨⟨_,_,F80⟩,right1 n i n.floods[i]⟩) hn.floods) F79 ?_;((refine oO ?_))) | (refine Jh (Adq n.vrfs (fun _=>Vn n) 83 [] [.ref 8 (Ao n) 0] rfl (fun i h=>⟨⟨_,_,F83⟩,right2 n i n.vrfs[i] (hn.imports _ (List.getElem_mem _)) (hn.exports _ (List.getElem_mem _))⟩) hn.vrfs) F82 rfl rfl rfl rfl rfl ?_;((refine oO ?_))) | (refine c0 (Adr n.irbs (U2 n) 86 [Ao n] [] rfl (fun i h=>⟨⟨_,_,F86⟩,Aa8 n i n.irbs[i]⟩) hn.irbs) F85 ?_;((refine oO ?_)))))
 all_goals (refine congrArg Ab ?_)
 all_goals (clear hF;simp_all[Af])
def orI:List Int→Int
 | []=>0
 | x::l=>if x=0 then orI l else x
end Go.Sy.YtjenpnjajjplkaaGreatDoor
namespace Go.Sy.YtjenpnjajjplkaaGreatDoor
open Go.Proofs
structure LineM where
 row:Int
 kind:Int
 dev:ByteArray
 port:ByteArray
 peer:ByteArray
 far:ByteArray
 name:ByteArray
 mac:Int
 addr:Int
 bits:Int
 vlan:Int
 num:Int
 cost:Int
 tagged:List Int
 imports:List Int
 exports:List Int
 addrs:List Int
def Ba (l:LineM):List SV:=[Aa l.row,Aa l.kind,Ah l.dev,Ah l.port,Ah l.peer,Ah l.far,Ah l.name,Dv l.mac,A9 l.addr,Aa l.bits,Aa l.vlan,Aa l.num,Aa l.cost,.sl 1 Aa l.tagged,.sl 1 Aa l.imports,.sl 1 Aa l.exports,.sl 1 A9 l.addrs]
def Aj (l:LineM):SV:=.agg [Aa l.row,Aa l.kind,Ah l.dev,Ah l.port,Ah l.peer,Ah l.far,Ah l.name,Dv l.mac,A9 l.addr,Aa l.bits,Aa l.vlan,Aa l.num,Aa l.cost,.sl 1 Aa l.tagged,.sl 1 Aa l.imports,.sl 1 Aa l.exports,.sl 1 A9 l.addrs]
theorem Acg (x:Int) (l:List Int):orI (x::l)=Vu x (orI l):=by
 rw[orI];unfold Vu;split<;>simp_all
theorem CmpOK.const {α:Type}:CmpOK (fun _ _:α=>(0:Int)):=⟨fun _ _=>by simp,fun _ _ _ _ _=>by simp⟩
theorem CmpOK.or {α:Type} {c:α→α→Int} {d:α→α→List Int} (hc:CmpOK c) (hd:CmpOK (fun x y=>orI (d x y))):CmpOK (fun x y=>orI (c x y::d x y)):=by
 have h:=hc.then hd
 simp only[Acg]
 exact h
end Go.Sy.YtjenpnjajjplkaaGreatDoor
namespace Go.Sy
theorem Z6 {κ:Ka} {w:World} {x:SV}:∀ {l:List SV} {cs:List Value} {i:Nat},RdL κ w l cs→(∀ y v,l[i]? = some y→Rd κ w y v→Rd κ w x v)→RdL κ w (l.set i x) cs
 | [],_,_,h,_=>h
 | y::l,cs,0,h,hx=>by
  simp only[RdL,List.set_cons_zero]at h ⊢
  obtain ⟨v,r,e1,e2,e3⟩:=h
  exact⟨v,r,e1,hx y v E e2,e3⟩
 | y::l,cs,i+1,h,hx=>by
  simp only[RdL,List.set_cons_succ]at h ⊢
  obtain ⟨v,r,e1,e2,e3⟩:=h
  exact⟨v,r,e1,e2,Z6 e3 (fun z u hz hu=>hx z u hz hu)⟩
theorem Xi {C:Cx} {k:List KI} {s:SS} (b i d sz:Nat) {α:Type} (e:α→SV) {l:List SV} (hb:s.h b=.box l) (h:l[i]? = some (.val (.slice none 0 0))) (hd:s.h d=.fresh) (hbd:Nat.beq b d=false)
  (hg:G C k ⟨s.σ,upd (upd s.h b (.box (l.set i (.osl d)))) d (.row sz e [])⟩):G C k s:=fun κ a w hs=>by
 have hne:b≠d:=fun e=>by rw[e,Nat.beq_refl]at hbd;cases hbd
 have hnew:κ d=.new:=by have:=hs.obj d;rwa [hd]at this
 obtain ⟨st,inv⟩:=Hk hs.inv hnew (e:=.nil) (Grew.refl w) (fun b hb=>by cases hb)
 refine hg (Dg κ d .nil) a w ⟨hs.defers,hs.size,inv,hs.ctx.step inv st,fun j=>Rd.step st _ _ (hs.slot j),fun j=>?_⟩
 show ObOK _ w j (upd (upd s.h b (.box (l.set i (.osl d)))) d (.row sz e []) j)
 by_cases hj:j=d
 ·subst hj;rw[B4];exact .inl ⟨As _ _ _,rfl⟩
 ·rw[Cn _ _ hj]
  by_cases hjb:j=b
  ·subst hjb
   rw[B4]
   have:=ObOK.step st hj _ (hs.obj j)
   rw[hb]at this
   obtain ⟨b',cs,T,fr,e1,e2,e3,e4,e5⟩:=this
   refine⟨b',cs,T,fr,e1,e2,e3,e4,Z6 e5 fun y v hy hv=>?_⟩
   rw[h]at hy
   cases hy
   simp only[Rd]at hv
   simp only[Rd,As]
   exact hv
  ·rw[Cn _ _ hjb];exact ObOK.step st hj _ (hs.obj j)
theorem Kl {P:Program} (w:World) {t e:TypeId} (h:P.underlying t=some (.slice e)) (ad:Option Addr) (n cap c1 c2:Nat):(Op.equal t (.slice ad n cap) (.slice none c1 c2)).run P w=.ok ad.isNone w:=by
 have key:∀ d,(Op.equalIn (d+1) t (.slice ad n cap) (.slice none c1 c2)).run P w=.ok ad.isNone w:=fun d=>by
  cases ad<;>simp[Op.equalIn,run_underlying h]
 exact key 9999
inductive NilT (s:SS):SV→List Nat→Nat→Prop
 | sl {sz:Nat} {α:Type} {e:α→SV} {l:List α}:NilT s (.sl sz e l) [] l.length
 | row {k sz:Nat} {α:Type} {e:α→SV} {l:List α} (h:s.h k=.row sz e l):NilT s (.osl k) [k] l.length
theorem NilT.at {C:Cx} {s:SS} {κ:Ka} {a:Act} {w:World} {x:Operand} {rd:List Nat} {n:Nat} (hs:St C.F C.n s κ a w) (hx:NilT s (ev s x) rd n):∃ (ad:Option Addr) (m cap:Nat),a.eval x=.slice ad m cap∧(ad.isNone=true→n=0):=by
 have h1:Rd κ w (ev s x) (a.eval x):=hs.ev x
 generalize ev s x=y at *
 cases hx with
 | @sl sz α e l =>
  simp only[Rd,RdD]at h1
  rcases h1 with ⟨rfl,a',cap,h1⟩ | ⟨b,off,cap,h1,_⟩
  ·exact⟨_,_,_,h1,fun _=>rfl⟩
  ·exact⟨_,_,_,h1,fun h=>by cases h⟩
 | @row k' sz α e l hr =>
  have hob:=hs.obj k'
  rw[hr]at hob
  simp only[Rd]at h1
  rcases hob with ⟨hκ,hl⟩ | ⟨b,cap,_,_,_,hκ,_⟩
  ·rw[hκ]at h1
   exact⟨_,_,_,h1,fun _=>by rw[hl];rfl⟩
  ·rw[hκ]at h1
   exact⟨_,_,_,h1,fun h=>by cases h⟩
theorem D8 {C:Cx} {k:List KI} {s:SS} {all:Array Oper} {o:Oper} {rest:List Oper} {op:BinOp} {t yt:TypeId} {ti:TI} {et:TypeId} {sz eb n:Nat} {ez:List Value} {x y:Operand} {rd:List Nat} (h:o.op=.binOp op t x y yt) (hop:op=.eql∨op=.neq)
  (ht:C.Γ.get t=some ti) (hk:ti.k=.slice et sz eb ez) (hy:ev s y=.val (.slice none 0 0)) (hx:NilT s (ev s x) rd n) (hd:K6 C.n o=true) (hw:Dq C.n all o s=some true)
  (hg:∀ b:Bool,(b=true→n=0)→G C (.ops all rest::k) (s.upd o.dst ⟨.val (.bool (if op=.eql then b else !b)),rd,[]⟩)):G C (.ops all (o::rest)::k) s:=fun κ a w hs=>by
 have h2:Rd κ w (ev s y) (a.eval y):=hs.ev y
 rw[hy]at h2
 obtain ⟨ad,m,cap,e1,e2⟩:=hx.at hs
 obtain ⟨d,info,z,k1,k2,_⟩:=C.Γ.ok t ti ht
 rw[hk]at k2
 simp only[TK.ok]at k2
 have hrun:=Kl (P:=C.P) w (t:=t) (e:=et) (by first | exact k2.1 ▸ k1 | (rw[k1,k2.1])) ad m cap 0 0
 have hG:=hg ad.isNone e2
 have hv:=h2.val
 refine wpList_step fun K hK=>?_
 rw[if_pos (Kc hs (Cw hw).2 (Cw hw).1)]
 have hx':(execOp a.eval o).run C.P w=.ok (.value (.bool (if op=.eql then ad.isNone else !ad.isNone))) w:=by
  rcases hop with rfl | rfl<;>simp[execOp,h,e1,hv,eqGuard,binOp,hrun]
 simp only[Oper.wp,hx',Oper.upon]
 exact hK _ _ (hG κ _ w (hs.put (U:=⟨.val (.bool (if op=.eql then ad.isNone else !ad.isNone)),rd,[]⟩) (Sj hd) (Step.refl _ κ w) hs.inv (by simp[Rd]) (fun p hp=>by cases hp)))
def KeepL (s:SS):List (Nat × Ob)→Prop
 | []=>True
 | (k,o)::r=>s.h k=o∧KeepL s r
theorem KeepL.all {s:SS}:∀ {l:List (Nat × Ob)},KeepL s l→∀ p∈l,s.h p.1=p.2
 | [],_,p,hp=>by cases hp
 | (k,o)::r,h,p,hp=>by
  rcases List.mem_cons.1 hp with rfl | hp
  ·exact h.1
  ·exact KeepL.all h.2 p hp
theorem Tk {κ:Ka} {w w':World} (hi:Inv κ w) (g:Grew w w'):Step (fun _=>False) κ w κ w'∧Inv κ w' :=
 ⟨⟨g.size,g.os,g.tape,g.output,rfl,fun b hb=>g.blk b (hi.mbnd b hb),fun b hb _=>g.blk b hb,fun k b _ hb=>g.blk b (hi.bnd k b hb),fun _ _=>rfl,fun _ h=>h.elim,fun _ h=>.inl h⟩,
  ⟨hi.inj,fun k b h=>Nat.lt_of_lt_of_le (hi.bnd k b h) g.size,hi.apart,fun b h=>Nat.lt_of_lt_of_le (hi.mbnd b h) g.size⟩⟩
theorem Spec.of_calls {P:Program} {f:FuncId} {A:List SV} {H:Obs} {u:Value}
  (h:∀ (κ:Ka) (w:World) (vs:List Value),Inv κ w→RdL κ w A vs→H.ok κ w→Calls P f vs.toArray w fun e w'=>e=.returned u∧RowKit.Below w.heap.size w w'):Spec P f A H (.val u) H:=by
 intro κ w vs hi _ hr ho
 refine(h κ w vs hi hr ho).mono fun e w' hw=>?_
 obtain ⟨he,hw⟩:=hw
 have g:Grew w w':=⟨hw.os,hw.tape,hw.output,hw.size,hw.block⟩
 have st:=Tk hi g
 exact⟨u,κ,he,(Ctx.refl κ w).step st.2 st.1,st.2,by simp[Rd],fun p hp=>ObOK.step st.1 y_ p.2 (ho p hp)⟩
theorem Sa {P:Program} {o:Oper} {s:SS} {x y:Operand} {at_:Array TypeId} {k k':IntKind} {m n:Int} (h:o.op=.call ⟨.builtin .min,#[x,y],at_⟩)
  (hx:ev s x=.val (.int k m)) (hy:ev s y=.val (.int k' n)):Good P o s ⟨.val (.int k (if n<m then n else m)),[],[]⟩ :=
 Good.pure fun κ a w _ hr ho=>by
  have h1:=hr x (by simp[h,Op.operands,Call.operands])
  have h2:=hr y (by simp[h,Op.operands,Call.operands])
  rw[hx]at h1
  rw[hy]at h2
  refine⟨.int k (if n<m then n else m),?_,by simp[Rd]⟩
  simp[execOp,h,resolve,invoke,builtin,Builtin.min_,Builtin.min2,h1.val,h2.val]
end Go.Sy
namespace Go.Proofs
open Go.Shelf
open Go.RowKit in
open Go.RowKit in
open Go.RowKit in
def Tryz.lays219_ren:Go.Shelf.Ren:=⟨fun | 219=>289 | 217=>290 | 225=>351 | 224=>352 | 267=>353 | 266=>354 | 314=>416 | n=>n,fun | 9=>9 | 3=>3 | 4=>4 | 5=>5 | 46=>275 | 146=>403 | 51=>62 | n=>n,fun | 1=>2 | n=>n⟩
theorem Tryz.lays219:Go.Proofs.Lays.n219 Tryz.prog Tryz.lays219_ren:={
 mixed:=by kernel_rfl
 f217:=Tryz.func290.trans (congrArg some Go.Sy.z_)
 f219:=Tryz.func289.trans (congrArg some Go.Sy.z_)
 f224:=Tryz.func352.trans (congrArg some Go.Sy.z_)
 f225:=Tryz.func351.trans (congrArg some Go.Sy.z_)
 f266:=Tryz.func354.trans (congrArg some Go.Sy.z_)
 f267:=Tryz.func353.trans (congrArg some Go.Sy.z_)
 f314:=Tryz.func416.trans (congrArg some Go.Sy.z_)
 t3:=Tryz.underlying3
 a3:=Tryz.isAgg3
 z3:=Tryz.sizeOf3
 v3:=Tryz.zeroValue3
 t4:=Tryz.underlying4
 a4:=Tryz.isAgg4
 z4:=Tryz.sizeOf4
 v4:=Tryz.zeroValue4
 t5:=Tryz.underlying5
 a5:=Tryz.isAgg5
 z5:=Tryz.sizeOf5
 v5:=Tryz.zeroValue5
 t9:=Tryz.underlying9
 a9:=Tryz.isAgg9
 z9:=Tryz.sizeOf9
 v9:=Tryz.zeroValue9
 t46:=Tryz.underlying275
 a46:=Tryz.isAgg275
 z46:=Tryz.sizeOf275
 v46:=Tryz.zeroValue275
 t51:=Tryz.underlying62
 a51:=Tryz.isAgg62
 z51:=Tryz.sizeOf62
 v51:=Tryz.zeroValue62
 t146:=Tryz.underlying403
 a146:=Tryz.isAgg403
 z146:=Tryz.sizeOf403
 v146:=Tryz.zeroValue403
 g1:=by kernel_rfl }
open Go.RowKit Go.Lib in
theorem Tryz.stringslite_Index_one (s:ByteArray) (c:UInt8) (w:World) :
  Calls Tryz.prog 289 #[.string s,.string ⟨#[c]⟩] w fun e w'=>e=.returned (.int .i64 (Lib.indexByte s.data.toList c))∧w'=w:=Any.stringslite_Index_one Tryz.lays219 s c w
def Tryz.lays143_ren:Go.Shelf.Ren:=⟨fun | 143=>261 | 219=>289 | 217=>290 | 225=>351 | 224=>352 | 267=>353 | 266=>354 | 314=>416 | n=>n,fun | 9=>9 | 3=>3 | 4=>4 | 5=>5 | 46=>275 | 146=>403 | 51=>62 | n=>n,fun | 1=>2 | n=>n⟩
theorem Tryz.lays143:Go.Proofs.Lays.n143 Tryz.prog Tryz.lays143_ren:={
 mixed:=by kernel_rfl
 f143:=Tryz.func261.trans (congrArg some Go.Sy.z_)
 f217:=Tryz.func290.trans (congrArg some Go.Sy.z_)
 f219:=Tryz.func289.trans (congrArg some Go.Sy.z_)
 f224:=Tryz.func352.trans (congrArg some Go.Sy.z_)
 f225:=Tryz.func351.trans (congrArg some Go.Sy.z_)
 f266:=Tryz.func354.trans (congrArg some Go.Sy.z_)
 f267:=Tryz.func353.trans (congrArg some Go.Sy.z_)
 f314:=Tryz.func416.trans (congrArg some Go.Sy.z_)
 t3:=Tryz.underlying3
 a3:=Tryz.isAgg3
 z3:=Tryz.sizeOf3
 v3:=Tryz.zeroValue3
 t4:=Tryz.underlying4
 a4:=Tryz.isAgg4
 z4:=Tryz.sizeOf4
 v4:=Tryz.zeroValue4
 t5:=Tryz.underlying5
 a5:=Tryz.isAgg5
 z5:=Tryz.sizeOf5
 v5:=Tryz.zeroValue5
 t9:=Tryz.underlying9
 a9:=Tryz.isAgg9
 z9:=Tryz.sizeOf9
 v9:=Tryz.zeroValue9
 t46:=Tryz.underlying275
 a46:=Tryz.isAgg275
 z46:=Tryz.sizeOf275
 v46:=Tryz.zeroValue275
 t51:=Tryz.underlying62
 a51:=Tryz.isAgg62
 z51:=Tryz.sizeOf62
 v51:=Tryz.zeroValue62
 t146:=Tryz.underlying403
 a146:=Tryz.isAgg403
 z146:=Tryz.sizeOf403
 v146:=Tryz.zeroValue403
 g1:=by kernel_rfl }
open Go.RowKit Go.Lib in
theorem Tryz.strings_Index_one (s:ByteArray) (c:UInt8) (w:World) :
  Calls Tryz.prog 261 #[.string s,.string ⟨#[c]⟩] w fun e w'=>e=.returned (.int .i64 (Lib.indexByte s.data.toList c))∧w'=w:=Any.strings_Index_one Tryz.lays143 s c w
open Go.RowKit Go.Lib in
def Tryz.lays101_ren:Go.Shelf.Ren:=⟨fun | 101=>209 | 208=>291 | 206=>355 | n=>n,fun | 9=>9 | 4=>4 | 3=>3 | n=>n,fun | n=>n⟩
theorem Tryz.lays101:Go.Proofs.Lays.n101 Tryz.prog Tryz.lays101_ren:={
 mixed:=by kernel_rfl
 f101:=Tryz.func209.trans (congrArg some Go.Sy.z_)
 f206:=Tryz.func355.trans (congrArg some Go.Sy.z_)
 f208:=Tryz.func291.trans (congrArg some Go.Sy.z_)
 t3:=Tryz.underlying3
 a3:=Tryz.isAgg3
 z3:=Tryz.sizeOf3
 v3:=Tryz.zeroValue3
 t4:=Tryz.underlying4
 a4:=Tryz.isAgg4
 z4:=Tryz.sizeOf4
 v4:=Tryz.zeroValue4
 t9:=Tryz.underlying9
 a9:=Tryz.isAgg9
 z9:=Tryz.sizeOf9
 v9:=Tryz.zeroValue9 }
open Go.RowKit Go.Lib in
theorem Tryz.strings_TrimPrefix (s p:ByteArray) (w:World) :
  Calls Tryz.prog 209 #[.string s,.string p] w fun e w'=>e=.returned (.string ⟨(Lib.trimPrefix s.data.toList p.data.toList).toArray⟩)∧w'=w:=Any.strings_TrimPrefix Tryz.lays101 s p w
end Go.Proofs
namespace Go.Sy.YtjenpnjajjplkaaGreatDoor
open Go.Proofs
def Ez (c:UInt8) (l:List UInt8):Nat:=(Lib.indexByte l c).toNat
def Bo (c:UInt8) (l:List UInt8):Nat→List UInt8
 | 0=>l
 | j+1=>(Bo c l j).drop (Ez c (Bo c l j)+1)
def Jv (c:UInt8) (l:List UInt8) (j:Nat):List UInt8:=(Bo c l j).take (Ez c (Bo c l j))
def mkT (l:List UInt8):ByteArray:=⟨l.toArray⟩
def Bj (c:UInt8) (s:ByteArray):List ByteArray :=
 (List.range (s.data.toList.count c)).map (fun j=>mkT (Jv c s.data.toList j))++[mkT (Bo c s.data.toList (s.data.toList.count c))]
theorem D5:∀ {l:List UInt8} {c:UInt8},c∈l→0≤Lib.indexByte l c∧(Lib.indexByte l c).toNat<l.length
 | b::l,c,h=>by
  unfold Lib.indexByte
  by_cases hb:b == c
  ·rw[if_pos hb];simp
  ·rw[if_neg hb]
   have hm':c∈l:=by
    rcases List.mem_cons.1 h with h | h
    ·exact absurd (by simp[h]) hb
    ·exact h
   have:=D5 hm'
   rw[if_neg (by simp;omega)]
   simp only[List.length_cons]
   omega
theorem Jb:∀ {l:List UInt8} {c:UInt8},c∈l→(l.drop (Ez c l+1)).count c+1=l.count c
 | b::l,c,h=>by
  unfold Ez Lib.indexByte
  by_cases hb:b == c
  ·rw[if_pos hb,List.count_cons,if_pos hb];simp
  ·rw[if_neg hb]
   have hm':c∈l:=by
    rcases List.mem_cons.1 h with h | h
    ·exact absurd (by simp[h]) hb
    ·exact h
   have h1:=D5 hm'
   rw[if_neg (by simp;omega),List.count_cons,if_neg hb,Nat.add_zero,← Jb hm']
   have e:(Lib.indexByte l c+1).toNat=Ez c l+1:=by unfold Ez;omega
   rw[e,List.drop_succ_cons]
theorem Lf (c:UInt8) (l:List UInt8):∀ j,j≤l.count c→(Bo c l j).count c+j=l.count c
 | 0,_=>rfl
 | j+1,h=>by
  have ih:=Lf c l j q_
  have hm':c∈Bo c l j:=List.count_pos_iff.1 q_
  have:=Jb hm'
  rw[Bo]
  omega
theorem Yg {c:UInt8} {l:List UInt8} {j:Nat} (h:j<l.count c):c∈Bo c l j :=
 List.count_pos_iff.1 (by have:=Lf c l j q_;omega)
def Za (c:UInt8) (s:ByteArray):Nat:=s.data.toList.count c
theorem Es (c:UInt8) (s:ByteArray):(Bj c s).length=Za c s+1:=by simp only[Bj,List.length_append,List.length_map,List.length_range,List.length_singleton];rfl
theorem Vz (c:UInt8) (l:List UInt8):∀ j,(Bo c l j).length≤l.length
 | 0=>Nat.le_refl _
 | j+1=>by rw[Bo,List.length_drop];have:=Vz c l j;omega
theorem Sg {a b:ByteArray} (h:a.data.toList=b.data.toList):a=b:=by
 cases a;cases b;simp only[ByteArray.mk.injEq];exact Array.toList_inj.1 h
theorem Dk (l:List UInt8):(mkT l).size=l.length:=by simp[mkT,ByteArray.size]
theorem Ed (l:List UInt8):(mkT l).data.toList=l:=by simp[mkT]
theorem Ck (l:List UInt8) (i j:Nat):(mkT l).extract i j=mkT ((l.take j).drop i):=by
 apply Sg
 simp[mkT,ByteArray.data_extract,List.extract_eq_take_drop,List.drop_take]
theorem Ec (s:ByteArray):mkT s.data.toList=s:=Sg (by simp[mkT])
theorem Acc {c:UInt8} {s:ByteArray} {j m:Nat} (h:Lib.indexByte (Bo c s.data.toList j) c=m):Jv c s.data.toList j=(Bo c s.data.toList j).take m:=by
 rw[Jv,Ez,h,Int.toNat_natCast]
theorem Ad5 {c:UInt8} {s:ByteArray} {j m:Nat} (h:Lib.indexByte (Bo c s.data.toList j) c=m):Bo c s.data.toList (j+1)=(Bo c s.data.toList j).drop (m+1):=by
 rw[Bo,Ez,h,Int.toNat_natCast]
end Go.Sy.YtjenpnjajjplkaaGreatDoor
namespace Go.Sy.YtjenpnjajjplkaaGreatDoor
open Go.Proofs
attribute [local irreducible] Go.Sy.G Go.Sy.DR
set_option maxRecDepth 20000
set_option maxHeartbeats 4000000
def Ek (c:UInt8):Bool:=decide (48≤c.toNat) && decide (c.toNat≤57)
def K8 (s:ByteArray):Nat→Int
 | 0=>0
 | j+1=>10 * K8 s j+((A0 s j).toNat-48)
def W6 (s:ByteArray):Bool:=(List.range s.size).all fun i=>Ek (A0 s i)
def smallT (s:ByteArray) (most:Int):Int × Bool :=
 if s.size=0∨3<s.size∨(1<s.size∧(A0 s 0).toNat=48)∨W6 s=false then (0,false) else (K8 s s.size,decide (K8 s s.size≤most))
theorem L8 {s:ByteArray} {i:Nat} (hi:i<s.size) (h:Ek (A0 s i)=false):W6 s=false:=by
 rw[W6,List.all_eq_false]
 exact⟨i,by simpa using hi,by simp[h]⟩
theorem T5 {s:ByteArray} (h:∀ i,i<s.size→Ek (A0 s i)=true):W6 s=true:=by
 rw[W6,List.all_eq_true]
 intro i hi
 exact h i (by simpa using hi)
theorem digB_iff {c:UInt8}:Ek c=true↔48≤c.toNat∧c.toNat≤57:=by simp[Ek]
theorem Uh {s:ByteArray}:∀ {j:Nat},(∀ i,i<j→Ek (A0 s i)=true)→0≤K8 s j∧K8 s j<10 ^ j
 | 0,_=>by simp[K8]
 | j+1,h=>by
  have ih:=Uh (s:=s) (j:=j) (fun i hi=>h i q_)
  have hd:=digB_iff.1 (h j q_)
  rw[K8]
  have e:(10:Int) ^ (j+1)=10 * 10 ^ j:=by rw[Int.pow_succ];omega
  rw[e]
  omega
theorem Abw {n:Nat} (h:48≤n) (h2:n<256):IntKind.u8.wrap ((n:Int)-48)=(n:Int)-48:=by
 rw[IntKind.wrap_u8]
 omega
theorem Ac4 {n:Int} (h:0≤n) (h2:n<256):IntKind.i64.wrap n=n:=by
 rw[IntKind.wrap_i64]
 omega
theorem Sq (s:ByteArray) (most:Int):Sy.Spec Tryz.prog 304 [Ah s,Aa most] [] (.tup [Aa (smallT s most).1,Ab (smallT s most).2]) []:=cT F304 Tryz.ntmps304 fun F hF=>by
 have hlk:=smallT.eq_1 s most
 generalize smallT s most=res at *
 ((conv=>whnf);repeat((first|refine aF ?_|refine aT ?_);(first|refine rG Γ hm ?_|refine rD Γ hm z_ ?_);conv=>whnf))
 refine⟨fun h=>?_,fun h=>?_⟩
 ·have h1:s.size=0:=by simpa using h
  rw[if_pos (.inl h1)]at hlk
  subst hlk
  ((first|refine rG Γ hm ?_|refine rD Γ hm z_ ?_);(conv=>whnf);repeat((first|refine aF ?_|refine aT ?_);(first|refine rG Γ hm ?_|refine rD Γ hm z_ ?_);conv=>whnf))
  exact dN
 have h1:¬ s.size=0:=by simpa using h
 ((first|refine rG Γ hm ?_|refine rD Γ hm z_ ?_);(conv=>whnf);repeat((first|refine aF ?_|refine aT ?_);(first|refine rG Γ hm ?_|refine rD Γ hm z_ ?_);conv=>whnf))
 refine⟨fun h=>?_,fun h=>?_⟩
 ·have h2:3<s.size:=qA h
  rw[if_pos (.inr (.inl h2))]at hlk
  subst hlk
  ((first|refine rG Γ hm ?_|refine rD Γ hm z_ ?_);(conv=>whnf);repeat((first|refine aF ?_|refine aT ?_);(first|refine rG Γ hm ?_|refine rD Γ hm z_ ?_);conv=>whnf))
  exact dN
 have h2:¬ 3<s.size:=qB h
 ((first|refine rG Γ hm ?_|refine rD Γ hm z_ ?_);(conv=>whnf);repeat((first|refine aF ?_|refine aT ?_);(first|refine rG Γ hm ?_|refine rD Γ hm z_ ?_);conv=>whnf))
 refine⟨fun h=>?_,fun h=>?_⟩
 ·have h3:1<s.size:=qA h
  ((first|refine rG Γ hm ?_|refine rD Γ hm z_ ?_);(conv=>whnf);repeat((first|refine aF ?_|refine aT ?_);(first|refine rG Γ hm ?_|refine rD Γ hm z_ ?_);conv=>whnf))
  refine⟨by decide,by simp;omega,?_⟩
  ((conv=>whnf);repeat((first|refine aF ?_|refine aT ?_);(first|refine rG Γ hm ?_|refine rD Γ hm z_ ?_);conv=>whnf))
  refine⟨fun h=>?_,fun h=>?_⟩
  ·have h4:(A0 s 0).toNat=48:=by have:=h;simp at this;omega
   rw[if_pos (.inr (.inr (.inl ⟨h3,h4⟩)))]at hlk
   subst hlk
   ((first|refine rG Γ hm ?_|refine rD Γ hm z_ ?_);(conv=>whnf);repeat((first|refine aF ?_|refine aT ?_);(first|refine rG Γ hm ?_|refine rD Γ hm z_ ?_);conv=>whnf))
   exact dN
  have h34:¬ (1<s.size∧(A0 s 0).toNat=48):=by
   intro e
   have:=h
   simp at this
   omega
  ((first|refine rG Γ hm ?_|refine rD Γ hm z_ ?_);(conv=>whnf);repeat((first|refine aF ?_|refine aT ?_);(first|refine rG Γ hm ?_|refine rD Γ hm z_ ?_);conv=>whnf))
  refine A6 s.size (fun j=>∀ i,i<j→Ek (A0 s i)=true) (fun j=>[(0,Ah s),(1,Aa most),(6,Aa (K8 s j)),(27,Aa s.size),(28,Aa j)]) (fun _=>[]) [] (fun i hi=>absurd hi q_) ⟨⟨E,E,E,E,E,E,E,E,E,E,Y⟩,Y,E,E⟩ ?_
  intro j hj hI
  have hv:=Uh hI
  have hp:(10:Int) ^ j≤1000:=by
   have:j=0∨j=1∨j=2∨j=3:=by omega
   rcases this with rfl | rfl | rfl | rfl<;>decide
  have hsu:K8 s (j+1)=10 * K8 s j+((A0 s j).toNat-48):=rfl
  have hjn:((j:Nat):Int).toNat=j:=Int.toNat_natCast j
  have hb:=(A0 s j).toNat_lt
  generalize hvj:K8 s j=v at *
  ((first|refine rG Γ hm ?_|refine rD Γ hm z_ ?_);(conv=>whnf);repeat((first|refine aF ?_|refine aT ?_);(first|refine rG Γ hm ?_|refine rD Γ hm z_ ?_);conv=>whnf))
  refine⟨fun h=>?_,fun h=>?_⟩
  ·have hlt:j<s.size:=by simpa using h
   ((first|refine rG Γ hm ?_|refine rD Γ hm z_ ?_);(conv=>whnf);repeat((first|refine aF ?_|refine aT ?_);(first|refine rG Γ hm ?_|refine rD Γ hm z_ ?_);conv=>whnf))
   refine⟨by omega,by simpa using hlt,?_⟩
   rw[hjn]
   ((conv=>whnf);repeat((first|refine aF ?_|refine aT ?_);(first|refine rG Γ hm ?_|refine rD Γ hm z_ ?_);conv=>whnf))
   refine⟨fun h=>?_,fun h=>?_⟩
   ·have h5:¬ 48≤(A0 s j).toNat:=qA h
    rw[if_pos (.inr (.inr (.inr (L8 hlt (by simp only[Ek,Bool.and_eq_false_iff,decide_eq_false_iff_not];exact .inl h5)))))]at hlk
    subst hlk
    ((first|refine rG Γ hm ?_|refine rD Γ hm z_ ?_);(conv=>whnf);repeat((first|refine aF ?_|refine aT ?_);(first|refine rG Γ hm ?_|refine rD Γ hm z_ ?_);conv=>whnf))
    exact dN
   have h5:48≤(A0 s j).toNat:=qB h
   ((first|refine rG Γ hm ?_|refine rD Γ hm z_ ?_);(conv=>whnf);repeat((first|refine aF ?_|refine aT ?_);(first|refine rG Γ hm ?_|refine rD Γ hm z_ ?_);conv=>whnf))
   refine⟨by omega,by simpa using hlt,?_⟩
   rw[hjn]
   ((conv=>whnf);repeat((first|refine aF ?_|refine aT ?_);(first|refine rG Γ hm ?_|refine rD Γ hm z_ ?_);conv=>whnf))
   refine⟨fun h=>?_,fun h=>?_⟩
   ·have h6:¬ (A0 s j).toNat≤57:=qA h
    rw[if_pos (.inr (.inr (.inr (L8 hlt (by simp only[Ek,Bool.and_eq_false_iff,decide_eq_false_iff_not];exact .inr h6)))))]at hlk
    subst hlk
    ((first|refine rG Γ hm ?_|refine rD Γ hm z_ ?_);(conv=>whnf);repeat((first|refine aF ?_|refine aT ?_);(first|refine rG Γ hm ?_|refine rD Γ hm z_ ?_);conv=>whnf))
    exact dN
   have h6:(A0 s j).toNat≤57:=qB h
   ((first|refine rG Γ hm ?_|refine rD Γ hm z_ ?_);(conv=>whnf);repeat((first|refine aF ?_|refine aT ?_);(first|refine rG Γ hm ?_|refine rD Γ hm z_ ?_);conv=>whnf))
   refine iL ?_
   ((conv=>whnf);repeat((first|refine aF ?_|refine aT ?_);(first|refine rG Γ hm ?_|refine rD Γ hm z_ ?_);conv=>whnf))
   refine⟨by omega,by simpa using hlt,?_⟩
   rw[hjn]
   ((conv=>whnf);repeat((first|refine aF ?_|refine aT ?_);(first|refine rG Γ hm ?_|refine rD Γ hm z_ ?_);conv=>whnf))
   rw[Abw h5 hb,Ac4 q_ q_]
   refine iL ?_
   ((conv=>whnf);repeat((first|refine aF ?_|refine aT ?_);(first|refine rG Γ hm ?_|refine rD Γ hm z_ ?_);conv=>whnf))
   refine iL ?_
   ((conv=>whnf);repeat((first|refine aF ?_|refine aT ?_);(first|refine rG Γ hm ?_|refine rD Γ hm z_ ?_);conv=>whnf))
   refine Bb [] hI q_ (fun i hi=>?_) ⟨⟨E,E,E,E,congrArg Aa hsu,E,E,E,E,E,Y⟩,Y,E,E⟩
   by_cases hij:i=j
   ·subst hij;exact digB_iff.2 ⟨h5,h6⟩
   ·exact hI i q_
  ·have:j=s.size:=qB h
   subst this
   rw[if_neg (by rw[T5 hI];simp only[h1,h2,false_or,Bool.true_eq_false,or_false];exact h34),hvj]at hlk
   subst hlk
   ((first|refine rG Γ hm ?_|refine rD Γ hm z_ ?_);(conv=>whnf);repeat((first|refine aF ?_|refine aT ?_);(first|refine rG Γ hm ?_|refine rD Γ hm z_ ?_);conv=>whnf))
   exact dN
 ·have h34:¬ (1<s.size∧(A0 s 0).toNat=48):=qB h
  ((first|refine rG Γ hm ?_|refine rD Γ hm z_ ?_);(conv=>whnf);repeat((first|refine aF ?_|refine aT ?_);(first|refine rG Γ hm ?_|refine rD Γ hm z_ ?_);conv=>whnf))
  refine A6 s.size (fun j=>∀ i,i<j→Ek (A0 s i)=true) (fun j=>[(0,Ah s),(1,Aa most),(6,Aa (K8 s j)),(27,Aa s.size),(28,Aa j)]) (fun _=>[]) [] (fun i hi=>absurd hi q_) ⟨⟨E,E,E,E,E,E,E,E,E,E,Y⟩,Y,E,E⟩ ?_
  intro j hj hI
  have hv:=Uh hI
  have hp:(10:Int) ^ j≤1000:=by
   have:j=0∨j=1∨j=2∨j=3:=by omega
   rcases this with rfl | rfl | rfl | rfl<;>decide
  have hsu:K8 s (j+1)=10 * K8 s j+((A0 s j).toNat-48):=rfl
  have hjn:((j:Nat):Int).toNat=j:=Int.toNat_natCast j
  have hb:=(A0 s j).toNat_lt
  generalize hvj:K8 s j=v at *
  ((first|refine rG Γ hm ?_|refine rD Γ hm z_ ?_);(conv=>whnf);repeat((first|refine aF ?_|refine aT ?_);(first|refine rG Γ hm ?_|refine rD Γ hm z_ ?_);conv=>whnf))
  refine⟨fun h=>?_,fun h=>?_⟩
  ·have hlt:j<s.size:=by simpa using h
   ((first|refine rG Γ hm ?_|refine rD Γ hm z_ ?_);(conv=>whnf);repeat((first|refine aF ?_|refine aT ?_);(first|refine rG Γ hm ?_|refine rD Γ hm z_ ?_);conv=>whnf))
   refine⟨by omega,by simpa using hlt,?_⟩
   rw[hjn]
   ((conv=>whnf);repeat((first|refine aF ?_|refine aT ?_);(first|refine rG Γ hm ?_|refine rD Γ hm z_ ?_);conv=>whnf))
   refine⟨fun h=>?_,fun h=>?_⟩
   ·have h5:¬ 48≤(A0 s j).toNat:=qA h
    rw[if_pos (.inr (.inr (.inr (L8 hlt (by simp only[Ek,Bool.and_eq_false_iff,decide_eq_false_iff_not];exact .inl h5)))))]at hlk
    subst hlk
    ((first|refine rG Γ hm ?_|refine rD Γ hm z_ ?_);(conv=>whnf);repeat((first|refine aF ?_|refine aT ?_);(first|refine rG Γ hm ?_|refine rD Γ hm z_ ?_);conv=>whnf))
    exact dN
   have h5:48≤(A0 s j).toNat:=qB h
   ((first|refine rG Γ hm ?_|refine rD Γ hm z_ ?_);(conv=>whnf);repeat((first|refine aF ?_|refine aT ?_);(first|refine rG Γ hm ?_|refine rD Γ hm z_ ?_);conv=>whnf))
   refine⟨by omega,by simpa using hlt,?_⟩
   rw[hjn]
   ((conv=>whnf);repeat((first|refine aF ?_|refine aT ?_);(first|refine rG Γ hm ?_|refine rD Γ hm z_ ?_);conv=>whnf))
   refine⟨fun h=>?_,fun h=>?_⟩
   ·have h6:¬ (A0 s j).toNat≤57:=qA h
    rw[if_pos (.inr (.inr (.inr (L8 hlt (by simp only[Ek,Bool.and_eq_false_iff,decide_eq_false_iff_not];exact .inr h6)))))]at hlk
    subst hlk
    ((first|refine rG Γ hm ?_|refine rD Γ hm z_ ?_);(conv=>whnf);repeat((first|refine aF ?_|refine aT ?_);(first|refine rG Γ hm ?_|refine rD Γ hm z_ ?_);conv=>whnf))
    exact dN
   have h6:(A0 s j).toNat≤57:=qB h
   ((first|refine rG Γ hm ?_|refine rD Γ hm z_ ?_);(conv=>whnf);repeat((first|refine aF ?_|refine aT ?_);(first|refine rG Γ hm ?_|refine rD Γ hm z_ ?_);conv=>whnf))
   refine iL ?_
   ((conv=>whnf);repeat((first|refine aF ?_|refine aT ?_);(first|refine rG Γ hm ?_|refine rD Γ hm z_ ?_);conv=>whnf))
   refine⟨by omega,by simpa using hlt,?_⟩
   rw[hjn]
   ((conv=>whnf);repeat((first|refine aF ?_|refine aT ?_);(first|refine rG Γ hm ?_|refine rD Γ hm z_ ?_);conv=>whnf))
   rw[Abw h5 hb,Ac4 q_ q_]
   refine iL ?_
   ((conv=>whnf);repeat((first|refine aF ?_|refine aT ?_);(first|refine rG Γ hm ?_|refine rD Γ hm z_ ?_);conv=>whnf))
   refine iL ?_
   ((conv=>whnf);repeat((first|refine aF ?_|refine aT ?_);(first|refine rG Γ hm ?_|refine rD Γ hm z_ ?_);conv=>whnf))
   refine Bb [] hI q_ (fun i hi=>?_) ⟨⟨E,E,E,E,congrArg Aa hsu,E,E,E,E,E,Y⟩,Y,E,E⟩
   by_cases hij:i=j
   ·subst hij;exact digB_iff.2 ⟨h5,h6⟩
   ·exact hI i q_
  ·have:j=s.size:=qB h
   subst this
   rw[if_neg (by rw[T5 hI];simp only[h1,h2,false_or,Bool.true_eq_false,or_false];exact h34),hvj]at hlk
   subst hlk
   ((first|refine rG Γ hm ?_|refine rD Γ hm z_ ?_);(conv=>whnf);repeat((first|refine aF ?_|refine aT ?_);(first|refine rG Γ hm ?_|refine rD Γ hm z_ ?_);conv=>whnf))
   exact dN
end Go.Sy.YtjenpnjajjplkaaGreatDoor
namespace Go.Sy.YtjenpnjajjplkaaGreatDoor
open Go.Proofs
def Kn {α:Type} (l:List α) (j:Nat):List α:=List.ofFn fun i:Fin l.length=>if i.1<j∨l.length-j≤i.1 then l[l.length-1-i.1] else l[i.1]
theorem Ce {α:Type} (l:List α) (j:Nat):(Kn l j).length=l.length:=by simp[Kn]
theorem Ii {α:Type} (l:List α) (j i:Nat) (h:i<l.length):(Kn l j)[i]'(by rw[Ce];exact h)=if i<j∨l.length-j≤i then l[l.length-1-i] else l[i]:=by simp[Kn]
theorem To {α:Type} (l:List α):Kn l 0=l:=by
 apply List.ext_getElem (Ce l 0)
 intro i h1 h2
 rw[Ii l 0 i h2,if_neg q_]
theorem Vy {α:Type} (l:List α) (j:Nat) (h:l.length≤2 * j+1):Kn l j=l.reverse:=by
 apply List.ext_getElem (by rw[Ce,List.length_reverse])
 intro i h1 h2
 have hi:i<l.length:=by rw[Ce]at h1;exact h1
 rw[Ii l j i hi,List.getElem_reverse]
 split
 ·rfl
 ·congr 1;omega
theorem Aao {α:Type} (l:List α) (j:Nat) (h:2 * j+1<l.length) :
  ((Kn l j).set j ((Kn l j)[l.length-1-j]'(by rw[Ce];omega))).set (l.length-1-j) ((Kn l j)[j]'(by rw[Ce];omega))=Kn l (j+1):=by
 apply List.ext_getElem (by simp only[List.length_set,Ce])
 intro i h1 h2
 have hi:i<l.length:=by rw[Ce]at h2;exact h2
 rw[List.getElem_set,List.getElem_set,Ii l (j+1) i hi,Ii l j i hi,Ii l j _ q_,Ii l j _ q_]
 by_cases e1:l.length-1-j=i
 ·rw[if_pos e1,if_neg q_,if_pos q_]
  congr 1;omega
 ·rw[if_neg e1]
  by_cases e2:j=i
  ·rw[if_pos e2,if_neg q_,if_pos q_]
   congr 1;omega
  ·rw[if_neg e2]
   by_cases e3:i<j∨l.length-j≤i
   ·rw[if_pos e3,if_pos q_]
   ·rw[if_neg e3,if_neg q_]
theorem Tp {α:Type} {l u:List α} {j k:Nat} (hu:Kn l j=u) (h:2 * j+1<l.length) (hk:l.length-1-j=k) (h1:k<u.length) (h2:j<u.length):(u.set j u[k]).set k u[j]=Kn l (j+1):=by
 subst hu hk
 exact Aao l j h
def revDigs (u:Nat):List UInt8:=if u<10 then [UInt8.ofNat (48+u)] else UInt8.ofNat (48+u % 10)::revDigs (u / 10)
theorem Jp (u:Nat):0<(revDigs u).length:=by
 rw[revDigs];split<;>simp
theorem Jq:∀ (j u:Nat),j+1<(revDigs u).length↔0<u / 10 ^ (j+1)
 | 0,u=>by
  rw[revDigs]
  split
  ·simp;omega
  ·have:=Jp (u / 10)
   simp only[List.length_cons];omega
 | j+1,u=>by
  rw[revDigs]
  have e:u / 10 ^ (j+1+1)=u / 10 / 10 ^ (j+1):=by rw[Nat.div_div_eq_div_mul,Nat.pow_succ 10 (j+1),Nat.mul_comm (10 ^ (j+1))]
  rw[e]
  split
  ·have:u / 10=0:=by omega
   rw[this];simp
  ·rw[List.length_cons,← Jq j (u / 10)];omega
theorem Jr:∀ (j u:Nat) (h:j<(revDigs u).length),(revDigs u)[j]=UInt8.ofNat (48+u / 10 ^ j % 10)
 | 0,u,h=>by
  have e:(revDigs u)[0]=UInt8.ofNat (48+u % 10):=by
   simp only[revDigs.eq_1 u]
   split
   ·show UInt8.ofNat (48+u)=UInt8.ofNat (48+u % 10)
    rw[Nat.mod_eq_of_lt (by assumption)]
   ·rfl
  rw[e];simp
 | j+1,u,h=>by
  have hu:¬ u<10:=fun hu=>by rw[revDigs,if_pos hu]at h;simp at h
  have e0:revDigs u=UInt8.ofNat (48+u % 10)::revDigs (u / 10):=by rw[revDigs.eq_1 u,if_neg hu]
  have e:u / 10 ^ (j+1)=u / 10 / 10 ^ j:=by rw[Nat.div_div_eq_div_mul,Nat.pow_succ,Nat.mul_comm]
  have hl:j<(revDigs (u / 10)).length:=by rw[e0]at h;simpa using h
  have:=Jr j (u / 10) hl
  rw[e,← this]
  simp only[e0,List.getElem_cons_succ]
theorem Ia:∀ (k u:Nat),u<10 ^ k→(revDigs u).length≤k+1
 | 0,u,h=>by rw[revDigs,if_pos (by simp at h;omega)];simp
 | k+1,u,h=>by
  rw[revDigs]
  split
  ·simp
  ·have:=Ia k (u / 10) (by rw[Nat.pow_succ]at h;omega)
   simp only[List.length_cons];omega
def Acl (n:Int):List UInt8:=(revDigs n.natAbs++(if n<0 then [45] else [])).reverse
def V9 (n:Int):ByteArray:=mkT (Acl n)
theorem Ack (m:Nat):Acl m=(revDigs m).reverse:=by
 rw[Acl,Int.natAbs_natCast,if_neg q_,List.append_nil]
set_option maxRecDepth 20000 in
theorem Aci (m:Nat) (hb:m<9223372036854775808):Sy.Spec Tryz.prog 117 [Aa m] [] (Ah (V9 m)) []:=cT F117 Tryz.ntmps117 fun F hF=>by
 have hpos:=Jp m
 have hlen:=fun j=>Jq j m
 have hget:=fun j=>Jr j m
 have hsh:(revDigs m).length≤20:=Ia 19 m q_
 rw[V9,Ack]
 generalize revDigs m=D at *
 ((conv=>whnf);repeat((first|refine aF ?_|refine aT ?_);(first|refine rG Γ hm ?_|refine rD Γ hm z_ ?_);conv=>whnf))
 refine C3 3 1000 1 Cc E E ?_
 refine Ev D.length (fun j=>[(0,Aa m),(3,.osl 1000),(4,Dv (m / 10 ^ j:Nat)),(5,Ab (decide (j<D.length)))]) (fun j=>[(1000,.row 1 Cc (D.take j))]) []
  ⟨⟨rfl,rfl,rfl,rfl,congrArg (fun z=>SV.val (.int .u64 z)) (by rw[IntKind.wrap_u64];omega),rfl,congrArg Ab (decide_eq_true hpos),rfl,trivial⟩,⟨.inl rfl,rfl,trivial⟩,rfl,rfl⟩ ?_
 intro j hj
 ((first|refine rG Γ hm ?_|refine rD Γ hm z_ ?_);(conv=>whnf);repeat((first|refine aF ?_|refine aT ?_);(first|refine rG Γ hm ?_|refine rD Γ hm z_ ?_);conv=>whnf))
 refine⟨fun h=>?_,fun h=>?_⟩
 ·have hlt:j<D.length:=of_decide_eq_true h
  have hgj:=hget j hlt
  have hlj:=hlen j
  have e:m / 10 ^ (j+1)=m / 10 ^ j / 10:=by rw[Nat.div_div_eq_div_mul,Nat.pow_succ]
  have hq:m / 10 ^ j≤m:=Nat.div_le_self _ _
  rw[e]at hlj
  ((first|refine rG Γ hm ?_|refine rD Γ hm z_ ?_);(conv=>whnf);repeat((first|refine aF ?_|refine aT ?_);(first|refine rG Γ hm ?_|refine rD Γ hm z_ ?_);conv=>whnf))
  refine⟨by decide,?_⟩
  ((conv=>whnf);repeat((first|refine aF ?_|refine aT ?_);(first|refine rG Γ hm ?_|refine rD Γ hm z_ ?_);conv=>whnf))
  refine Cg (Ak Γ.toTy 23 E E E E E (.row E) (.lit (l:=[D[j]]) E ?_) y_ ?_ ?_) E E ?_
  ·rw[hgj]
   simp only[List.map_cons,List.map_nil,Cc]
   congr 3
   generalize m / 10 ^ j=q at *
   rw[Int.tmod_eq_emod_of_nonneg (Int.natCast_nonneg _),IntKind.wrap_u64,IntKind.wrap_u8]
   simp
  ·simp;omega
  ·simp;omega
  ((first|refine rG Γ hm ?_|refine rD Γ hm z_ ?_);(conv=>whnf);repeat((first|refine aF ?_|refine aT ?_);(first|refine rG Γ hm ?_|refine rD Γ hm z_ ?_);conv=>whnf))
  refine⟨by decide,?_⟩
  ((conv=>whnf);repeat((first|refine aF ?_|refine aT ?_);(first|refine rG Γ hm ?_|refine rD Γ hm z_ ?_);conv=>whnf))
  refine Hw [(1000,23)] hlt ⟨⟨E,E,E,E,congrArg (fun z=>SV.val (.int .u64 z)) ?_,E,congrArg Ab ?_,E,Y⟩,⟨.inl (congrArg (Ob.row 1 Cc) (List.take_succ_eq_append_getElem hlt)),E,Y⟩,E,E⟩
  ·rw[e,Int.tdiv_eq_ediv_of_nonneg (Int.natCast_nonneg _),IntKind.wrap_u64]
   generalize m / 10 ^ j=q at *
   omega
  ·rw[Int.tdiv_eq_ediv_of_nonneg (Int.natCast_nonneg _),IntKind.wrap_u64]
   generalize m / 10 ^ j=q at *
   refine decide_eq_decide.2 ?_
   omega
 ·have:j=D.length:=qB h
  subst this
  rw[List.take_length]
  ((first|refine rG Γ hm ?_|refine rD Γ hm z_ ?_);(conv=>whnf);repeat((first|refine aF ?_|refine aT ?_);(first|refine rG Γ hm ?_|refine rD Γ hm z_ ?_);conv=>whnf))
  refine iL ?_
  ((conv=>whnf);repeat((first|refine aF ?_|refine aT ?_);(first|refine rG Γ hm ?_|refine rD Γ hm z_ ?_);conv=>whnf))
  refine Ev (D.length / 2) (fun j=>[(3,.osl 1000),(6,Aa j),(7,Aa (D.length-1-j:Nat))]) (fun j=>[(1000,.row 1 Cc (Kn D j))]) []
   ⟨⟨rfl,rfl,rfl,rfl,congrArg (fun z=>SV.val (.int .i64 z)) q_,rfl,trivial⟩,⟨.inl (congrArg (Ob.row 1 Cc) (To D)),rfl,trivial⟩,rfl,rfl⟩ ?_
  intro i hi
  have hul:=Ce D i
  ((first|refine rG Γ hm ?_|refine rD Γ hm z_ ?_);(conv=>whnf);repeat((first|refine aF ?_|refine aT ?_);(first|refine rG Γ hm ?_|refine rD Γ hm z_ ?_);conv=>whnf))
  refine⟨fun h2=>?_,fun h2=>?_⟩
  ·have hlt:2 * i+1<D.length:=by have:=of_decide_eq_true h2;omega
   obtain ⟨u,hu⟩:∃ u,Kn D i=u:=⟨_,rfl⟩
   obtain ⟨k,hk⟩:∃ k,D.length-1-i=k:=⟨_,rfl⟩
   rw[hu]at hul
   have hs:=Tp hu hlt hk q_ q_
   rw[hu,hk]
   ((first|refine rG Γ hm ?_|refine rD Γ hm z_ ?_);(conv=>whnf);repeat((first|refine aF ?_|refine aT ?_);(first|refine rG Γ hm ?_|refine rD Γ hm z_ ?_);conv=>whnf))
   refine⟨by omega,by omega,?_⟩
   ((conv=>whnf);repeat((first|refine aF ?_|refine aT ?_);(first|refine rG Γ hm ?_|refine rD Γ hm z_ ?_);conv=>whnf))
   refine⟨E,by omega,?_⟩
   ((conv=>whnf);repeat((first|refine aF ?_|refine aT ?_);(first|refine rG Γ hm ?_|refine rD Γ hm z_ ?_);conv=>whnf))
   refine⟨by omega,by omega,?_⟩
   ((conv=>whnf);repeat((first|refine aF ?_|refine aT ?_);(first|refine rG Γ hm ?_|refine rD Γ hm z_ ?_);conv=>whnf))
   refine⟨E,by omega,?_⟩
   ((conv=>whnf);repeat((first|refine aF ?_|refine aT ?_);(first|refine rG Γ hm ?_|refine rD Γ hm z_ ?_);conv=>whnf))
   refine⟨by omega,by omega,?_⟩
   ((conv=>whnf);repeat((first|refine aF ?_|refine aT ?_);(first|refine rG Γ hm ?_|refine rD Γ hm z_ ?_);conv=>whnf))
   refine⟨E,by omega,u[k],E,E,?_⟩
   ((conv=>whnf);repeat((first|refine aF ?_|refine aT ?_);(first|refine rG Γ hm ?_|refine rD Γ hm z_ ?_);conv=>whnf))
   refine⟨by omega,by simp;omega,?_⟩
   ((conv=>whnf);repeat((first|refine aF ?_|refine aT ?_);(first|refine rG Γ hm ?_|refine rD Γ hm z_ ?_);conv=>whnf))
   refine⟨E,by simp;omega,u[i],E,E,?_⟩
   ((conv=>whnf);repeat((first|refine aF ?_|refine aT ?_);(first|refine rG Γ hm ?_|refine rD Γ hm z_ ?_);conv=>whnf))
   refine⟨z_,?_⟩
   ((conv=>whnf);repeat((first|refine aF ?_|refine aT ?_);(first|refine rG Γ hm ?_|refine rD Γ hm z_ ?_);conv=>whnf))
   refine iL ?_
   ((conv=>whnf);repeat((first|refine aF ?_|refine aT ?_);(first|refine rG Γ hm ?_|refine rD Γ hm z_ ?_);conv=>whnf))
   refine iL ?_
   ((conv=>whnf);repeat((first|refine aF ?_|refine aT ?_);(first|refine rG Γ hm ?_|refine rD Γ hm z_ ?_);conv=>whnf))
   refine Hw [] q_ ⟨⟨E,E,E,E,congrArg (fun z=>SV.val (.int .i64 z)) q_,E,Y⟩,⟨.inl (congrArg (Ob.row 1 Cc) hs.symm),E,Y⟩,E,E⟩
  ·have h3:D.length≤2 * i+1:=by have:=of_decide_eq_false h2;omega
   rw[Vy D i h3]
   ((first|refine rG Γ hm ?_|refine rD Γ hm z_ ?_);(conv=>whnf);repeat((first|refine aF ?_|refine aT ?_);(first|refine rG Γ hm ?_|refine rD Γ hm z_ ?_);conv=>whnf))
   refine Cg (I9 Γ.toTy (bs:=D.reverse) E E E E E E E (.row E)) E E ?_
   ((first|refine rG Γ hm ?_|refine rD Γ hm z_ ?_);(conv=>whnf);repeat((first|refine aF ?_|refine aT ?_);(first|refine rG Γ hm ?_|refine rD Γ hm z_ ?_);conv=>whnf))
   exact dN
end Go.Sy.YtjenpnjajjplkaaGreatDoor
namespace Go.Sy.YtjenpnjajjplkaaGreatDoor
open Go.Proofs
attribute [local irreducible] Go.Sy.G Go.Sy.DR
set_option maxRecDepth 20000
set_option maxHeartbeats 4000000
theorem Adf {n:Net} (h:Af n=true) {i:Nat} (hi:i<n.ports.length):Ij n i n.ports[i]=true:=by
 simp only[Af,Bool.and_eq_true]at h
 exact allB_iff.1 h.1.1.1.1.1.2 i hi
theorem Adg {n:Net} (h:Af n=true):n.devices.length≤8∧n.ports.length≤40∧n.links.length≤20∧n.domains.length≤48∧n.irbs.length≤48:=by
 simp only[Af,Ww,Bool.and_eq_true,decide_eq_true_eq]at h
 omega
end Go.Sy.YtjenpnjajjplkaaGreatDoor
namespace Go.Sy
def Xg (C:Cx) {β:Type} (I:β→Prop) (L:β→List (Nat × SV)) (O:β→Obs) (μ:β→Nat) (x:β) (a:Act) (w:World):Prop :=
 ∃ x':{y:β // I y},∃ κ,μ x'.1<μ x∧St C.F C.n (mkS (L x'.1) (O x'.1)) κ a w
theorem B3 {C:Cx} {k:List KI} {s:SS} {body:Code} {β:Type} (I:β→Prop) (L:β→List (Nat × SV)) (O:β→Obs) (μ:β→Nat) (x₀:β) (ρ:List (Nat × Nat)) (h0:I x₀) (hsub:Sub C s ρ (L x₀) (O x₀))
  (h:∀ x,I x→G C (.code body::.inv (Xg C I L O μ x)::k) (mkS (L x) (O x))):G C (.code (.loop body)::k) s :=
 Zj (α:={y:β // I y}) (fun x=>L x.1) (fun x=>O x.1) (fun x=>μ x.1) ⟨x₀,h0⟩ ρ hsub (fun x=>h x.1 x.2)
theorem Az {C:Cx} {k:List KI} {s:SS} {β:Type} {I:β→Prop} {L:β→List (Nat × SV)} {O:β→Obs} {μ:β→Nat} {x:β} (x':β) (ρ:List (Nat × Nat)) (h':I x') (hμ:μ x'<μ x) (hsub:Sub C s ρ (L x') (O x')) :
  G C (.inv (Xg C I L O μ x)::k) s:=fun _ _ _ hs=>⟨⟨x',h'⟩,_,hμ,hsub.st hs⟩
theorem Adx {C:Cx} {kk:List KI} {s:SS} (k d:Nat) {sz:Nat} {α:Type} {e:α→SV} {l:List α} (h:s.h k=.row sz e l) (hd:s.h d=.fresh) (hkd:k≠d)
  (hg:G C kk ⟨fun i=>frz k (.osl d) (s.σ i),upd (fun j=>bif Nat.beq j k then .non else Abc k (.osl d) (s.h j)) d (.row sz e l)⟩):G C kk s:=fun κ a w hs=>by
 have hob:=hs.obj k
 rw[h]at hob
 have hnew:κ d=.new:=by have:=hs.obj d;rwa [hd]at this
 have fin:∀ κ':Ka,(∀ j,j≠k→j≠d→κ' j=κ j)→Step (fun j=>j=k∨j=d) κ w κ' w→Inv κ' w→(∀ v,Rd κ w (.osl k) v→Rd κ' w (.osl d) v)→ObOK κ' w d (.row sz e l)→den C.P C.B kk .normal a w:=by
  intro κ' hne st inv hv ho
  refine hg κ' a w ⟨hs.defers,hs.size,inv,hs.ctx.step inv st,fun j=>U6 st hv _ _ (hs.slot j),fun j=>?_⟩
  show ObOK κ' w j (upd (fun j=>bif Nat.beq j k then .non else Abc k (.osl d) (s.h j)) d (.row sz e l) j)
  by_cases hj:j=d
  ·subst hj;rw[B4];exact ho
  ·rw[Cn _ _ hj]
   by_cases hj2:j=k
   ·subst hj2;rw[show Nat.beq j j=true from Nat.beq_refl j];trivial
   ·rw[show Nat.beq j k=false from by cases hb:Nat.beq j k with | false=>rfl | true=>exact absurd (Nat.eq_of_beq_eq_true hb) hj2]
    have hb:=ObOK.step st (fun e=>e.elim hj2 hj) _ (hs.obj j)
    have h0:=hs.obj j
    show ObOK κ' w j (Abc k (.osl d) (s.h j))
    cases hh:s.h j with
    | box m =>
     rw[hh]at h0 hb
     obtain ⟨b,cs,T,fr,e1,e2,e3,e4,e5⟩:=h0
     exact⟨b,cs,T,fr,(hne j hj2 hj).trans e1,e2,e3,e4,Hh st hv m cs e5⟩
    | fresh=>rw[hh]at hb;exact hb
    | non=>rw[hh]at hb;exact hb
    | row sz' e' l'=>rw[hh]at hb;exact hb
    | lit sz' svs=>rw[hh]at hb;exact hb
    | glob sz' x' g'=>rw[hh]at hb;exact hb
    | pin b' n' cap' sz' e' l'=>rw[hh]at hb;exact hb
    | dat v' sz' e' l'=>rw[hh]at hb;exact hb
    | rown sz' e' l' i' cl' =>
     rw[hh]at h0
     obtain ⟨b2,cap2,cs2,T2,fr2,f1,f2,f3,f4,f5,f6,f7,us2,v1,v2,v3,v4⟩:=h0
     refine⟨b2,cap2,cs2,T2,fr2,(hne j hj2 hj).trans f1,f2,f3,f4,f5,fun m y hm hy=>?_,f7,us2,v1,v2,Hh st hv cl' us2 v3,v4⟩
     obtain ⟨g0,u,g1,g2⟩:=f6 m y hm hy
     exact⟨g0,u,RdD.keep st.keeps _ _ g1,g2⟩
 rcases hob with ⟨h1,rfl⟩ | ⟨b,cap,cs,T,fr,e1,e2,e3,e4,e5,e6⟩
 ·have st:=Hk (Im hs.inv (some k)) (by show Dg κ k .dead d=.new;rw[Bp _ _ (Ne.symm hkd)];exact hnew) (e:=.nil) (Grew.refl w) (fun b hb=>by cases hb)
  refine fin _ (fun j h1 h2=>by rw[Bp _ _ h2];exact Bp _ _ h1) (((Hi (some k)).weaken (fun j hj=>.inl (Option.some.inj hj).symm)).trans (st.1.weaken (fun j hj=>.inr hj))) st.2 (fun v hv=>?_) (.inl ⟨As _ _ _,E⟩)
  simp only[Rd,h1]at hv
  simp[Rd,As,hv]
 ·obtain ⟨st,inv⟩:=Tj (n':=l.length) (w':=w) hs.inv e1 hnew rfl rfl rfl rfl (fun _ _=>rfl)
  refine fin _ (fun j h1 h2=>by rw[Bp _ _ h2];exact Bp _ _ h1) st inv (fun v hv=>?_) (.inr ⟨b,cap,cs,T,fr,As _ _ _,e2,e3,e4,e5,fun i x hx=>?_⟩)
  ·simp only[Rd,e1]at hv
   simp[Rd,As,hv]
  ·obtain ⟨q1,u,q2,q3⟩:=e6 i x hx
   exact⟨q1,u,RdD.keep st.keeps _ _ q2,q3⟩
theorem Zk {C:Cx} {k:List KI} {s:SS} (d:Nat) {sz:Nat} {α:Type} (e:α→SV) (l:List α) {svs:List SV} (h:s.h d=.lit sz svs) (hl:l.map e=svs) (hg:G C k ⟨s.σ,upd s.h d (.row sz e l)⟩):G C k s:=fun κ a w hs=>by
 refine hg κ a w ⟨hs.defers,hs.size,hs.inv,hs.ctx,hs.slot,fun j=>?_⟩
 show ObOK κ w j (upd s.h d (.row sz e l) j)
 by_cases hj:j=d
 ·subst hj
  rw[B4]
  have hob:=hs.obj j
  rw[h]at hob
  have hlen:l.length=svs.length:=by rw[← hl,List.length_map]
  obtain ⟨b,cap,cs,T,fr,e1,e2,e3,e4,e5,e6⟩:=hob
  exact .inr ⟨b,cap,cs,T,fr,by rw[hlen];exact e1,e2,e3,e4,by omega,fun i x hx=>by rw[hlen];exact e6 i x (Ln hl i x hx)⟩
 ·rw[Cn _ _ hj];exact hs.obj j
end Go.Sy
namespace Go.Sy.YtjenpnjajjplkaaGreatDoor
open Go.Proofs
theorem Acj (m:Nat) (h:0<m):Acl (-(m:Int))=(revDigs m++[45]).reverse:=by
 rw[Acl,if_pos q_]
 have:(-(m:Int)).natAbs=m:=by omega
 rw[this]
set_option maxRecDepth 20000 in
theorem V8 (m:Nat) (h0:0<m) (hb:m≤9223372036854775808):Sy.Spec Tryz.prog 117 [Aa (-(m:Int))] [] (Ah (V9 (-(m:Int)))) []:=cT F117 Tryz.ntmps117 fun F hF=>by
 have hpos:=Jp m
 have hlen:=fun j=>Jq j m
 have hget:=fun j=>Jr j m
 have hsh:(revDigs m).length≤20:=Ia 19 m q_
 have w1:IntKind.u64.wrap (0-IntKind.u64.wrap (-(m:Int)))=m:=by rw[IntKind.wrap_u64,IntKind.wrap_u64];omega
 rw[V9,Acj m h0]
 generalize revDigs m=D at *
 ((conv=>whnf);repeat((first|refine aF ?_|refine aT ?_);(first|refine rG Γ hm ?_|refine rD Γ hm z_ ?_);conv=>whnf))
 refine⟨fun _=>?_,fun h=>absurd (of_decide_eq_false h) q_⟩
 refine C3 3 1000 1 Cc E E ?_
 ((first|refine rG Γ hm ?_|refine rD Γ hm z_ ?_);(conv=>whnf);repeat((first|refine aF ?_|refine aT ?_);(first|refine rG Γ hm ?_|refine rD Γ hm z_ ?_);conv=>whnf))
 refine Ev D.length (fun j=>[(0,Aa (-(m:Int))),(3,.osl 1000),(4,Dv (m / 10 ^ j:Nat)),(5,Ab (decide (j<D.length)))]) (fun j=>[(1000,.row 1 Cc (D.take j))]) []
  ⟨⟨rfl,rfl,rfl,rfl,congrArg (fun z=>SV.val (.int .u64 z)) (by simpa using w1.symm),rfl,congrArg Ab (decide_eq_true hpos),rfl,trivial⟩,⟨.inl rfl,rfl,trivial⟩,rfl,rfl⟩ ?_
 intro j hj
 ((first|refine rG Γ hm ?_|refine rD Γ hm z_ ?_);(conv=>whnf);repeat((first|refine aF ?_|refine aT ?_);(first|refine rG Γ hm ?_|refine rD Γ hm z_ ?_);conv=>whnf))
 refine⟨fun h=>?_,fun h=>?_⟩
 ·have hlt:j<D.length:=of_decide_eq_true h
  have hgj:=hget j hlt
  have hlj:=hlen j
  have e:m / 10 ^ (j+1)=m / 10 ^ j / 10:=by rw[Nat.div_div_eq_div_mul,Nat.pow_succ]
  have hq:m / 10 ^ j≤m:=Nat.div_le_self _ _
  rw[e]at hlj
  ((first|refine rG Γ hm ?_|refine rD Γ hm z_ ?_);(conv=>whnf);repeat((first|refine aF ?_|refine aT ?_);(first|refine rG Γ hm ?_|refine rD Γ hm z_ ?_);conv=>whnf))
  refine⟨by decide,?_⟩
  ((conv=>whnf);repeat((first|refine aF ?_|refine aT ?_);(first|refine rG Γ hm ?_|refine rD Γ hm z_ ?_);conv=>whnf))
  refine Cg (Ak Γ.toTy 23 E E E E E (.row E) (.lit (l:=[D[j]]) E ?_) y_ ?_ ?_) E E ?_
  ·rw[hgj]
   simp only[List.map_cons,List.map_nil,Cc]
   congr 3
   generalize m / 10 ^ j=q at *
   rw[Int.tmod_eq_emod_of_nonneg (Int.natCast_nonneg _),IntKind.wrap_u64,IntKind.wrap_u8]
   simp
  ·simp;omega
  ·simp;omega
  ((first|refine rG Γ hm ?_|refine rD Γ hm z_ ?_);(conv=>whnf);repeat((first|refine aF ?_|refine aT ?_);(first|refine rG Γ hm ?_|refine rD Γ hm z_ ?_);conv=>whnf))
  refine⟨by decide,?_⟩
  ((conv=>whnf);repeat((first|refine aF ?_|refine aT ?_);(first|refine rG Γ hm ?_|refine rD Γ hm z_ ?_);conv=>whnf))
  refine Hw [(1000,23)] hlt ⟨⟨E,E,E,E,congrArg (fun z=>SV.val (.int .u64 z)) ?_,E,congrArg Ab ?_,E,Y⟩,⟨.inl (congrArg (Ob.row 1 Cc) (List.take_succ_eq_append_getElem hlt)),E,Y⟩,E,E⟩
  ·rw[e,Int.tdiv_eq_ediv_of_nonneg (Int.natCast_nonneg _),IntKind.wrap_u64]
   generalize m / 10 ^ j=q at *
   omega
  ·rw[Int.tdiv_eq_ediv_of_nonneg (Int.natCast_nonneg _),IntKind.wrap_u64]
   generalize m / 10 ^ j=q at *
   refine decide_eq_decide.2 ?_
   omega
 ·have:j=D.length:=qB h
  subst this
  rw[List.take_length]
  ((first|refine rG Γ hm ?_|refine rD Γ hm z_ ?_);(conv=>whnf);repeat((first|refine aF ?_|refine aT ?_);(first|refine rG Γ hm ?_|refine rD Γ hm z_ ?_);conv=>whnf))
  refine⟨fun _=>?_,fun h=>absurd (of_decide_eq_false h) q_⟩
  ((first|refine rG Γ hm ?_|refine rD Γ hm z_ ?_);(conv=>whnf);repeat((first|refine aF ?_|refine aT ?_);(first|refine rG Γ hm ?_|refine rD Γ hm z_ ?_);conv=>whnf))
  refine Cg (Ak Γ.toTy 30 E E E E E (.row E) (.lit (e:=Cc) (l:=[45]) E E) y_ (by simp;omega) (by simp;omega)) E E ?_
  have hDl:(D++[45]).length=D.length+1:=by simp
  generalize D++[45]=D at *
  ((first|refine rG Γ hm ?_|refine rD Γ hm z_ ?_);(conv=>whnf);repeat((first|refine aF ?_|refine aT ?_);(first|refine rG Γ hm ?_|refine rD Γ hm z_ ?_);conv=>whnf))
  refine iL ?_
  ((conv=>whnf);repeat((first|refine aF ?_|refine aT ?_);(first|refine rG Γ hm ?_|refine rD Γ hm z_ ?_);conv=>whnf))
  refine Ev (D.length / 2) (fun j=>[(3,.osl 1000),(6,Aa j),(7,Aa (D.length-1-j:Nat))]) (fun j=>[(1000,.row 1 Cc (Kn D j))]) [(1000,30)]
   ⟨⟨rfl,rfl,rfl,rfl,congrArg (fun z=>SV.val (.int .i64 z)) q_,rfl,trivial⟩,⟨.inl (congrArg (Ob.row 1 Cc) (To D)),rfl,trivial⟩,rfl,rfl⟩ ?_
  intro i hi
  have hul:=Ce D i
  ((first|refine rG Γ hm ?_|refine rD Γ hm z_ ?_);(conv=>whnf);repeat((first|refine aF ?_|refine aT ?_);(first|refine rG Γ hm ?_|refine rD Γ hm z_ ?_);conv=>whnf))
  refine⟨fun h2=>?_,fun h2=>?_⟩
  ·have hlt:2 * i+1<D.length:=by have:=of_decide_eq_true h2;omega
   obtain ⟨u,hu⟩:∃ u,Kn D i=u:=⟨_,rfl⟩
   obtain ⟨k,hk⟩:∃ k,D.length-1-i=k:=⟨_,rfl⟩
   rw[hu]at hul
   have hs:=Tp hu hlt hk q_ q_
   rw[hu,hk]
   ((first|refine rG Γ hm ?_|refine rD Γ hm z_ ?_);(conv=>whnf);repeat((first|refine aF ?_|refine aT ?_);(first|refine rG Γ hm ?_|refine rD Γ hm z_ ?_);conv=>whnf))
   refine⟨by omega,by omega,?_⟩
   ((conv=>whnf);repeat((first|refine aF ?_|refine aT ?_);(first|refine rG Γ hm ?_|refine rD Γ hm z_ ?_);conv=>whnf))
   refine⟨E,by omega,?_⟩
   ((conv=>whnf);repeat((first|refine aF ?_|refine aT ?_);(first|refine rG Γ hm ?_|refine rD Γ hm z_ ?_);conv=>whnf))
   refine⟨by omega,by omega,?_⟩
   ((conv=>whnf);repeat((first|refine aF ?_|refine aT ?_);(first|refine rG Γ hm ?_|refine rD Γ hm z_ ?_);conv=>whnf))
   refine⟨E,by omega,?_⟩
   ((conv=>whnf);repeat((first|refine aF ?_|refine aT ?_);(first|refine rG Γ hm ?_|refine rD Γ hm z_ ?_);conv=>whnf))
   refine⟨by omega,by omega,?_⟩
   ((conv=>whnf);repeat((first|refine aF ?_|refine aT ?_);(first|refine rG Γ hm ?_|refine rD Γ hm z_ ?_);conv=>whnf))
   refine⟨E,by omega,u[k],E,E,?_⟩
   ((conv=>whnf);repeat((first|refine aF ?_|refine aT ?_);(first|refine rG Γ hm ?_|refine rD Γ hm z_ ?_);conv=>whnf))
   refine⟨by omega,by simp;omega,?_⟩
   ((conv=>whnf);repeat((first|refine aF ?_|refine aT ?_);(first|refine rG Γ hm ?_|refine rD Γ hm z_ ?_);conv=>whnf))
   refine⟨E,by simp;omega,u[i],E,E,?_⟩
   ((conv=>whnf);repeat((first|refine aF ?_|refine aT ?_);(first|refine rG Γ hm ?_|refine rD Γ hm z_ ?_);conv=>whnf))
   refine⟨z_,?_⟩
   ((conv=>whnf);repeat((first|refine aF ?_|refine aT ?_);(first|refine rG Γ hm ?_|refine rD Γ hm z_ ?_);conv=>whnf))
   refine iL ?_
   ((conv=>whnf);repeat((first|refine aF ?_|refine aT ?_);(first|refine rG Γ hm ?_|refine rD Γ hm z_ ?_);conv=>whnf))
   refine iL ?_
   ((conv=>whnf);repeat((first|refine aF ?_|refine aT ?_);(first|refine rG Γ hm ?_|refine rD Γ hm z_ ?_);conv=>whnf))
   refine Hw [] q_ ⟨⟨E,E,E,E,congrArg (fun z=>SV.val (.int .i64 z)) q_,E,Y⟩,⟨.inl (congrArg (Ob.row 1 Cc) hs.symm),E,Y⟩,E,E⟩
  ·have h3:D.length≤2 * i+1:=by have:=of_decide_eq_false h2;omega
   rw[Vy D i h3]
   ((first|refine rG Γ hm ?_|refine rD Γ hm z_ ?_);(conv=>whnf);repeat((first|refine aF ?_|refine aT ?_);(first|refine rG Γ hm ?_|refine rD Γ hm z_ ?_);conv=>whnf))
   refine Cg (I9 Γ.toTy (bs:=D.reverse) E E E E E E E (.row E)) E E ?_
   ((first|refine rG Γ hm ?_|refine rD Γ hm z_ ?_);(conv=>whnf);repeat((first|refine aF ?_|refine aT ?_);(first|refine rG Γ hm ?_|refine rD Γ hm z_ ?_);conv=>whnf))
   exact dN
end Go.Sy.YtjenpnjajjplkaaGreatDoor
namespace Go.Sy.YtjenpnjajjplkaaGreatDoor
open Go.Proofs
attribute [local irreducible] Go.Sy.G Go.Sy.DR
set_option maxRecDepth 20000
set_option maxHeartbeats 4000000
def Vl (n:Int):Prop:=-9223372036854775808≤n∧n<9223372036854775808
theorem Aav (n:Int) (h:Vl n):Sy.Spec Tryz.prog 117 [Aa n] [] (Ah (V9 n)) []:=by
 unfold Vl at h
 by_cases h0:0≤n
 ·obtain ⟨m,rfl⟩:=Int.eq_ofNat_of_zero_le h0
  exact Aci m q_
 ·obtain ⟨m,hmn⟩:∃ m:Nat,n=-(m:Int):=⟨n.natAbs,by omega⟩
  subst hmn
  exact V8 m q_ q_
theorem U9 (n:Net) (hn:n.Fin) (l:List Domain) (p:Domain→Bool) (f:FuncId) (first cap:List SV) (hc:(SV.clo (.func f) first cap).inn []=true) (hf:∀ x∈l,Hc Tryz.prog f (first++[Ai x]++cap) (Ab (p x))) (hl:Aq l) :
  Sy.Spec Tryz.prog 251 [Ao n,.sl 6 Ai l,.clo (.func f) first cap] [] (Aa (if Af n=true then Br p l else -1)) []:=cT F251 Tryz.ntmps251 fun F hF=>by
 have hr:=Bn n hn
 have q:=Dd l p f first cap hc hf hl
 conv=>whnf
 refine c0 hr F25 ?_
 cases hb:Af n
 ·rw[if_neg y_]
  refine oT ?_
  exact dN
 rw[if_pos rfl]
 refine oF ?_
 refine Jh q F163 E E (by simp only[Bs,hc,Bool.and_true];rfl) E E ?_
 refine oO ?_
 exact dN
theorem Uv (dev vlan:Int) (d:Domain):Sy.Spec Tryz.prog 252 [Ai d,.ref 1 (Aa dev) 0,.ref 1 (Aa vlan) 0] [] (Ab (d.dev == dev && d.vlan == vlan)) []:=cT F252 Tryz.ntmps252 fun F hF=>by
 conv=>whnf
 (repeat' (first | (refine⟨fun h=>?_,fun h=>?_⟩<;>(repeat (first | simp only[beq_iff_eq]at h | simp only[beq_eq_false_iff_ne]at h))<;>((refine oO ?_))) | (refine Ar rfl (.cons .tmp .nil) ?_ rfl)))
 all_goals (refine congrArg Ab ?_)
 all_goals simp_all
def O9 (n:Net) (dev vlan:Int):Int:=if Af n=true then B7 n dev vlan else -1
theorem Lw (n:Net) (hn:n.Fin) (dev vlan:Int):Sy.Spec Tryz.prog 168 [Ao n,Aa dev,Aa vlan] [] (Aa (O9 n dev vlan)) []:=cT F168 Tryz.ntmps168 fun F hF=>by
 have q:=U9 n hn n.domains (fun d=>d.dev == dev && d.vlan == vlan) 252 [] [.ref 1 (Aa dev) 0,.ref 1 (Aa vlan) 0] rfl (fun d _=>⟨⟨_,_,F252⟩,Uv dev vlan d⟩) hn.domains
 conv=>whnf
 refine Bg 4 1 (Aa dev) E E E ?_
 refine Bg 5 1 (Aa vlan) E E E ?_
 refine c0 q F251 ?_
 refine oO ?_
 exact dN
def Ha (n:Net) (i:Int):Int :=
 if (0≤i∧i<n.ports.length)∧0≤(nth n.ports i).link∧Af n=true then
  (if (nth n.links (nth n.ports i).link).a=i then (nth n.links (nth n.ports i).link).b else (nth n.links (nth n.ports i).link).a) else -1
theorem Oo {n:Net} (h:Af n=true) {i:Nat} (hi:i<n.ports.length) (hl:0≤n.ports[i].link) :
  n.ports[i].link.toNat<n.links.length∧((nth n.links n.ports[i].link).a=i∨(nth n.links n.ports[i].link).b=i):=by
 have:=Adf h hi
 simp only[Ij,Al,Bool.and_eq_true,Bool.or_eq_true,decide_eq_true_eq,beq_iff_eq]at this
 rcases this.2 with h1 | h1
 ·omega
 ·exact⟨by omega,h1.2⟩
theorem Uy (n:Net) (hn:n.Fin) (i:Int):Sy.Spec Tryz.prog 184 [Ao n,Aa i] [] (Aa (Ha n i)) []:=cT F184 Tryz.ntmps184 fun F hF=>by
 have hr:=Bn n hn
 conv=>whnf
 refine⟨fun h=>?_,fun h=>?_⟩
 ·have h1:i<0:=of_decide_eq_true h
  rw[Ha,if_neg q_]
  (refine oT ?_;refine bT ?_;refine bT ?_)
  exact dN
 have h1:0≤i:=qB h
 refine oO ?_
 refine⟨fun h=>?_,fun h=>?_⟩
 ·have h2:n.ports.length≤i:=of_decide_eq_true h
  rw[Ha,if_neg q_]
  (refine oT ?_;refine bT ?_)
  exact dN
 have h2:i<n.ports.length:=qB h
 have hk:i.toNat<n.ports.length:=by omega
 have e1:nth n.ports i=n.ports[i.toNat]:=A7 hk
 have hlk:=fun (hb:Af n=true)=>Oo hb hk
 rw[Ha,e1]
 obtain ⟨p,hp⟩:∃ p,n.ports[i.toNat]=p:=⟨_,rfl⟩
 rw[hp]at hlk ⊢
 refine oO ?_
 refine⟨E,h1,hk,?_⟩
 rw[hp]
 conv=>whnf
 refine⟨fun h=>?_,fun h=>?_⟩
 ·have h3:p.link<0:=of_decide_eq_true h
  rw[if_neg q_]
  refine oT ?_
  exact dN
 have h3:0≤p.link:=qB h
 refine oO ?_
 refine c0 hr F25 ?_
 cases hb:Af n
 ·rw[if_neg y_]
  refine oT ?_
  exact dN
 rw[if_pos ⟨⟨h1,h2⟩,h3,rfl⟩]
 have hq:=hlk hb h3
 have e2:nth n.links p.link=n.links[p.link.toNat]:=A7 hq.1
 rw[e2]
 obtain ⟨l,hl⟩:∃ l,n.links[p.link.toNat]'hq.1=l:=⟨_,rfl⟩
 rw[hl]
 refine oF ?_
 refine⟨E,h1,hk,?_⟩
 rw[hp]
 conv=>whnf
 refine⟨E,h3,hq.1,?_⟩
 rw[hl]
 conv=>whnf
 refine kW ?_
 refine⟨fun h=>?_,fun h=>?_⟩
 ·have h4:l.a=i:=by simpa using h
  rw[if_pos h4]
  refine oO ?_
  exact dN
 ·have h4:¬ l.a=i:=by simpa using h
  rw[if_neg h4]
  refine oO ?_
  exact dN
end Go.Sy.YtjenpnjajjplkaaGreatDoor
