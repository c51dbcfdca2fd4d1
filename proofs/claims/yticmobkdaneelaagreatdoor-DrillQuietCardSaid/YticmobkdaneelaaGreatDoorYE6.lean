/- Parts of a proof. -/
import Derived.Test.YticmobkdaneelaaGreatDoorYE5
import Derived.Test.YticmobkdaneelaaGreatDoorProg
import Derived.ProofKit
import Derived.OpenShut
import Derived.Lib.Join
import Derived.Shelf.Strings.Search3
import Derived.Shelf.Strings.Cut
import Derived.Shelf.Strings.Prefix
set_option linter.all false
set_option linter.unusedVariables false
set_option linter.unusedSimpArgs false
set_option linter.deprecated false
namespace Go.Sy.YticmobkdaneelaaGreatDoor
open Go.Proofs Go.Proofs.Tryz
set_option maxRecDepth 100000
def ndO{α:Type}{f:Nat→Option α}{k:Nat}{v:α}{l r:Tr α}(h:f k=some v)(hl:l.all (λt i=>f t=some i))(hr:r.all (λt i=>f t=some i)):(Tr.nd k v l r).all (λt i=>f t=some i):=⟨h,hl,hr⟩
abbrev Ae:Value:=.int .i64 0
abbrev Ar:Value:=.slice none 0 0
abbrev Kw:Value:=.string .empty
def tab:Tr TI:=(.nd 151 (⟨.struct [(0,8)],8,[Ar,Ar,Ar,Ar,Ar,Ar,Ar,Ar]⟩) (.nd 75 (⟨.slice 146 4 32 [Ae,Ae,Ae,.int .u32 0],1,[Ar]⟩) (.nd 31 (⟨.slice 108 4 48 [Ae,Ae,Ae,Ar],1,[Ar]⟩) (.nd 22 (⟨.slice 5 1 1 [.int .u8 0],1,[Ar]⟩) (.nd 4 (⟨.bool,1,[.bool false]⟩) (.nd 2 (⟨.int .i64,1,[Ae]⟩) (.nd 1 (⟨.func,1,[.nilFunc]⟩) .lf .lf) (.nd 3 (⟨.int .i64,1,[Ae]⟩) .lf .lf)) (.nd 9 (⟨.string,1,[Kw]⟩) (.nd 5 (⟨.int .u8,1,[.int .u8 0]⟩) .lf .lf) (.nd 20 (⟨.iface,1,[.nilIface]⟩) .lf .lf))) (.nd 27 (⟨.slice 104 7 80 [Ae,Ae,Ae,Ae,Ae,Kw,Ar],1,[Ar]⟩) (.nd 24 (⟨.int .u64,1,[.int .u64 0]⟩) (.nd 23 (⟨.slice 3 1 8 [Ae],1,[Ar]⟩) .lf .lf) (.nd 26 (⟨.slice 167 5 48 [Ae,Ae,Kw,.int .u64 0,.int .u32 0],1,[Ar]⟩) .lf .lf)) (.nd 29 (⟨.slice 106 6 64 [Ae,Ae,Ae,Ae,Ae,Ar],1,[Ar]⟩) (.nd 28 (⟨.slice 158 3 24 [Ae,Ae,Ae],1,[Ar]⟩) .lf .lf) (.nd 30 (⟨.slice 162 4 32 [Ae,Ae,Ae,.int .u64 0],1,[Ar]⟩) .lf .lf)))) (.nd 53 (⟨.struct [(0,1),(1,1),(2,1),(3,1),(4,1),(5,1)],6,[Ae,Ae,Ae,Ae,Ar,Ar]⟩) (.nd 36 (⟨.int .i64,1,[Ae]⟩) (.nd 33 (⟨.slice 175 5 40 [Ae,Ae,Ae,.int .u32 0,Ae],1,[Ar]⟩) (.nd 32 (⟨.slice 110 5 80 [Ae,Ae,Kw,Ar,Ar],1,[Ar]⟩) .lf .lf) (.nd 35 (⟨.struct [(0,1),(1,1),(2,1),(3,1),(4,1),(5,1),(6,1),(7,1)],8,[Ar,Ar,Ar,Ar,Ar,Ar,Ar,Ar]⟩) .lf .lf)) (.nd 42 (⟨.struct [(0,1),(1,1),(2,1),(3,1),(4,1)],5,[Ae,Ae,Ae,Ae,Ar]⟩) (.nd 40 (⟨.slice 53 6 80 [Ae,Ae,Ae,Ae,Ar,Ar],1,[Ar]⟩) .lf .lf) (.nd 51 (⟨.slice 4 1 1 [.bool false],1,[Ar]⟩) .lf .lf))) (.nd 63 (⟨.ptr,1,[.pointer none]⟩) (.nd 58 (⟨.slice 61 1 24 [Ar],1,[Ar]⟩) (.nd 54 (⟨.slice 85 17 240 [Ae,Ae,Kw,Kw,Kw,Kw,Kw,.int .u64 0,.int .u32 0,Ae,Ae,Ae,Ae,Ar,Ar,Ar,Ar],1,[Ar]⟩) .lf .lf) (.nd 61 (⟨.slice 369 3 24 [.int .u64 0,Ae,Ae],1,[Ar]⟩) .lf .lf)) (.nd 67 (⟨.func,1,[.nilFunc]⟩) (.nd 66 (⟨.ptr,1,[.pointer none]⟩) .lf .lf) (.nd 71 (⟨.slice 230 3 40 [Ae,Ae,Ar],1,[Ar]⟩) .lf .lf))))) (.nd 118 (⟨.slice 294 1 24 [Ar],1,[Ar]⟩) (.nd 99 (⟨.struct [(0,0),(0,1),(1,2)],3,[.int .u32 0,.int .i32 0,.int .u32 0]⟩) (.nd 85 (⟨.struct [(0,1),(1,1),(2,1),(3,1),(4,1),(5,1),(6,1),(7,1),(8,1),(9,1),(10,1),(11,1),(12,1),(13,1),(14,1),(15,1),(16,1)],17,[Ae,Ae,Kw,Kw,Kw,Kw,Kw,.int .u64 0,.int .u32 0,Ae,Ae,Ae,Ae,Ar,Ar,Ar,Ar]⟩) (.nd 82 (⟨.int .u32,1,[.int .u32 0]⟩) (.nd 78 (⟨.slice 9 1 16 [Kw],1,[Ar]⟩) .lf .lf) (.nd 83 (⟨.slice 82 1 4 [.int .u32 0],1,[Ar]⟩) .lf .lf)) (.nd 93 (⟨.struct [(0,0),(0,1)],1,[.int .u32 0]⟩) (.nd 88 (⟨.ptr,1,[.pointer none]⟩) .lf .lf) (.nd 97 (⟨.struct [(0,0),(0,2)],2,[.int .i32 0,.int .u32 0]⟩) .lf .lf))) (.nd 108 (⟨.struct [(0,1),(1,1),(2,1),(3,1)],4,[Ae,Ae,Ae,Ar]⟩) (.nd 104 (⟨.struct [(0,1),(1,1),(2,1),(3,1),(4,1),(5,1),(6,1)],7,[Ae,Ae,Ae,Ae,Ae,Kw,Ar]⟩) (.nd 101 (⟨.struct [(0,3),(3,1),(4,8),(12,1),(13,1)],14,[.int .u32 0,.int .i32 0,.int .u32 0,Ar,Ar,Ar,Ar,Ar,Ar,Ar,Ar,Ar,Ae,Ae]⟩) .lf .lf) (.nd 106 (⟨.struct [(0,1),(1,1),(2,1),(3,1),(4,1),(5,1)],6,[Ae,Ae,Ae,Ae,Ae,Ar]⟩) .lf .lf)) (.nd 115 (⟨.ptr,1,[.pointer none]⟩) (.nd 110 (⟨.struct [(0,1),(1,1),(2,1),(3,1),(4,1)],5,[Ae,Ae,Kw,Ar,Ar]⟩) .lf .lf) (.nd 117 (⟨.struct [(0,1),(1,3),(4,1)],5,[Ar,.int .u32 0,.int .i32 0,.int .u32 0,Ar]⟩) .lf .lf)))) (.nd 135 (⟨.ptr,1,[.pointer none]⟩) (.nd 125 (⟨.func,1,[.nilFunc]⟩) (.nd 122 (⟨.array 121 64 1,64,[Ae,Ae,Ae,Ae,Ae,Ae,Ae,Ae,Ae,Ae,Ae,Ae,Ae,Ae,Ae,Ae,Ae,Ae,Ae,Ae,Ae,Ae,Ae,Ae,Ae,Ae,Ae,Ae,Ae,Ae,Ae,Ae,Ae,Ae,Ae,Ae,Ae,Ae,Ae,Ae,Ae,Ae,Ae,Ae,Ae,Ae,Ae,Ae,Ae,Ae,Ae,Ae,Ae,Ae,Ae,Ae,Ae,Ae,Ae,Ae,Ae,Ae,Ae,Ae]⟩) (.nd 121 (⟨.struct [(0,0),(0,0),(0,1)],1,[Ae]⟩) .lf .lf) (.nd 124 (⟨.struct [(0,8),(8,1),(9,1),(10,1),(11,1),(12,1),(13,64)],77,[Ar,Ar,Ar,Ar,Ar,Ar,Ar,Ar,.pointer none,Ar,Ar,Ae,Ae,Ae,Ae,Ae,Ae,Ae,Ae,Ae,Ae,Ae,Ae,Ae,Ae,Ae,Ae,Ae,Ae,Ae,Ae,Ae,Ae,Ae,Ae,Ae,Ae,Ae,Ae,Ae,Ae,Ae,Ae,Ae,Ae,Ae,Ae,Ae,Ae,Ae,Ae,Ae,Ae,Ae,Ae,Ae,Ae,Ae,Ae,Ae,Ae,Ae,Ae,Ae,Ae,Ae,Ae,Ae,Ae,Ae,Ae,Ae,Ae,Ae,Ae,Ae,Ae]⟩) .lf .lf)) (.nd 128 (⟨.int .u64,1,[.int .u64 0]⟩) (.nd 127 (⟨.struct [(0,8),(8,1),(9,1)],10,[Ar,Ar,Ar,Ar,Ar,Ar,Ar,Ar,Ar,.nilFunc]⟩) .lf .lf) (.nd 132 (⟨.struct [(0,8),(8,1),(9,1)],10,[Ar,Ar,Ar,Ar,Ar,Ar,Ar,Ar,Ar,Ar]⟩) .lf .lf))) (.nd 144 (⟨.struct [(0,1),(1,1)],2,[Ae,Ae]⟩) (.nd 137 (⟨.slice 148 7 56 [Ae,Ae,Ae,Ae,Ae,.int .u32 0,Ae],1,[Ar]⟩) (.nd 136 (⟨.array 51 2 1,2,[Ar,Ar]⟩) .lf .lf) (.nd 139 (⟨.struct [(0,8),(8,2),(10,1)],11,[Ar,Ar,Ar,Ar,Ar,Ar,Ar,Ar,Ar,Ar,Ar]⟩) .lf .lf)) (.nd 148 (⟨.struct [(0,2),(2,4),(6,1)],7,[Ae,Ae,Ae,Ae,Ae,.int .u32 0,Ae]⟩) (.nd 146 (⟨.struct [(0,1),(1,1),(2,1),(3,1)],4,[Ae,Ae,Ae,.int .u32 0]⟩) .lf .lf) .lf))))) (.nd 311 (⟨.func,1,[.nilFunc]⟩) (.nd 191 (⟨.ptr,1,[.pointer none]⟩) (.nd 168 (⟨.func,1,[.nilFunc]⟩) (.nd 159 (⟨.func,1,[.nilFunc]⟩) (.nd 155 (⟨.func,1,[.nilFunc]⟩) (.nd 153 (⟨.func,1,[.nilFunc]⟩) .lf .lf) (.nd 158 (⟨.struct [(0,1),(1,1),(2,1)],3,[Ae,Ae,Ae]⟩) .lf .lf)) (.nd 163 (⟨.func,1,[.nilFunc]⟩) (.nd 162 (⟨.struct [(0,1),(1,1),(2,1),(3,1)],4,[Ae,Ae,Ae,.int .u64 0]⟩) .lf .lf) (.nd 167 (⟨.struct [(0,1),(1,1),(2,1),(3,1),(4,1)],5,[Ae,Ae,Kw,.int .u64 0,.int .u32 0]⟩) .lf .lf))) (.nd 176 (⟨.func,1,[.nilFunc]⟩) (.nd 173 (⟨.struct [(0,1),(1,1)],2,[.int .u32 0,Ae]⟩) (.nd 170 (⟨.func,1,[.nilFunc]⟩) .lf .lf) (.nd 175 (⟨.struct [(0,1),(1,1),(2,1),(3,2)],5,[Ae,Ae,Ae,.int .u32 0,Ae]⟩) .lf .lf)) (.nd 185 (⟨.struct [(0,1),(1,1),(2,1)],3,[Ar,Ae,Ae]⟩) (.nd 183 (⟨.ptr,1,[.pointer none]⟩) .lf .lf) (.nd 188 (⟨.func,1,[.nilFunc]⟩) .lf .lf)))) (.nd 245 (⟨.func,1,[.nilFunc]⟩) (.nd 223 (⟨.struct [(0,1),(1,1),(2,1),(3,4)],7,[Ae,Ae,Ae,.int .u64 0,.int .u64 0,Ae,Ar]⟩) (.nd 203 (⟨.ptr,1,[.pointer none]⟩) (.nd 193 (⟨.func,1,[.nilFunc]⟩) .lf .lf) (.nd 221 (⟨.struct [(0,1),(1,1),(2,1),(3,1)],4,[.int .u64 0,.int .u64 0,Ae,Ar]⟩) .lf .lf)) (.nd 238 (⟨.slice 241 3 24 [Ae,Ae,.int .u32 0],1,[Ar]⟩) (.nd 230 (⟨.struct [(0,1),(1,1),(2,1)],3,[Ae,Ae,Ar]⟩) .lf .lf) (.nd 241 (⟨.struct [(0,1),(1,1),(2,1)],3,[Ae,Ae,.int .u32 0]⟩) .lf .lf))) (.nd 291 (⟨.struct [(0,1),(1,1),(2,1),(3,1),(4,4),(8,1)],9,[Ae,Ae,Ae,Ar,.int .u64 0,.int .u64 0,Ae,Ar,Ae]⟩) (.nd 275 (⟨.struct [(0,8),(8,1),(9,1),(10,1),(11,1)],12,[Ar,Ar,Ar,Ar,Ar,Ar,Ar,Ar,Ar,Ar,Ar,Ar]⟩) (.nd 264 (⟨.ptr,1,[.pointer none]⟩) .lf .lf) (.nd 285 (⟨.slice 291 9 104 [Ae,Ae,Ae,Ar,.int .u64 0,.int .u64 0,Ae,Ar,Ae],1,[Ar]⟩) .lf .lf)) (.nd 294 (⟨.slice 223 7 72 [Ae,Ae,Ae,.int .u64 0,.int .u64 0,Ae,Ar],1,[Ar]⟩) (.nd 293 (⟨.func,1,[.nilFunc]⟩) .lf .lf) (.nd 300 (⟨.func,1,[.nilFunc]⟩) .lf .lf))))) (.nd 390 (⟨.func,1,[.nilFunc]⟩) (.nd 335 (⟨.slice 337 5 40 [Ae,Ae,Ae,Ae,Ae],1,[Ar]⟩) (.nd 323 (⟨.func,1,[.nilFunc]⟩) (.nd 314 (⟨.ptr,1,[.pointer none]⟩) (.nd 312 (⟨.ptr,1,[.pointer none]⟩) .lf .lf) (.nd 318 (⟨.slice 3 1 8 [Ae],1,[Ar]⟩) .lf .lf)) (.nd 329 (⟨.slice 332 3 24 [Ae,Ae,Ae],1,[Ar]⟩) (.nd 327 (⟨.ptr,1,[.pointer none]⟩) .lf .lf) (.nd 332 (⟨.struct [(0,1),(1,1),(2,1)],3,[Ae,Ae,Ae]⟩) .lf .lf))) (.nd 371 (⟨.func,1,[.nilFunc]⟩) (.nd 343 (⟨.struct [(0,1),(1,1),(2,1),(3,1),(4,1),(5,1),(6,1)],7,[Ae,Ae,Ae,Ae,.int .u32 0,.int .u32 0,Ar]⟩) (.nd 337 (⟨.struct [(0,1),(1,1),(2,1),(3,1),(4,1)],5,[Ae,Ae,Ae,Ae,Ae]⟩) .lf .lf) (.nd 369 (⟨.struct [(0,1),(1,1),(2,1)],3,[.int .u64 0,Ae,Ae]⟩) .lf .lf)) (.nd 384 (⟨.ptr,1,[.pointer none]⟩) (.nd 376 (⟨.func,1,[.nilFunc]⟩) .lf .lf) (.nd 389 (⟨.struct [(0,8)],8,[Ar,Ar,Ar,Ar,Ar,Ar,Ar,Ar]⟩) .lf .lf)))) (.nd 438 (⟨.ptr,1,[.pointer none]⟩) (.nd 419 (⟨.ptr,1,[.pointer none]⟩) (.nd 403 (⟨.func,1,[.nilFunc]⟩) (.nd 396 (⟨.array 3 2 1,2,[Ae,Ae]⟩) .lf .lf) (.nd 408 (⟨.iface,1,[.nilIface]⟩) .lf .lf)) (.nd 432 (⟨.struct [(0,8)],8,[Ar,Ar,Ar,Ar,Ar,Ar,Ar,Ar]⟩) (.nd 424 (⟨.struct [(0,8),(8,1),(9,1),(10,1),(11,1)],12,[Ar,Ar,Ar,Ar,Ar,Ar,Ar,Ar,Ar,Ae,Ae,Ar]⟩) .lf .lf) (.nd 436 (⟨.ptr,1,[.pointer none]⟩) .lf .lf))) (.nd 484 (⟨.struct [(0,7),(7,1)],8,[Ae,Ae,Ae,Ae,.int .u32 0,.int .u32 0,Ar,Ae]⟩) (.nd 466 (⟨.func,1,[.nilFunc]⟩) (.nd 463 (⟨.func,1,[.nilFunc]⟩) .lf .lf) (.nd 482 (⟨.ptr,1,[.pointer none]⟩) .lf .lf)) (.nd 501 (⟨.array 3 4 1,4,[Ae,Ae,Ae,Ae]⟩) (.nd 486 (⟨.struct [(0,8),(8,1)],9,[Ae,Ae,Ae,Ae,.int .u32 0,.int .u32 0,Ar,Ae,Ae]⟩) .lf .lf) .lf))))))
def etab:Tr (List EK):=(.nd 173 ([.int .u32,.int .i64]) (.nd 158 ([.int .i64,.int .i64,.int .i64]) (.nd 146 ([.int .i64,.int .i64,.int .i64,.int .u32]) (.nd 144 ([.int .i64,.int .i64]) .lf .lf) .lf) (.nd 167 ([.int .i64,.int .i64,.string,.int .u64,.int .u32]) (.nd 162 ([.int .i64,.int .i64,.int .i64,.int .u64]) .lf .lf) .lf)) (.nd 337 ([.int .i64,.int .i64,.int .i64,.int .i64,.int .i64]) (.nd 332 ([.int .i64,.int .i64,.int .i64]) (.nd 241 ([.int .i64,.int .i64,.int .u32]) .lf .lf) .lf) (.nd 369 ([.int .u64,.int .i64,.int .i64]) .lf .lf)))
def tab_ok:tab.all (λt i=>tiOf prog t=some i):=by
 unfold tab
 repeat' (first|exact trivial|refine ndO z_ ?_ ?_)
def A55:etab.all (λt i=>A3l prog t=some i):=by
 unfold etab
 repeat' (first|exact trivial|refine ndO z_ ?_ ?_)
def Γ:TyE prog:=⟨⟨λt=>tab.look t,λ_ _ h=>A4y (Tr.look_ok tab_ok h)⟩,λt=>etab.look t,λ_ _ h=>A3k (Tr.look_ok A55 h)⟩
theorem hm:prog.follows .mixedOrders=true:=by kernel_rfl
abbrev Sq:=Sy.Spec prog
abbrev Sp(f:FuncId)(A:List SV)(R:SV):Prop:=Sy.Spec prog f A [] R []
abbrev fT(i:Nat)(fn:Func):Prop:=Fun prog i fn (Agv fn)
def fN{P : Program}{f : FuncId}{fn : Func}(h : P.funcs[f]? = some fn)(hb : fn.body = some (Agv fn) := by exact rfl)(hn : (fn.name == "runtime.NumGoroutine") = false := by kernel_rfl) : Fun P f fn (Agv fn) := ⟨h, hb, hn⟩
def cT{f:FuncId}{fn:Func}{c:Code}{A:List SV}{H:Obs}{R:SV}{H':Obs}(hF:Fun prog f fn c){n:Nat}(lj:fn.ntmps=n)(h:∀(F:Fr) (hF:∀k,F.k0 k≠.new→k∈H.keys),Og ⟨prog,Γ.toTy,F,n,Wo prog fn F R H',H.keys,hF⟩ Γ 100 [.code c] ⟨argσ A,mkh H⟩)(hn:Aou A n=true:=by exact rfl):Sy.Spec prog f A H R H':=El Γ hm 100 hF lj hn h
def F3:fT 3 f3:=fN func3
def F4:fT 4 f4:=fN func4
def F5:fT 5 f5:=fN func5
def F6:fT 6 f6:=fN func6
def F7:fT 7 f7:=fN func7
def F8:fT 8 f8:=fN func8
def F9:fT 9 f9:=fN func9
def F10:fT 10 f10:=fN func10
def F11:fT 11 f11:=fN func11
def F12:fT 12 f12:=fN func12
def F13:fT 13 f13:=fN func13
def F14:fT 14 f14:=fN func14
def F15:fT 15 f15:=fN func15
def F16:fT 16 f16:=fN func16
def F17:fT 17 f17:=fN func17
def F18:fT 18 f18:=fN func18
def F19:fT 19 f19:=fN func19
def F20:fT 20 f20:=fN func20
def F21:fT 21 f21:=fN func21
def F22:fT 22 f22:=fN func22
def F24:fT 24 f24:=fN func24
def F25:fT 25 f25:=fN func25
def F26:fT 26 f26:=fN func26
def F27:fT 27 f27:=fN func27
def F28:fT 28 f28:=fN func28
def F29:fT 29 f29:=fN func29
def F30:fT 30 f30:=fN func30
def F31:fT 31 f31:=fN func31
def F32:fT 32 f32:=fN func32
def F33:fT 33 f33:=fN func33
def F34:fT 34 f34:=fN func34
def F35:fT 35 f35:=fN func35
def F36:fT 36 f36:=fN func36
def F37:fT 37 f37:=fN func37
def F38:fT 38 f38:=fN func38
def F39:fT 39 f39:=fN func39
def F40:fT 40 f40:=fN func40
def F41:fT 41 f41:=fN func41
def F42:fT 42 f42:=fN func42
def F43:fT 43 f43:=fN func43
def F44:fT 44 f44:=fN func44
def F45:fT 45 f45:=fN func45
def F46:fT 46 f46:=fN func46
def F47:fT 47 f47:=fN func47
def F48:fT 48 f48:=fN func48
def F49:fT 49 f49:=fN func49
def F50:fT 50 f50:=fN func50
def F51:fT 51 f51:=fN func51
def F52:fT 52 f52:=fN func52
def F53:fT 53 f53:=fN func53
def F54:fT 54 f54:=fN func54
def F55:fT 55 f55:=fN func55
def F56:fT 56 f56:=fN func56
def F57:fT 57 f57:=fN func57
def F58:fT 58 f58:=fN func58
def F59:fT 59 f59:=fN func59
def F60:fT 60 f60:=fN func60
def F61:fT 61 f61:=fN func61
def F62:fT 62 f62:=fN func62
def F63:fT 63 f63:=fN func63
def F64:fT 64 f64:=fN func64
def F65:fT 65 f65:=fN func65
def F66:fT 66 f66:=fN func66
def F67:fT 67 f67:=fN func67
def F68:fT 68 f68:=fN func68
def F69:fT 69 f69:=fN func69
def F70:fT 70 f70:=fN func70
def F71:fT 71 f71:=fN func71
def F72:fT 72 f72:=fN func72
def F73:fT 73 f73:=fN func73
def F74:fT 74 f74:=fN func74
def F75:fT 75 f75:=fN func75
def F76:fT 76 f76:=fN func76
def F77:fT 77 f77:=fN func77
def F78:fT 78 f78:=fN func78
def F79:fT 79 f79:=fN func79
def F80:fT 80 f80:=fN func80
def F81:fT 81 f81:=fN func81
def F82:fT 82 f82:=fN func82
def F83:fT 83 f83:=fN func83
def F84:fT 84 f84:=fN func84
def F85:fT 85 f85:=fN func85
def F86:fT 86 f86:=fN func86
def F87:fT 87 f87:=fN func87
def F88:fT 88 f88:=fN func88
def F89:fT 89 f89:=fN func89
def F90:fT 90 f90:=fN func90
def F91:fT 91 f91:=fN func91
def F92:fT 92 f92:=fN func92
def F93:fT 93 f93:=fN func93
def F94:fT 94 f94:=fN func94
def F95:fT 95 f95:=fN func95
def F96:fT 96 f96:=fN func96
def F97:fT 97 f97:=fN func97
def F98:fT 98 f98:=fN func98
def F99:fT 99 f99:=fN func99
def F100:fT 100 f100:=fN func100
def F101:fT 101 f101:=fN func101
def F102:fT 102 f102:=fN func102
def F103:fT 103 f103:=fN func103
def F104:fT 104 f104:=fN func104
def F105:fT 105 f105:=fN func105
def F106:fT 106 f106:=fN func106
def F107:fT 107 f107:=fN func107
def F108:fT 108 f108:=fN func108
def F109:fT 109 f109:=fN func109
def F110:fT 110 f110:=fN func110
def F111:fT 111 f111:=fN func111
def F112:fT 112 f112:=fN func112
def F113:fT 113 f113:=fN func113
def F114:fT 114 f114:=fN func114
def F115:fT 115 f115:=fN func115
def F116:fT 116 f116:=fN func116
def F117:fT 117 f117:=fN func117
def F118:fT 118 f118:=fN func118
def F120:fT 120 f120:=fN func120
def F121:fT 121 f121:=fN func121
def F122:fT 122 f122:=fN func122
def F123:fT 123 f123:=fN func123
def F124:fT 124 f124:=fN func124
def F125:fT 125 f125:=fN func125
def F127:fT 127 f127:=fN func127
def F128:fT 128 f128:=fN func128
def F129:fT 129 f129:=fN func129
def F130:fT 130 f130:=fN func130
def F131:fT 131 f131:=fN func131
def F132:fT 132 f132:=fN func132
def F133:fT 133 f133:=fN func133
def F134:fT 134 f134:=fN func134
def F135:fT 135 f135:=fN func135
def F136:fT 136 f136:=fN func136
def F138:fT 138 f138:=fN func138
def F139:fT 139 f139:=fN func139
def F140:fT 140 f140:=fN func140
def F141:fT 141 f141:=fN func141
def F142:fT 142 f142:=fN func142
def F143:fT 143 f143:=fN func143
def F144:fT 144 f144:=fN func144
def F145:fT 145 f145:=fN func145
def F146:fT 146 f146:=fN func146
def F147:fT 147 f147:=fN func147
def F148:fT 148 f148:=fN func148
def F149:fT 149 f149:=fN func149
def F150:fT 150 f150:=fN func150
def F151:fT 151 f151:=fN func151
def F152:fT 152 f152:=fN func152
def F153:fT 153 f153:=fN func153
def F154:fT 154 f154:=fN func154
def F155:fT 155 f155:=fN func155
def F156:fT 156 f156:=fN func156
def F157:fT 157 f157:=fN func157
def F158:fT 158 f158:=fN func158
def F159:fT 159 f159:=fN func159
def F160:fT 160 f160:=fN func160
def F161:fT 161 f161:=fN func161
def F162:fT 162 f162:=fN func162
def F163:fT 163 f163:=fN func163
def F164:fT 164 f164:=fN func164
def F165:fT 165 f165:=fN func165
def F166:fT 166 f166:=fN func166
def F168:fT 168 f168:=fN func168
def F169:fT 169 f169:=fN func169
def F170:fT 170 f170:=fN func170
def F171:fT 171 f171:=fN func171
def F172:fT 172 f172:=fN func172
def F174:fT 174 f174:=fN func174
def F175:fT 175 f175:=fN func175
def F176:fT 176 f176:=fN func176
def F177:fT 177 f177:=fN func177
def F182:fT 182 f182:=fN func182
def F183:fT 183 f183:=fN func183
def F184:fT 184 f184:=fN func184
def F185:fT 185 f185:=fN func185
def F186:fT 186 f186:=fN func186
def F187:fT 187 f187:=fN func187
def F188:fT 188 f188:=fN func188
def F189:fT 189 f189:=fN func189
def F190:fT 190 f190:=fN func190
def F191:fT 191 f191:=fN func191
def F192:fT 192 f192:=fN func192
def F193:fT 193 f193:=fN func193
def F194:fT 194 f194:=fN func194
def F195:fT 195 f195:=fN func195
def F196:fT 196 f196:=fN func196
def F197:fT 197 f197:=fN func197
def F198:fT 198 f198:=fN func198
def F199:fT 199 f199:=fN func199
def F200:fT 200 f200:=fN func200
def F201:fT 201 f201:=fN func201
def F202:fT 202 f202:=fN func202
def F203:fT 203 f203:=fN func203
def F204:fT 204 f204:=fN func204
def F205:fT 205 f205:=fN func205
def F206:fT 206 f206:=fN func206
def F207:fT 207 f207:=fN func207
def F208:fT 208 f208:=fN func208
def F209:fT 209 f209:=fN func209
def F210:fT 210 f210:=fN func210
def F211:fT 211 f211:=fN func211
def F212:fT 212 f212:=fN func212
def F213:fT 213 f213:=fN func213
def F214:fT 214 f214:=fN func214
def F215:fT 215 f215:=fN func215
def F216:fT 216 f216:=fN func216
def F217:fT 217 f217:=fN func217
def F218:fT 218 f218:=fN func218
def F219:fT 219 f219:=fN func219
def F220:fT 220 f220:=fN func220
def F221:fT 221 f221:=fN func221
def F222:fT 222 f222:=fN func222
def F223:fT 223 f223:=fN func223
def F224:fT 224 f224:=fN func224
def F225:fT 225 f225:=fN func225
def F226:fT 226 f226:=fN func226
def F227:fT 227 f227:=fN func227
def F228:fT 228 f228:=fN func228
def F229:fT 229 f229:=fN func229
def F230:fT 230 f230:=fN func230
def F231:fT 231 f231:=fN func231
def F232:fT 232 f232:=fN func232
def F233:fT 233 f233:=fN func233
def F234:fT 234 f234:=fN func234
def F235:fT 235 f235:=fN func235
def F236:fT 236 f236:=fN func236
def F237:fT 237 f237:=fN func237
def F238:fT 238 f238:=fN func238
def F239:fT 239 f239:=fN func239
def F240:fT 240 f240:=fN func240
def F241:fT 241 f241:=fN func241
def F242:fT 242 f242:=fN func242
def F255:fT 255 f255:=fN func255
def F256:fT 256 f256:=fN func256
def F257:fT 257 f257:=fN func257
def F258:fT 258 f258:=fN func258
def F259:fT 259 f259:=fN func259
def F260:fT 260 f260:=fN func260
def F261:fT 261 f261:=fN func261
def F262:fT 262 f262:=fN func262
def F263:fT 263 f263:=fN func263
def F264:fT 264 f264:=fN func264
def F265:fT 265 f265:=fN func265
def F266:fT 266 f266:=fN func266
def F267:fT 267 f267:=fN func267
def F268:fT 268 f268:=fN func268
def F269:fT 269 f269:=fN func269
def F270:fT 270 f270:=fN func270
def F271:fT 271 f271:=fN func271
def F272:fT 272 f272:=fN func272
def F273:fT 273 f273:=fN func273
def F274:fT 274 f274:=fN func274
def F275:fT 275 f275:=fN func275
def F276:fT 276 f276:=fN func276
def F277:fT 277 f277:=fN func277
def F278:fT 278 f278:=fN func278
def F279:fT 279 f279:=fN func279
def F280:fT 280 f280:=fN func280
def F281:fT 281 f281:=fN func281
def F282:fT 282 f282:=fN func282
def F283:fT 283 f283:=fN func283
def F284:fT 284 f284:=fN func284
def F285:fT 285 f285:=fN func285
def F286:fT 286 f286:=fN func286
def F287:fT 287 f287:=fN func287
def F288:fT 288 f288:=fN func288
def F289:fT 289 f289:=fN func289
def F290:fT 290 f290:=fN func290
def F291:fT 291 f291:=fN func291
def F292:fT 292 f292:=fN func292
def F293:fT 293 f293:=fN func293
def F294:fT 294 f294:=fN func294
def F295:fT 295 f295:=fN func295
def F296:fT 296 f296:=fN func296
def F297:fT 297 f297:=fN func297
def F298:fT 298 f298:=fN func298
def F299:fT 299 f299:=fN func299
def F300:fT 300 f300:=fN func300
def F301:fT 301 f301:=fN func301
def F302:fT 302 f302:=fN func302
def F303:fT 303 f303:=fN func303
def F305:fT 305 f305:=fN func305
def F306:fT 306 f306:=fN func306
def F307:fT 307 f307:=fN func307
def F308:fT 308 f308:=fN func308
def F309:fT 309 f309:=fN func309
def F310:fT 310 f310:=fN func310
def F311:fT 311 f311:=fN func311
def F324:fT 324 f324:=fN func324
def F325:fT 325 f325:=fN func325
def F326:fT 326 f326:=fN func326
def F327:fT 327 f327:=fN func327
def F328:fT 328 f328:=fN func328
def F329:fT 329 f329:=fN func329
def F330:fT 330 f330:=fN func330
def F331:fT 331 f331:=fN func331
def F332:fT 332 f332:=fN func332
def F333:fT 333 f333:=fN func333
def F334:fT 334 f334:=fN func334
def F335:fT 335 f335:=fN func335
def F336:fT 336 f336:=fN func336
def F337:fT 337 f337:=fN func337
def F338:fT 338 f338:=fN func338
def F340:fT 340 f340:=fN func340
def F341:fT 341 f341:=fN func341
def F342:fT 342 f342:=fN func342
def F343:fT 343 f343:=fN func343
def F344:fT 344 f344:=fN func344
def F345:fT 345 f345:=fN func345
def F346:fT 346 f346:=fN func346
def F347:fT 347 f347:=fN func347
def F348:fT 348 f348:=fN func348
def F349:fT 349 f349:=fN func349
def F350:fT 350 f350:=fN func350
def F351:fT 351 f351:=fN func351
def F352:fT 352 f352:=fN func352
def F353:fT 353 f353:=fN func353
def F354:fT 354 f354:=fN func354
def F355:fT 355 f355:=fN func355
def F356:fT 356 f356:=fN func356
def F357:fT 357 f357:=fN func357
def F358:fT 358 f358:=fN func358
def F359:fT 359 f359:=fN func359
def F360:fT 360 f360:=fN func360
def F361:fT 361 f361:=fN func361
def F362:fT 362 f362:=fN func362
def F363:fT 363 f363:=fN func363
def F364:fT 364 f364:=fN func364
def F365:fT 365 f365:=fN func365
def F373:fT 373 f373:=fN func373
def F374:fT 374 f374:=fN func374
def F375:fT 375 f375:=fN func375
def F376:fT 376 f376:=fN func376
def F377:fT 377 f377:=fN func377
def F378:fT 378 f378:=fN func378
def F380:fT 380 f380:=fN func380
def F381:fT 381 f381:=fN func381
def F382:fT 382 f382:=fN func382
def F383:fT 383 f383:=fN func383
def F384:fT 384 f384:=fN func384
def F386:fT 386 f386:=fN func386
def F387:fT 387 f387:=fN func387
def F388:fT 388 f388:=fN func388
def F408:fT 408 f408:=fN func408
def F409:fT 409 f409:=fN func409
def F410:fT 410 f410:=fN func410
def F411:fT 411 f411:=fN func411
def rg{F:Fr}{n:Nat}{B:Exit→Act→World→Prop}{bn:List Nat}{hbn:∀k,F.k0 k≠.new→k∈bn}{k:List KI}{s:SS}(h:Og ⟨prog,Γ.toTy,F,n,B,bn,hbn⟩ Γ 400 k s):G ⟨prog,Γ.toTy,F,n,B,bn,hbn⟩ k s:=rG Γ hm h
def rd{F:Fr}{n:Nat}{B:Exit→Act→World→Prop}{bn:List Nat}{hbn:∀k,F.k0 k≠.new→k∈bn}{k:List KI}{s:SS}{all:Array Oper}{done:List Stp}{rest:List Oper}(hs:all.toList=done.map (·.o)++rest)(h:Zz ⟨prog,Γ.toTy,F,n,B,bn,hbn⟩ Γ 400 k all done rest s):DR ⟨prog,Γ.toTy,F,n,B,bn,hbn⟩ k all done rest s:=rD Γ hm hs h
structure Bq(Q:Prop):Prop where out:Q
def oO{P Q:Prop}(h:Q)(e:Bq Q→P:=by intro hb;refine rg ?_;(conv=>whnf);exact hb.out):P:=e ⟨h⟩
def oF{P Q:Prop}(h:Q)(e:Bq Q→P:=by intro hb;refine rg ?_;(conv=>whnf);refine aF ?_;refine rg ?_;(conv=>whnf);exact hb.out):P:=e ⟨h⟩
def oT{P Q:Prop}(h:Q)(e:Bq Q→P:=by intro hb;refine rg ?_;(conv=>whnf);refine aT ?_;refine rg ?_;(conv=>whnf);exact hb.out):P:=e ⟨h⟩
def bF{P Q:Prop}(h:Q)(e:Bq Q→P:=by intro hb;refine aF ?_;refine rg ?_;(conv=>whnf);exact hb.out):P:=e ⟨h⟩
def bT{P Q:Prop}(h:Q)(e:Bq Q→P:=by intro hb;refine aT ?_;refine rg ?_;(conv=>whnf);exact hb.out):P:=e ⟨h⟩
def oD{P Q:Prop}(h:Q)(e:Bq Q→P:=by intro hb;refine rd z_ ?_;(conv=>whnf);exact hb.out):P:=e ⟨h⟩
def dN{P:Prop}(h:P:=by
 apply At
 ·exact E
 ·(repeat (first|exact ResVs.nil|(apply ResVs.cons;(first|exact .tmp|exact .cell rfl rfl rfl rfl))))
 ·exact E
 ·exact E):P:=h
def iL{a:Int}{K:Prop}(h:K)(e:I64 a:=by unfold I64;omega):I64 a∧K:=⟨e,h⟩
def iW{a:Int}{K Q:Prop}(h:Q)(e:I64 a:=by unfold I64;omega)(e2:Bq Q→K:=by intro hb;(conv=>whnf);exact hb.out):I64 a∧K:=⟨e,e2 ⟨h⟩⟩
def kW{α:Sort _}{a b:α}{K Q:Prop}(h:Q)(e:a=b:=by kernel_rfl)(e2:Bq Q→K:=by intro hb;(conv=>whnf);exact hb.out):a=b∧K:=⟨e,e2 ⟨h⟩⟩
def c0{C:Cx}{k:List KI}{s:SS}{all:Array Oper}{o:Oper}{rest:List Oper}{f:FuncId}{fn:Func}{c:Code}{xs:List Operand}{ts:Array TypeId}{A:List SV}{R:SV}(hs:Sy.Spec C.P f A [] R [])(hf:Fun C.P f fn c)(hg:G C (.ops all rest::k) (s.upd o.dst ⟨R,[],[]⟩))(h:o.op=.call ⟨.value (.func f),xs.toArray,ts⟩:=by exact rfl)(hA:A=xs.map (ev s):=by exact rfl)(ar:(Cd [] A&&R.inn [])=true:=by exact rfl)(hd:Vf C.n o=true:=by exact rfl)(hw:Hd C.n all o s=some true:=by exact rfl):G C (.ops all (o::rest)::k) s:=Oz hs hf h hA ar hd hw hg
def cD{C:Cx}{k:List KI}{s:SS}{all:Array Oper}{done:List Stp}{o:Oper}{rest:List Oper}{f:FuncId}{fn:Func}{c:Code}{xs:List Operand}{ts:Array TypeId}{A:List SV}{R:SV}(hs:Sy.Spec C.P f A [] R [])(hf:Fun C.P f fn c)(hg:DR C k all (done++[⟨done.length,o,⟨R,[],[]⟩,true⟩]) rest (s.upd o.dst ⟨R,[],[]⟩))(h:o.op=.call ⟨.value (.func f),xs.toArray,ts⟩:=by exact rfl)(hA:A=xs.map (ev s):=by exact rfl)(ar:(Cd [] A&&R.inn [])=true:=by exact rfl)(hi:all[done.length]? = some o:=by kernel_rfl)(hw:Hd C.n all o s=some true:=by exact rfl):DR C k all done (o::rest) s:=A31 hs hf h hA ar hi hw hg
def fU{P Q:Prop}(h:Q)(e:Bq Q→P:=by intro hb;((first|refine rG Γ hm ?_|refine rD Γ hm z_ ?_);(conv=>whnf);repeat((first|refine aF ?_|refine aT ?_);(first|refine rG Γ hm ?_|refine rD Γ hm z_ ?_);conv=>whnf));exact hb.out):P:=e ⟨h⟩
def fW{P Q:Prop}(h:Q)(e:Bq Q→P:=by intro hb;((conv=>whnf);repeat((first|refine aF ?_|refine aT ?_);(first|refine rG Γ hm ?_|refine rD Γ hm z_ ?_);conv=>whnf));exact hb.out):P:=e ⟨h⟩
def vL{s:SS}{V:List Nat}{l m:List SV}(h:VwL s V l m:=by repeat (first|exact VwL.nil|refine VwL.cons (Vw.refl _) ?_|refine VwL.cons Vw.nil ?_)):VwL s V l m:=h
def qA{p q:Prop}[Decidable p](h:decide p=true)(e:p→q:=by intro _h;omega):q:=e (zK h)
def qB{p q:Prop}[Decidable p](h:decide p=false)(e:¬p→q:=by intro _h;omega):q:=e (zQ h)
def kU{P:Prop}(h:P:=by
 refine⟨?_,?_,rfl,rfl⟩
 ·repeat (first|exact trivial|exact rfl|refine⟨rfl,rfl,?_⟩)
 ·repeat (first | exact trivial | refine⟨.inl rfl,rfl,?_⟩ | refine⟨.inr rfl,rfl,?_⟩)):P:=h
def gC{P:Prop}(e:P:=by refine fU ?_;exact dN):P:=e
def gE{P:Prop}(e:P:=by refine oO ?_;exact dN):P:=e
def gF{P Q:Prop}(h:Q)(e:Bq Q→P:=by intro b;refine oO ?_;refine iW ?_;exact b.out):P:=e ⟨h⟩
def gG{P Q:Prop}(h:Q)(e:Bq Q→P:=by intro b;refine fU ?_;refine iL ?_;refine fW ?_;exact b.out):P:=e ⟨h⟩
def gH{P Q:Prop}(h:Q)(e:Bq Q→P:=by intro b;refine oD ?_;refine kW ?_;exact b.out):P:=e ⟨h⟩
def gI{P Q:Prop}(h:Q)(e:Bq Q→P:=by intro b;refine fW ?_;refine iL ?_;refine fW ?_;exact b.out):P:=e ⟨h⟩
structure Device where
 (row prio:Int) (name:ByteArray) (mac vtep:Int)
structure Port where
 (row dev native cost link:Int) (name:ByteArray) (tagged:List Int)
structure Link where
 (row a b:Int)
structure Domain where
 (dev vlan vni irb row:Int) (peers:List Int)
structure Static where
 (row domain port mac:Int)
structure Flood where
 (row dev vni:Int) (addrs:List Int)
structure Vrf where
 (row dev:Int) (name:ByteArray) (imports exports:List Int)
structure Irb where
 (row domain vrf addr bits:Int)
structure Net where
 (devices:List Device) (ports:List Port) (links:List Link) (domains:List Domain) (statics:List Static) (floods:List Flood) (vrfs:List Vrf) (irbs:List Irb)
def Ax(d:Device):SV:=.agg [Aa d.row,Aa d.prio,Aw d.name,A2 d.mac,Bb d.vtep]
def A4(p:Port):SV:=.agg [Aa p.row,Aa p.dev,Aa p.native,Aa p.cost,Aa p.link,Aw p.name,.sl 1 Aa p.tagged]
def Bz(l:Link):SV:=.agg [Aa l.row,Aa l.a,Aa l.b]
def As(d:Domain):SV:=.agg [Aa d.dev,Aa d.vlan,Aa d.vni,Aa d.irb,Aa d.row,.sl 1 Aa d.peers]
def A0(s:Static):SV:=.agg [Aa s.row,Aa s.domain,Aa s.port,A2 s.mac]
def Ba(f:Flood):SV:=.agg [Aa f.row,Aa f.dev,Aa f.vni,.sl 1 Bb f.addrs]
def Ca(v:Vrf):SV:=.agg [Aa v.row,Aa v.dev,Aw v.name,.sl 1 Aa v.imports,.sl 1 Aa v.exports]
def B4(i:Irb):SV:=.agg [Aa i.row,Aa i.domain,Aa i.vrf,Bb i.addr,Aa i.bits]
def C6(n:Net):List SV:=[.sl 5 Ax n.devices,.sl 7 A4 n.ports,.sl 3 Bz n.links,.sl 6 As n.domains,.sl 4 A0 n.statics,.sl 4 Ba n.floods,.sl 5 Ca n.vrfs,.sl 5 B4 n.irbs]
def Am(n:Net):SV:=.agg [.sl 5 Ax n.devices,.sl 7 A4 n.ports,.sl 3 Bz n.links,.sl 6 As n.domains,.sl 4 A0 n.statics,.sl 4 Ba n.floods,.sl 5 Ca n.vrfs,.sl 5 B4 n.irbs]
instance:Inhabited Device:=⟨⟨0,0,.empty,0,0⟩⟩
instance:Inhabited Port:=⟨⟨0,0,0,0,0,.empty,[]⟩⟩
instance:Inhabited Link:=⟨⟨0,0,0⟩⟩
instance:Inhabited Domain:=⟨⟨0,0,0,0,0,[]⟩⟩
instance:Inhabited Static:=⟨⟨0,0,0,0⟩⟩
instance:Inhabited Flood:=⟨⟨0,0,0,[]⟩⟩
instance:Inhabited Vrf:=⟨⟨0,0,.empty,[],[]⟩⟩
instance:Inhabited Irb:=⟨⟨0,0,0,0,0⟩⟩
def Ah(i:Int)(n:Nat):Bool:=decide (0≤i)&&decide (i<n)
def inB(l:List Int)(x:Int):Bool:=l.any (·==x)
def nth{α:Type}[Inhabited α](l:List α)(i:Int):α:=(l[i.toNat]?).getD default
theorem Ai{α:Type}[Inhabited α]{l:List α}{i:Int}(h:i.toNat<l.length):nth l i=l[i.toNat]:=by
 simp[nth,h]
def Bv{α:Type}(p:α→Bool)(l:List α):Int:=match l.findIdx? p with|some i=>(i:Int)|none=>-1
def C7{α:Type}{p:α→Bool}{l:List α}{j:Nat}(h:j<l.length)(h1:∀i (hi:i<l.length),i<j→p l[i]=false)(h2:p l[j]=true):Bv p l=j:=by
 have:l.findIdx? p=some j:=by
  rw[wF];exact⟨h,h2,λi hi=>by simp[h1 i q_ hi]⟩
 simp[Bv,this]
def D4{α:Type}{p:α→Bool}{l:List α}(h1:∀i (hi:i<l.length),p l[i]=false):Bv p l=-1:=by
 have:l.findIdx? p=none:=by
  rw[List.findIdx?_eq_none_iff];intro x hx;obtain ⟨i,hi,rfl⟩:=yY.1 hx;exact h1 i hi
 simp[Bv,this]
def Iy{α:Type}(p:α→Bool)(l:List α):Bv p l<l.length:=by
 unfold Bv;split
 ·rename_i i h;rw[wF]at h;obtain ⟨h,_⟩:=h;omega
 ·omega
def Kl{α:Type}(p:α→Bool)(l:List α):decide (0≤Bv p l)=l.any p:=by
 unfold Bv;split
 ·rename_i i h;rw[wF]at h;obtain ⟨h,h2,_⟩:=h;have:l.any p=true:=wK.2 ⟨_,zI h,h2⟩;rw[this];simp
 ·rename_i h;rw[List.findIdx?_eq_none_iff]at h;have:l.any p=false:=by
   rw[wM];intro x hx;simp[h x hx]
  rw[this];simp
def Ik{α:Type}(p:Nat→α→Bool)(l:List α):Bool:=l.zipIdx.all λq=>p q.2 q.1
def allB_iff{α:Type}{p:Nat→α→Bool}{l:List α}:Ik p l=true↔∀i (h:i<l.length),p i l[i]=true:=by
 simp only[Ik,yZ];constructor
 ·intro h i hi;exact h (l[i],i) (by rw[tE];simp[hi])
 ·rintro h ⟨x,i⟩ hx;rw[tE]at hx;obtain ⟨hi,rfl⟩:=List.getElem?_eq_some_iff.1 hx;exact h i hi
def Azk{α:Type}{p:Nat→α→Bool}{l:List α}(h:∀i (h:i<l.length),p i l[i]=true):Ik p l=true:=allB_iff.2 h
def C8{α:Type}{p:Nat→α→Bool}{l:List α}{i:Nat}(h:i<l.length)(h1:p i l[i]=false):Ik p l=false:=by
 cases hh:Ik p l with
 |false=>rfl
 |true=>have:=allB_iff.1 hh i h;rw[h1]at this;cases this
def En{α:Type}(p:Nat→α→Bool)(l:List α)(j:Nat):Prop:=∀i (h:i<l.length),i<j→p i l[i]=true
def Bl{α:Type}(p:Nat→α→Bool)(l:List α):En p l 0:=λi h hj=>zY hj q_
def Bi{α:Type}{p:Nat→α→Bool}{l:List α}{j:Nat}(hI:En p l j)(hj:j<l.length)(h:p j l[j]=true):En p l (j+1):=by
 intro i hi br;rcases vM i j with h1|h1
 ·exact hI i hi h1
 ·have:i=j:=by omega
  subst this;exact h
def E5{α:Type}{p:Nat→α→Bool}{l:List α}{j:Nat}(hI:En p l j)(hj:l.length≤j):Ik p l=true:=Azk λi hi=>hI i hi q_
def An{α:Type}(l:List α):Prop:=l.length<2147483648
end Go.Sy.YticmobkdaneelaaGreatDoor
namespace Go.Sy
open Go.ChangeShapes Go.WideShapes Go.ChangeAt Go.RowKit
def κ0:Ka:=⟨λ_=>.new,λ_=>False⟩
def inv0(w:World):Inv κ0 w :=
 ⟨λi j b h=>(by cases h),λk b h=>(by cases h),λk b h=>(by cases h),λb h=>False.elim h⟩
def Aac{w w':World}{κ':Ka}(c:Ctx ⟨w,κ0,[]⟩ κ' w'):Below w.heap.size w w' :=
 ⟨c.os,c.tape,c.output,c.size,λk hk=>c.old k hk (λj h=>by cases h)⟩
section
variable {H:Type} {enc:TypeId×Value→H} {P:Program}
theorem Wp{W W':World}(hl:laidOutB P=true)(hb:Below W.heap.size W W'):∀{ts:List TypeId} {vs:List Value} {ds:List (DataW H)} {ps:List MemPlace},(∀t∈ts,P.readableRec t=true∧t<P.types.size) →
  (∀x∈ps,x.block<W.heap.size)→DataW.TrodAll enc P W 0 (λ_=>true) true ts vs ds ps→DataW.TrodAll enc P W' 0 (λb=>decide (b<W.heap.size)) true ts vs ds ps
 |[],_,_,_,_,_,h=>by
  obtain ⟨rfl,rfl,rfl⟩:=trodAll_nil h;rfl
 |t::ts,_,_,_,ht,hp,h=>by
  obtain ⟨v,vs,d,ds,p,q,rfl,rfl,rfl,h1,h2⟩:=trodAll_cons h;have:=ht t y_;exact⟨p,q,Below.trod hl this.1 this.2 h1 hb (λx hx=>hp x (by simp[hx])),Wp hl hb (λt h=>ht t (by simp[h])) (λx hx=>hp x (by simp[hx])) h2,E⟩
theorem Ayl{f:FuncId}{fn:Func}{s:ChangeSpec}{W:World}{args:Array Value}{ds gs:List (DataW H)}{before:List MemPlace}{tb:TypeId}{A:List SV}(hv:s.vars=[])(hl:laidOutB P=true)(hW:DataW.Whole enc P fn.params.toList s.vars false W args.toList ds gs before)(zb:∀t∈fn.params.toList,P.readableRec t=true∧t<P.types.size)(sh:fn.resultTypes=#[tb])(hbt:P.underlying tb=some .bool)(tv:∀gs:List (DataW H),gs=[]→s.fn H (ds++gs)={results:=[.lit (.bool true)],args:=ds})(hA:RdL κ0 W A args.toList)(hs:Sy.Spec P f A [] (Ab true) []):Calls P f args W λe W'=>∃v,e=.returned v∧s.post enc P fn false true false false W args v W':=by
 have hc:=hs κ0 W args.toList (inv0 W) (λk hk=>zY rfl hk) hA (λp hp=>by cases hp);simp only[Array.toArray_toList]at hc;refine hc.mono ?_;rintro e W' ⟨v,κ',rfl,ctx,inv,hR,_⟩;have hvv:v=.bool true:=by simpa [Ab,Rd] using hR
 subst hvv;have hb:=Aac ctx;have yv:=hW;obtain ⟨p,q,h1,h2,h3,h4,h5⟩:=hW;have hgs:gs=[]∧q=[]:=by
  rw[hv]at h2;exact trodVars_none h2
 obtain ⟨rfl,rfl⟩:=hgs;rw[xC]at h3;subst h3;have ab:∀x∈before,x.block<W.heap.size:=λx hx=>by simpa using yv.lt x hx
 refine⟨_,rfl,ds,[],before,[],before,[],yv,?_,?_,?_,?_,λh=>by cases h⟩
 ·rw[tv [] rfl,sh];exact trodAll_mk1 (shut_bool hbt true)
 ·rw[tv [] rfl];exact Wp hl hb zb ab h1
 ·rw[hv,tv [] rfl];rfl
 ·exact hb.frame _
end
section
variable {H:Type} (enc:TypeId×Value→H) (P:Program) (W:World)
def Op1(t:TypeId){α:Type}(e:α→SV)(p:α→Prop):Prop :=
 ∀n c y,DataW.trod enc P W 0 (λ_=>true) true n t [c]=some y→∃x,p x∧Rd κ0 W (e x) c∧c.oneCell'=true
def OpN(t:TypeId){α:Type}(e:α→SV)(p:α→Prop)(sz:Nat):Prop :=
 ∀n cs y,DataW.trod enc P W 0 (λ_=>true) true n t cs=some y→∃x,p x∧cs.length=sz∧Ones cs∧RdL κ0 W (cellsOf (e x)) cs
variable {enc P W}
theorem Ava{t:TypeId}{k:IntKind}(ht:P.underlying t=some (.int k)):OpN enc P W t (λz=>.val (.int k z)) (λz=>(Lit.int k z).wf=true) 1:=λn cs y h=>by
 obtain ⟨z,rfl,_,hw⟩:=DataW.trod_int ht h;refine⟨z,hw,E,λc hc=>by simp at hc;subst hc;rfl,?_⟩;simp[cellsOf,RdL,Rd]
theorem Ajw{base:Nat}{a:Addr}{n:Nat}{cs:List Value}(h:W.cells? base a n=some cs):cs.length=n∧∀j (_:j<n),W.cell? (a.add j)=cs[j]?:=by
 unfold World.cells? at h;split at h
 ·refine⟨by simpa using mapM_some_length h,λj hj=>?_⟩;exact mapM_some_get h j j (by simp[hj])
 ·cases h
theorem An0{t et:TypeId}{α:Type}{e:α→SV}{p:α→Prop}{sz:Nat}(ht:P.underlying t=some (.slice et))(bg:P.cellsOf et=sz)(h0:0<sz)(hb:∀x,(e x).boxed=true)(hd:∀x,(e x).data=true)(hO:OpN enc P W et e p sz):Op1 enc P W t (λl:List α=>.sl sz e l) (λl=>(∀x∈l,p x)∧l.length≤maxLen):=λn c y h=>by
 rcases DataW.trod_slice ht h with ⟨m7,_⟩|⟨a,len,cap,elems,rest,m,rfl,m7,_,_,hlc,hcm,hel,bf,_⟩
 ·have hc:c=.slice none 0 0:=by simpa using m7
  subst hc;refine⟨[],⟨by simp,vA _⟩,?_,E⟩;simp only[Rd,RdD];exact .inl ⟨Y,none,0,E⟩
 ·have hc:c=.slice (some a) len cap:=by simpa using m7
  subst hc;rw[bg]at bf;have dw:∀i:Fin len,∃x,p x∧∃cs,W.cells? 0 (a.add (i*sz)) sz=some cs∧cs.length=sz∧Ones cs∧RdL κ0 W (cellsOf (e x)) cs:=λi=>by
   have h1:=bf i.1 i.2;rw[zT q_]at h1;obtain ⟨cs,h2,h3⟩:=Option.bind_eq_some_iff.1 h1;obtain ⟨x,h4,h5,h6,h7⟩:=hO _ _ _ h3;exact⟨x,h4,cs,h2,h5,h6,h7⟩
  let xs:Fin len→α:=λi=>Classical.choose (dw i)
  have pl:∀i,p (xs i)∧∃cs,W.cells? 0 (a.add (i.1*sz)) sz=some cs∧cs.length=sz∧Ones cs∧RdL κ0 W (cellsOf (e (xs i))) cs:=λi=>Classical.choose_spec (dw i)
  refine⟨List.ofFn xs,⟨λx hx=>?_,by simp;omega⟩,?_,E⟩
  ·obtain ⟨i,rfl⟩:=List.mem_ofFn.1 hx;exact(pl i).1
  ·simp only[Rd,RdD];by_cases hl:len=0
   ·subst hl;exact .inl ⟨by simp,_,_,E⟩
   ·have fm:∀i:Fin len,∀j,j<sz→∃v,W.cell? ((a.add (i.1*sz)).add j)=some v:=λi j hj=>by
     obtain ⟨_,cs,h1,h2,_⟩:=pl i;have:=(Ajw h1).2 j hj;rw[zT q_]at this;exact⟨_,this⟩
    obtain ⟨b,off,spot⟩:=a;have yu:spot=none:=by
     obtain ⟨v,hv⟩:=fm ⟨0,by omega⟩ 0 h0;simpa [Addr.add] using World.cell?_spot hv
    subst yu;have mj:∀i j,((⟨b,off,none⟩:Addr).add i).add j=⟨b,off+i+j,none⟩:=λi j=>by rw[Addr.add_lit,Addr.add_lit]
    refine .inr ⟨b,off,cap,by simp,by simpa using hlc,?_,?_,λi hi=>?_⟩
    ·rintro (⟨k,hk⟩|hk)
     ·cases hk
     ·exact hk
    ·obtain ⟨v,hv⟩:=fm ⟨0,by omega⟩ 0 h0;rw[mj]at hv;rcases vM b W.heap.size with h|h
     ·exact h
     ·simp[World.cell?,uO h]at hv
    ·simp only[List.length_ofFn]at hi;obtain ⟨_,cs,h1,h2,h3,h4⟩:=pl ⟨i,hi⟩;obtain ⟨u,g1,g2⟩:=Rd.of_cells (hb _) h3 h4;refine⟨u,?_,?_,by rw[g2];exact h3,λj hj=>?_⟩
     ·rw[List.getElem_ofFn];exact Rd.data _ _ (hd _) g1
     ·have:u.cells.toList.length=sz:=by rw[g2,h2]
      simpa using this
     ·have:=(Ajw h1).2 j hj;rw[mj]at this;rw[this,←g2];simp
end
end Go.Sy
namespace Go.Sy.YticmobkdaneelaaGreatDoor
open Go.Proofs Go.ChangeShapes Go.WideShapes Go.ChangeAt Go.RowKit
set_option maxRecDepth 100000
section
variable {H:Type} {enc:TypeId×Value→H} {W:World}
def wI(k:IntKind)(z:Int):Prop:=(Lit.int k z).wf=true
theorem A5g:Op1 enc Tryz.prog W 23 (λl:List Int=>.sl 1 (λz=>.val (.int .i64 z)) l) (λl=>(∀z∈l,wI .i64 z)∧l.length≤maxLen) :=
 An0 Tryz.underlying23 (by kernel_rfl:Tryz.prog.cellsOf 3=1) j_ (λ_=>rfl) (λ_=>rfl) (Ava Tryz.underlying3)
def Device.In(x:Device):Prop:=wI .i64 x.row∧wI .i64 x.prio∧x.name.size≤maxLen∧wI .u64 x.mac∧wI .u32 x.vtep
def Port.In(x:Port):Prop:=wI .i64 x.row∧wI .i64 x.dev∧wI .i64 x.native∧wI .i64 x.cost∧wI .i64 x.link∧x.name.size≤maxLen∧((∀z∈x.tagged,wI .i64 z)∧x.tagged.length≤maxLen)
def Link.In(x:Link):Prop:=wI .i64 x.row∧wI .i64 x.a∧wI .i64 x.b
def Domain.In(x:Domain):Prop:=wI .i64 x.dev∧wI .i64 x.vlan∧wI .i64 x.vni∧wI .i64 x.irb∧wI .i64 x.row∧((∀z∈x.peers,wI .i64 z)∧x.peers.length≤maxLen)
def Static.In(x:Static):Prop:=wI .i64 x.row∧wI .i64 x.domain∧wI .i64 x.port∧wI .u64 x.mac
def Flood.In(x:Flood):Prop:=wI .i64 x.row∧wI .i64 x.dev∧wI .i64 x.vni∧((∀z∈x.addrs,wI .u32 z)∧x.addrs.length≤maxLen)
def Vrf.In(x:Vrf):Prop:=wI .i64 x.row∧wI .i64 x.dev∧x.name.size≤maxLen∧((∀z∈x.imports,wI .i64 z)∧x.imports.length≤maxLen)∧((∀z∈x.exports,wI .i64 z)∧x.exports.length≤maxLen)
def Irb.In(x:Irb):Prop:=wI .i64 x.row∧wI .i64 x.domain∧wI .i64 x.vrf∧wI .u32 x.addr∧wI .i64 x.bits
structure Net.In(n:Net):Prop where
 devices:(∀x∈n.devices,Device.In x)∧n.devices.length≤maxLen
 ports:(∀x∈n.ports,Port.In x)∧n.ports.length≤maxLen
 links:(∀x∈n.links,Link.In x)∧n.links.length≤maxLen
 domains:(∀x∈n.domains,Domain.In x)∧n.domains.length≤maxLen
 statics:(∀x∈n.statics,Static.In x)∧n.statics.length≤maxLen
 floods:(∀x∈n.floods,Flood.In x)∧n.floods.length≤maxLen
 vrfs:(∀x∈n.vrfs,Vrf.In x)∧n.vrfs.length≤maxLen
 irbs:(∀x∈n.irbs,Irb.In x)∧n.irbs.length≤maxLen
theorem Anj{t et:TypeId}{α:Type}{e:α→SV}{p:List α→Prop}{sz base:Nat}{v:Value}{d:DataW H}{ps:List MemPlace}(ht:Tryz.prog.underlying t=some (.slice et))(hO:Op1 enc Tryz.prog W t (λl:List α=>.sl sz e l) p)(mh:Value.okWide Tryz.prog W .any base t v)(h1:DataW.Trod enc Tryz.prog W 0 (λ_=>true) true t v d ps):∃l,p l∧Rd κ0 W (.sl sz e l) v:=by
 obtain ⟨a,len,cap,rfl⟩:=okWide_slice ht mh;obtain ⟨fuel,hf⟩:=h1;obtain ⟨x,h1,h2,_⟩:=hO _ _ _ hf;exact⟨x,h1,h2⟩
end
open Go.Proofs Go.Proofs.Tryz
attribute [local irreducible] Go.Sy.G Go.Sy.DR
set_option maxHeartbeats 4000000
def A0v(i:Int)(h0:0≤i)(h5:i≤5):Sp 286 [Aa i] (A2 (8*(5-i))):=cT F286 ntmps286 λF hF=>by
 conv=>whnf
 refine iW ?_;refine iW ?_;refine At E (.cons .tmp .nil) (zH (λz=>SV.val (.int .u64 z)) ?_) E;rw[IntKind.wrap_u64];omega
def be:Nat→Nat→List UInt8
 |0,_=>[]
 |k+1,m=>UInt8.ofNat (m/256^k)::be k m
def Cv(m:Nat):∀k,(be k m).length=k
 |0=>rfl
 |k+1=>by simp[be,Cv m k]
def Al8(m:Nat):∀(k j:Nat) (_h:j<k),(be k m).take (j+1)=(be k m).take j++[UInt8.ofNat (m/256^(k-1-j))]
 |0,j,h=>by omega
 |k+1,0,h=>by simp[be]
 |k+1,j+1,h=>by
  have:=Al8 m k j q_;simp only[be,List.take_succ_cons,xS,this];rw[show k+1-1-(j+1)=k-1-j by omega]
def Am2(m k:Nat)(hk:k≤7):IntKind.u8.wrap ((m:Int).fdiv (2^(min (8*(k:Int)).toNat IntKind.u64.bits)))=((UInt8.ofNat (m/256^k)).toNat:Int):=by
 have h1:min (8*(k:Int)).toNat IntKind.u64.bits=8*k:=by simp[IntKind.bits];omega
 rw[h1,xW _ (by exact Int.pow_nonneg j_),IntKind.wrap_u8];have h2:(2:Int)^(8*k)=((256^k:Nat):Int):=by rw[Int.pow_mul];simp
 rw[h2];simp
def put2(l:List UInt8)(hl:l.length<1000000)(m:Nat):Sq 213 [.osl 0,A2 m] [(0,.row 1 Al l)] (.osl 1) [(0,.non),(1,.row 1 Al (l++be 6 m))]:=cT F213 ntmps213 λF hF=>by
 conv=>whnf
 refine Aup 0 1 [0] E E j_ (by simp;rfl) ?_;refine A5 6 (λj=>[(0,.osl 1),(1,A2 m),(6,Aa j)]) (λj=>[(0,.non),(1,.row 1 Al (l++(be 6 m).take j))]) [(0,0),(1,1)] ⟨⟨E,E,E,E,E,E,Y⟩,⟨.inl E,E,.inl (zH (Ob.row 1 Al) (xC l)),E,Y⟩,E,E⟩ ?_;intro j hj;refine oO ?_;constructor<;>intro h
 ·have ab:j<6:=qA h;refine oO ?_;refine c0 (A0v j q_ q_) F286 ?_;refine oO ?_;refine⟨by omega,?_⟩
  conv=>whnf
  refine Af (Ag Γ.toTy 16 E E E E E (.row E) (.lit (l:=[UInt8.ofNat (m/256^(5-j))]) E ?_) y_ ?_ ?_) E E ?_
  ·have:=Am2 m (5-j) q_;rw[show ((5-j:Nat):Int)=5-(j:Int) by omega]at this;simp only[xV,vG,Al,←this]
  ·simp[Cv];omega
  ·simp[Cv];omega
  refine gF ?_;exact Ay [(0,0),(1,16)] ab ⟨⟨E,E,E,E,E,E,Y⟩,⟨.inl E,E,.inl (zH (Ob.row 1 Al) (by rw[Al8 _ _ _ ab,xJ])),E,Y⟩,E,E⟩
 ·have:j=6:=qB h;subst this;refine oO ?_;exact done E (.cons .tmp .nil) [(0,0),(1,1)] _ (λ_ h=>h) E E kU
def put2n(m:Nat):Sq 213 [.val (.slice none 0 0),A2 m] [] (.osl 0) [(0,.row 1 Al (be 6 m))]:=cT F213 ntmps213 λF hF=>by
 conv=>whnf
 refine B7 0 1000 1 Al E E ?_;refine A5 6 (λj=>[(0,.osl 1000),(1,A2 m),(6,Aa j)]) (λj=>[(1000,.row 1 Al ((be 6 m).take j))]) [] kU ?_;intro j hj;refine oO ?_;constructor<;>intro h
 ·have ab:j<6:=qA h;refine oO ?_;refine c0 (A0v j q_ q_) F286 ?_;refine oO ?_;refine⟨by omega,?_⟩
  conv=>whnf
  refine Af (Ag Γ.toTy 16 E E E E E (.row E) (.lit (l:=[UInt8.ofNat (m/256^(5-j))]) E ?_) y_ ?_ ?_) E E ?_
  ·have:=Am2 m (5-j) q_;rw[show ((5-j:Nat):Int)=5-(j:Int) by omega]at this;simp only[xV,vG,Al,←this]
  ·simp[Cv];omega
  ·simp[Cv];omega
  refine gF ?_;exact Ay [(1000,16)] ab ⟨⟨E,E,E,E,E,E,Y⟩,⟨.inl (zH (Ob.row 1 Al) (Al8 _ _ _ ab)),E,Y⟩,E,E⟩
 ·have:j=6:=qB h;subst this;refine oO ?_;exact done E (.cons .tmp .nil) [(0,1000)] _ (λ_ h=>h) E E kU
def A3h(d s:Nat)(t:Int)(body:List UInt8):SV:=.agg [A2 d,A2 s,Aa t,.sl 1 Al body]
def frame(d s t:Nat)(body:List UInt8):List UInt8:=be 6 d++be 6 s++[UInt8.ofNat (t/256),UInt8.ofNat t]++body
def H4(t:Nat):[UInt8.ofNat (t/256),UInt8.ofNat t].map Al=[SV.val (.int .u8 (IntKind.u8.wrap ((t:Int).fdiv (2^(min (Int.toNat 8) IntKind.i64.bits))))),SV.val (.int .u8 (IntKind.u8.wrap (t:Int)))]:=by
 have h1:IntKind.u8.wrap ((t:Int).fdiv (2^(min (Int.toNat 8) IntKind.i64.bits)))=((UInt8.ofNat (t/256)).toNat:Int):=by
  show IntKind.u8.wrap ((t:Int).fdiv 256)=_;rw[xW _ j_,IntKind.wrap_u8];simp
 have h2:IntKind.u8.wrap (t:Int)=((UInt8.ofNat t).toNat:Int):=by
  rw[IntKind.wrap_u8];simp
 rw[h1,h2];rfl
def Acw(d s t:Nat)(body:List UInt8)(hd:d<281474976710656)(hs:s<281474976710656)(ht:t≤65535)(hb:body.length≤1504):Sq 148 [A3h d s t body] [] (.tup [.osl 0,Aa 0]) [(0,.row 1 Al (frame d s t body))]:=cT F148 ntmps148 λF hF=>by
 conv=>whnf
 refine⟨λh=>zY (zK h) q_,λ_=>?_⟩;refine oO ?_;refine⟨λh=>zY (zK h) q_,λ_=>?_⟩;refine oF ?_;refine⟨λh=>zY (zK h) q_,λ_=>?_⟩;refine oO ?_;refine⟨λh=>zY (zK h) q_,λ_=>?_⟩;refine oO ?_;refine Bw (Ad [(0,31)] E F213 (put2n d) E Y E ⟨.inr E,Y⟩) z_ E ?_;refine oD ?_;refine Bw (Ad [(0,31),(1,34)] E F213 (put2 (be 6 d) (by simp[Cv]) s) E ⟨E,Y⟩ E ⟨.inl E,.inr E,Y⟩) z_ E ?_;refine gH ?_;refine⟨by decide,?_⟩
 conv=>whnf
 refine Bw (Ag Γ.toTy 44 E E E E E (.row E) (.lit (l:=[UInt8.ofNat (t/256),UInt8.ofNat t]) E (H4 t)) j_ ?_ ?_) z_ E ?_
 ·simp[Cv]
 ·simp[Cv]
 refine oD ?_;refine Bw (Ag Γ.toTy 47 E E E E E (.row E) .sl j_ ?_ ?_) z_ E ?_
 ·simp[Cv];omega
 ·simp[Cv];omega
 refine gH ?_;exact done E (.cons .tmp (.cons .tmp .nil)) [(0,47)] _ (λ_ h=>h) E E kU
end Go.Sy.YticmobkdaneelaaGreatDoor
namespace Go.Sy.YticmobkdaneelaaGreatDoor
def Ao(s:Int):Int:=IntKind.u64.wrap (IntKind.u64.wrap (6364136223846793005*s)+1442695040888963407)
def An8(s:Int):0≤Ao s∧Ao s<18446744073709551616:=by
 rw[Ao,IntKind.wrap_u64];omega
def Co(s b:Int):Int:=if b<1 then 0 else (s/8589934592)%b
def Dj{s b:Int}(h:0<b):0≤Co s b∧Co s b<b:=by
 rw[Co,zD q_];exact⟨Int.emod_nonneg _ q_,Int.emod_lt_of_pos _ h⟩
structure FrameM where
 dst:Nat
 src:Nat
 typ:Nat
 body:List UInt8
def Cu(f:FrameM):SV:=A3h f.dst f.src f.typ f.body
structure StepM where
 kind:Int
 port:Int
 domain:Int
 at_:Int
 bytes:List UInt8
 up:List Bool
def Db(x:StepM):SV:=.agg [Aa x.kind,Aa x.port,Aa x.domain,Aa x.at_,.sl 1 Al x.bytes,.sl 1 Ab x.up]
structure SeenM where
 port:Int
 origin:Int
 bytes:List UInt8
def Dm(x:SeenM):SV:=.agg [Aa x.port,Aa x.origin,.sl 1 Al x.bytes]
def Mm(p:Port):List Int:=if p.native≠0 then p.native::p.tagged else p.tagged
def Abt(p:Port)(s:Int):Int×Int:=(nth (Mm p) (Co (Ao s) (Mm p).length),Ao s)
def D5(ip:Int):Nat:=2199023255552+ip.toNat
def Dg(a bits:Int):Int:=if 0≤bits∧bits≤32 then a-a%2^(32-bits).toNat else 0
def He(n:Nat):Nat:=if n=0 then 0 else (n-1)%65535+1
def ipL(to:Nat):List UInt8 :=
 let s:=65535-He (0x4500+20+0x4011+1+to/65536+to%65536)
 be 2 0x4500++be 2 20++be 2 0++be 2 0++be 2 0x4011++be 2 s++be 4 1++be 4 to
def K7(n:Net)(s:Int):FrameM×Int :=
 let src:=10995116277760+(Co (Ao s) 8).toNat
 let s2:=Ao (Ao s)
 let kind:=Co s2 4
 if kind=0∨(kind=1∧n.irbs.length=0) then (⟨281474976710655,src,34997,[]⟩,s2)
 else if kind=1 then
  let s3:=Ao s2
  let s4:=Ao s3
  let s5:=Ao s4
  let x:=nth n.irbs (Co s3 n.irbs.length)
  let y:=nth n.irbs (Co s4 n.irbs.length)
  (⟨D5 x.addr,src,2048,ipL (IntKind.u32.wrap (Dg y.addr y.bits+Co s5 4)).toNat⟩,s5)
 else (⟨10995116277760+(Co (Ao s2) 8).toNat,src,34997,[]⟩,Ao s2)
def Awn(f:FrameM)(vlan:Int):FrameM:=⟨f.dst,f.src,33024,[UInt8.ofNat (vlan.toNat/256),UInt8.ofNat vlan.toNat,UInt8.ofNat (f.typ/256),UInt8.ofNat f.typ]++f.body⟩
def Dn(n:Net)(j:Nat):List Int:=((List.range j).filter λi=>decide ((n.ports.getD i default).link<0)).map λ(i:Nat)=>(i:Int)
def Lh(n:Net)(s:Int):StepM×Int :=
 let l:=Dn n n.ports.length
 let s1:=Ao s
 let port:=nth l (Co s1 l.length)
 let v:=Abt (nth n.ports port) s1
 let f:=K7 n v.2
 let g:=if v.1≠(nth n.ports port).native then Awn f.1 v.1 else f.1
 (⟨1,port,0,0,frame g.dst g.src g.typ g.body,[]⟩,f.2)
def Ic:Nat→Int→List Bool×Int
 |0,s=>([],s)
 |j+1,s=>let r:=Ic j s;(r.1++[Co (Ao r.2) 2==1],Ao r.2)
def Yu(n:Net)(s:Int):StepM×Int :=
 let s1:=Ao s
 let k:=Co s1 10
 if k<3∧0<(Dn n n.ports.length).length then Lh n s1
 else if 3≤k∧k<8∧0<n.domains.length then (⟨2,0,Co (Ao s1) n.domains.length,Co (Ao (Ao s1)) 3,[],[]⟩,Ao (Ao s1))
 else if k=9∧0<n.links.length then let r:=Ic n.links.length s1;(⟨5,0,0,0,[],r.1⟩,r.2)
 else (⟨4,0,0,0,[],[]⟩,s1)
def B6(n:Net):Nat→Int→List StepM×Int
 |0,s=>([],s)
 |j+1,s=>let r:=B6 n j s;let x:=Yu n r.2;(r.1++[x.1],x.2)
def E8(n:Net):∀(j:Nat) (s:Int),(B6 n j s).1.length=j
 |0,_=>rfl
 |j+1,s=>by simp[B6,E8 n j s]
end Go.Sy.YticmobkdaneelaaGreatDoor
namespace Go.Sy
def I3{κ:Ka}{w:World}{sz:Nat}{α:Type}{e:α→SV}{v:Value}(h:Rd κ w (.val (.slice none 0 0)) v):Rd κ w (.sl sz e []) v:=by
 simp only[Rd]at h;simp only[Rd,RdD];exact .inl ⟨Y,none,0,h⟩
theorem Spec.viewR{P:Program}{f:FuncId}{A:List SV}{H H':Obs}{R R':SV}(hs:Sy.Spec P f A H R H')(h:∀κ w v,Rd κ w R v→Rd κ w R' v):Sy.Spec P f A H R' H' :=
 λκ w vs hi hk hr ho=>(hs κ w vs hi hk hr ho).mono λ_ _ ⟨v,κ',e1,e2,e3,e4,e5⟩=>⟨v,κ',e1,e2,e3,h κ' _ v e4,e5⟩
def Ag3{M:Nat→Prop}{w:World}{sz:Nat}{α:Type}{e:α→SV}{v:Value}(h:v=.slice none 0 0):RdD M w (.sl sz e []) v:=by
 simp only[RdD];exact .inl ⟨Y,none,0,h⟩
def Aqt{C:Cx}{k:List KI}{s:SS}(d:Nat){sz:Nat}{α β:Type}{e:α→SV}{l:List α}{e':β→SV}{l':List β}(h:s.h d=.row sz e l)(hl:l'.length=l.length)(hv:∀(M:Nat→Prop) (w:World) (i:Nat) (h1:i<l.length) (h2:i<l'.length) (v:Value),RdD M w (e l[i]) v→RdD M w (e' l'[i]) v)(hg:G C k ⟨s.σ,upd s.h d (.row sz e' l')⟩):G C k s:=λκ a w hs=>
 hg κ a w ⟨hs.defers,hs.size,hs.inv,hs.ctx,hs.slot,λ i=>by
  show ObOK κ w i (upd s.h d (.row sz e' l') i);by_cases hi:i=d
  ·subst hi;rw[B1];have:=hs.obj i;rw[h]at this;rcases this with ⟨h1,rfl⟩|⟨b,cap,cs,T,fr,e1,e2,e3,e4,e5,e6⟩
   ·exact .inl ⟨h1,zZ (by simpa using hl)⟩
   ·refine .inr ⟨b,cap,cs,T,fr,by rw[hl];exact e1,e2,e3,e4,by omega,λi x hx=>?_⟩;obtain ⟨jo,rfl⟩:=hx;obtain ⟨_,u,hu,da⟩:=e6 i (e (l[i]'q_)) ⟨by omega,rfl⟩;exact⟨jo,u,hv _ _ i q_ jo u hu,da⟩
  ·rw[Cp _ _ hi];exact hs.obj i⟩
def Av6{κ:Ka}{w:World}{x:SV}:∀{l:List SV} {cs:List Value} {i:Nat},RdL κ w l cs→(∀y v,l[i]? = some y→Rd κ w y v→Rd κ w x v)→RdL κ w (l.set i x) cs
 |[],_,_,h,_=>h
 |y::l,cs,0,h,hx=>by
  simp only[RdL,uD]at h⊢;obtain ⟨v,r,e1,e2,e3⟩:=h;exact⟨v,r,e1,hx y v E e2,e3⟩
 |y::l,cs,i+1,h,hx=>by
  simp only[RdL,tM]at h⊢;obtain ⟨v,r,e1,e2,e3⟩:=h;exact⟨v,r,e1,e2,Av6 e3 (λz u hz hu=>hx z u hz hu)⟩
def Q9{C:Cx}{k:List KI}{s:SS}(b i d sz:Nat){α:Type}(e:α→SV){l:List SV}(hb:s.h b=.box l)(h:l[i]? = some (.val (.slice none 0 0)))(hd:s.h d=.fresh)(hbd:Nat.beq b d=false)(hg:G C k ⟨s.σ,upd (upd s.h b (.box (l.set i (.osl d)))) d (.row sz e [])⟩):G C k s:=λκ a w hs=>by
 have ag:b≠d:=λe=>by rw[e,tL]at hbd;cases hbd
 have a6:κ d=.new:=by have:=hs.obj d;rwa [hd]at this
 obtain ⟨st,inv⟩:=J9 hs.inv a6 (e:=.nil) (Grew.refl w) (λb hb=>by cases hb);refine hg (Ec κ d .nil) a w ⟨hs.defers,hs.size,inv,hs.ctx.step inv st,λj=>Rd.step st _ _ (hs.slot j),λj=>?_⟩;show ObOK _ w j (upd (upd s.h b (.box (l.set i (.osl d)))) d (.row sz e []) j);by_cases hj:j=d
 ·subst hj;rw[B1];exact .inl ⟨Az _ _ _,rfl⟩
 ·rw[Cp _ _ hj];by_cases hjb:j=b
  ·subst hjb;rw[B1];have:=ObOK.step st hj _ (hs.obj j);rw[hb]at this;obtain ⟨b',cs,T,fr,e1,e2,e3,e4,e5⟩:=this;refine⟨b',cs,T,fr,e1,e2,e3,e4,Av6 e5 λy v hy hv=>?_⟩;rw[h]at hy;cases hy;simp only[Rd]at hv;simp only[Rd,Az];exact hv
  ·rw[Cp _ _ hjb];exact ObOK.step st hj _ (hs.obj j)
def Wg{P:Program}(w:World){t e:TypeId}(h:P.underlying t=some (.slice e))(ad:Option Addr)(n cap c1 c2:Nat):(Op.equal t (.slice ad n cap) (.slice none c1 c2)).run P w=.ok ad.isNone w:=by
 have key:∀d,(Op.equalIn (d+1) t (.slice ad n cap) (.slice none c1 c2)).run P w=.ok ad.isNone w:=λd=>by
  cases ad<;>simp[Op.equalIn,run_underlying h]
 exact key 9999
inductive NilT(s:SS):SV→List Nat→Nat→Prop
 |sl {sz:Nat} {α:Type} {e:α→SV} {l:List α}:NilT s (.sl sz e l) [] l.length
 |row {k sz:Nat} {α:Type} {e:α→SV} {l:List α} (h:s.h k=.row sz e l):NilT s (.osl k) [k] l.length
theorem NilT.at{C:Cx}{s:SS}{κ:Ka}{a:Act}{w:World}{x:Operand}{rd:List Nat}{n:Nat}(hs:St C.F C.n s κ a w)(hx:NilT s (ev s x) rd n):∃(ad:Option Addr) (m cap:Nat),a.eval x=.slice ad m cap∧(ad.isNone=true→n=0):=by
 have h1:Rd κ w (ev s x) (a.eval x):=hs.ev x;generalize ev s x=y at *;cases hx with
 | @sl sz α e l=>
  simp only[Rd,RdD]at h1;rcases h1 with ⟨rfl,a',cap,h1⟩|⟨b,off,cap,h1,_⟩
  ·exact⟨_,_,_,h1,λ_=>rfl⟩
  ·exact⟨_,_,_,h1,λh=>by cases h⟩
 | @row k' sz α e l hr=>
  have cj:=hs.obj k';rw[hr]at cj;simp only[Rd]at h1;rcases cj with ⟨hκ,hl⟩|⟨b,cap,_,_,_,hκ,_⟩
  ·rw[hκ]at h1;exact⟨_,_,_,h1,λ_=>by rw[hl];rfl⟩
  ·rw[hκ]at h1;exact⟨_,_,_,h1,λh=>by cases h⟩
def D1{C:Cx}{k:List KI}{s:SS}{all:Array Oper}{o:Oper}{rest:List Oper}{op:BinOp}{t yt:TypeId}{ti:TI}{et:TypeId}{sz eb n:Nat}{ez:List Value}{x y:Operand}{rd:List Nat}(h:o.op=.binOp op t x y yt)(hop:op=.eql∨op=.neq)(ht:C.Γ.get t=some ti)(hk:ti.k=.slice et sz eb ez)(hy:ev s y=.val (.slice none 0 0))(hx:NilT s (ev s x) rd n)(hd:Vf C.n o=true)(hw:Hd C.n all o s=some true)(hg:∀b:Bool,(b=true→n=0)→G C (.ops all rest::k) (s.upd o.dst ⟨.val (.bool (if op=.eql then b else !b)),rd,[]⟩)):G C (.ops all (o::rest)::k) s:=λκ a w hs=>by
 have h2:Rd κ w (ev s y) (a.eval y):=hs.ev y;rw[hy]at h2;obtain ⟨ad,m,cap,e1,e2⟩:=hx.at hs;obtain ⟨d,info,z,k1,k2,_⟩:=C.Γ.ok t ti ht;rw[hk]at k2;simp only[TK.ok]at k2;have au:=Wg (P:=C.P) w (t:=t) (e:=et) (by first|exact k2.1▸k1|(rw[k1,k2.1])) ad m cap 0 0;have hG:=hg ad.isNone e2;have hv:=h2.val;refine wpList_step λK hK=>?_
 rw[zG (Vu hs (Hc hw).2 (Hc hw).1)];have p6:(execOp a.eval o).run C.P w=.ok (.value (.bool (if op=.eql then ad.isNone else !ad.isNone))) w:=by
  rcases hop with rfl|rfl<;>simp[execOp,h,e1,hv,eqGuard,binOp,au]
 simp only[Oper.wp,p6,Oper.upon];exact hK _ _ (hG κ _ w (hs.put (U:=⟨.val (.bool (if op=.eql then ad.isNone else !ad.isNone)),rd,[]⟩) (Agf hd) (Step.refl _ κ w) hs.inv (by simp[Rd]) (λp hp=>by cases hp)))
def KeepL(s:SS):List (Nat×Ob)→Prop
 |[]=>True
 |(k,o)::r=>s.h k=o∧KeepL s r
theorem KeepL.all{s:SS}:∀{l:List (Nat×Ob)},KeepL s l→∀p∈l,s.h p.1=p.2
 |[],_,p,hp=>by cases hp
 |(k,o)::r,h,p,hp=>by
  rcases yH.1 hp with rfl|hp
  ·exact h.1
  ·exact KeepL.all h.2 p hp
def Aat{κ:Ka}{w w':World}(hi:Inv κ w)(g:Grew w w'):Step (λ_=>False) κ w κ w'∧Inv κ w' :=
 ⟨⟨g.size,g.os,g.tape,g.output,rfl,λ b hb=>g.blk b (hi.mbnd b hb),λ b hb _=>g.blk b hb,λ k b _ hb=>g.blk b (hi.bnd k b hb),λ _ _=>rfl,λ _ h=>h.elim,λ _ h=>.inl h⟩,
  ⟨hi.inj,λ k b h=>yV (hi.bnd k b h) g.size,hi.apart,λ b h=>yV (hi.mbnd b h) g.size⟩⟩
theorem Spec.of_calls{P:Program}{f:FuncId}{A:List SV}{H:Obs}{u:Value}(h:∀(κ:Ka) (w:World) (vs:List Value),Inv κ w→RdL κ w A vs→H.ok κ w→Calls P f vs.toArray w λe w'=>e=.returned u∧RowKit.Below w.heap.size w w'):Spec P f A H (.val u) H:=by
 intro κ w vs hi _ hr ho;refine(h κ w vs hi hr ho).mono λe w' hw=>?_
 obtain ⟨he,hw⟩:=hw;have g:Grew w w':=⟨hw.os,hw.tape,hw.output,hw.size,hw.block⟩
 have st:=Aat hi g;exact⟨u,κ,he,(Ctx.refl κ w).step st.2 st.1,st.2,by simp[Rd],λp hp=>ObOK.step st.1 y_ p.2 (ho p hp)⟩
def U8{P:Program}{o:Oper}{s:SS}{x y:Operand}{at_:Array TypeId}{k k':IntKind}{m n:Int}(h:o.op=.call ⟨.builtin .min,#[x,y],at_⟩)(hx:ev s x=.val (.int k m))(hy:ev s y=.val (.int k' n)):Good P o s ⟨.val (.int k (if n<m then n else m)),[],[]⟩ :=
 Good.pure λκ a w _ hr ho=>by
  have h1:=hr x (by simp[h,Op.operands,Call.operands]);have h2:=hr y (by simp[h,Op.operands,Call.operands]);rw[hx]at h1;rw[hy]at h2;refine⟨.int k (if n<m then n else m),?_,by simp[Rd]⟩;simp[execOp,h,resolve,invoke,builtin,Builtin.min_,Builtin.min2,h1.val,h2.val]
end Go.Sy
namespace Go.Proofs
open Go.Shelf
def Tryz.lays219_ren:Go.Shelf.Ren:=⟨fun|219=>167|217=>243|225=>244|224=>245|267=>246|266=>312|314=>313|n=>n,fun|9=>9|3=>3|4=>4|5=>5|46=>128|146=>269|51=>82|n=>n,fun|1=>0|n=>n⟩
theorem Tryz.lays219:Go.Proofs.Lays.n219 Tryz.prog Tryz.lays219_ren:={
 mixed:=by kernel_rfl
 f217:=Tryz.func243.trans (zH some Go.Sy.z_)
 f219:=Tryz.func167.trans (zH some Go.Sy.z_)
 f224:=Tryz.func245.trans (zH some Go.Sy.z_)
 f225:=Tryz.func244.trans (zH some Go.Sy.z_)
 f266:=Tryz.func312.trans (zH some Go.Sy.z_)
 f267:=Tryz.func246.trans (zH some Go.Sy.z_)
 f314:=Tryz.func313.trans (zH some Go.Sy.z_)
 t3:=Tryz.underlying3
 a3:=Tryz.isAgg3
 z3:=Tryz.sizeOf3
 v3:=Tryz.zeroValue3
 t4:=Tryz.underlying4
 a4:=Tryz.isAgg4
 z4:=Tryz.sizeOf4
 v4:=Tryz.zeroValue4
 t5:=Tryz.underlying5
 a5:=Tryz.isAgg5
 z5:=Tryz.sizeOf5
 v5:=Tryz.zeroValue5
 t9:=Tryz.underlying9
 a9:=Tryz.isAgg9
 z9:=Tryz.sizeOf9
 v9:=Tryz.zeroValue9
 t46:=Tryz.underlying128
 a46:=Tryz.isAgg128
 z46:=Tryz.sizeOf128
 v46:=Tryz.zeroValue128
 t51:=Tryz.underlying82
 a51:=Tryz.isAgg82
 z51:=Tryz.sizeOf82
 v51:=Tryz.zeroValue82
 t146:=Tryz.underlying269
 a146:=Tryz.isAgg269
 z146:=Tryz.sizeOf269
 v146:=Tryz.zeroValue269
 g1:=by kernel_rfl }
open Go.RowKit Go.Lib in
theorem Tryz.stringslite_Index_one(s:ByteArray)(c:UInt8)(w:World):Calls Tryz.prog 167 #[.string s,.string ⟨#[c]⟩] w λe w'=>e=.returned (.int .i64 (Lib.indexByte s.data.toList c))∧w'=w:=Any.stringslite_Index_one Tryz.lays219 s c w
def Tryz.lays143_ren:Go.Shelf.Ren:=⟨fun|143=>250|219=>167|217=>243|225=>244|224=>245|267=>246|266=>312|314=>313|n=>n,fun|9=>9|3=>3|4=>4|5=>5|46=>128|146=>269|51=>82|n=>n,fun|1=>0|n=>n⟩
theorem Tryz.lays143:Go.Proofs.Lays.n143 Tryz.prog Tryz.lays143_ren:={
 mixed:=by kernel_rfl
 f143:=Tryz.func250.trans (zH some Go.Sy.z_)
 f217:=Tryz.func243.trans (zH some Go.Sy.z_)
 f219:=Tryz.func167.trans (zH some Go.Sy.z_)
 f224:=Tryz.func245.trans (zH some Go.Sy.z_)
 f225:=Tryz.func244.trans (zH some Go.Sy.z_)
 f266:=Tryz.func312.trans (zH some Go.Sy.z_)
 f267:=Tryz.func246.trans (zH some Go.Sy.z_)
 f314:=Tryz.func313.trans (zH some Go.Sy.z_)
 t3:=Tryz.underlying3
 a3:=Tryz.isAgg3
 z3:=Tryz.sizeOf3
 v3:=Tryz.zeroValue3
 t4:=Tryz.underlying4
 a4:=Tryz.isAgg4
 z4:=Tryz.sizeOf4
 v4:=Tryz.zeroValue4
 t5:=Tryz.underlying5
 a5:=Tryz.isAgg5
 z5:=Tryz.sizeOf5
 v5:=Tryz.zeroValue5
 t9:=Tryz.underlying9
 a9:=Tryz.isAgg9
 z9:=Tryz.sizeOf9
 v9:=Tryz.zeroValue9
 t46:=Tryz.underlying128
 a46:=Tryz.isAgg128
 z46:=Tryz.sizeOf128
 v46:=Tryz.zeroValue128
 t51:=Tryz.underlying82
 a51:=Tryz.isAgg82
 z51:=Tryz.sizeOf82
 v51:=Tryz.zeroValue82
 t146:=Tryz.underlying269
 a146:=Tryz.isAgg269
 z146:=Tryz.sizeOf269
 v146:=Tryz.zeroValue269
 g1:=by kernel_rfl }
open Go.RowKit Go.Lib in
theorem Tryz.strings_Index_one(s:ByteArray)(c:UInt8)(w:World):Calls Tryz.prog 250 #[.string s,.string ⟨#[c]⟩] w λe w'=>e=.returned (.int .i64 (Lib.indexByte s.data.toList c))∧w'=w:=Any.strings_Index_one Tryz.lays143 s c w
def Tryz.lays101_ren:Go.Shelf.Ren:=⟨fun|101=>168|208=>247|206=>314|n=>n,fun|9=>9|4=>4|3=>3|n=>n,fun|n=>n⟩
theorem Tryz.lays101:Go.Proofs.Lays.n101 Tryz.prog Tryz.lays101_ren:={
 mixed:=by kernel_rfl
 f101:=Tryz.func168.trans (zH some Go.Sy.z_)
 f206:=Tryz.func314.trans (zH some Go.Sy.z_)
 f208:=Tryz.func247.trans (zH some Go.Sy.z_)
 t3:=Tryz.underlying3
 a3:=Tryz.isAgg3
 z3:=Tryz.sizeOf3
 v3:=Tryz.zeroValue3
 t4:=Tryz.underlying4
 a4:=Tryz.isAgg4
 z4:=Tryz.sizeOf4
 v4:=Tryz.zeroValue4
 t9:=Tryz.underlying9
 a9:=Tryz.isAgg9
 z9:=Tryz.sizeOf9
 v9:=Tryz.zeroValue9 }
open Go.RowKit Go.Lib in
theorem Tryz.strings_TrimPrefix(s p:ByteArray)(w:World):Calls Tryz.prog 168 #[.string s,.string p] w λe w'=>e=.returned (.string ⟨(Lib.trimPrefix s.data.toList p.data.toList).toArray⟩)∧w'=w:=Any.strings_TrimPrefix Tryz.lays101 s p w
end Go.Proofs
