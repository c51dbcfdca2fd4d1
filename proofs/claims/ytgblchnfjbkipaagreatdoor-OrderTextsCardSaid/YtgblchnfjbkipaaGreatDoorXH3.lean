/-
  Ty N1 Sy20 Sy21 Sy23 O1 I1 I2 I3 I4 N2 N3 N4 N5 N6 N7 N8 N9 N10 N11 V1 I5 O7 Sy25 Sy26 Sy27 Sy28 Sh E1 E2 A2 E3 E4 Sy29 B0 D1 E36 E37 E5 E6: parts of a proof, joined by program.
-/
import Derived.Test.YtgblchnfjbkipaaGreatDoorXH2
import Derived.Test.YtgblchnfjbkipaaGreatDoorProg
import Derived.ProofKit
import Derived.OpenShut
import Derived.Test.YtgblchnfjbkipaaGreatDoorXH1
import Derived.ChangeKeysEq
import Derived.Below
import Derived.Lib.Join
import Derived.Shelf.Strings.OnBuilder
import Derived.Shelf.Strings.Search1
import Derived.Shelf.Strings.Search2
import Derived.Shelf.Strings.Search3
import Derived.Shelf.Strings.Cut
import Derived.Shelf.Strings.Prefix
namespace Go.Sy.YtgblchnfjbkipaaGreatDoor
open Go.Proofs
set_option maxRecDepth 100000
theorem ty1:Em Tryz.prog 1=some ⟨.func,1,[.nilFunc]⟩:=by kernel_rfl
theorem ty2:Em Tryz.prog 2=some ⟨.int .i64,1,[.int .i64 0]⟩:=by kernel_rfl
theorem ty3:Em Tryz.prog 3=some ⟨.int .i64,1,[.int .i64 0]⟩:=by kernel_rfl
theorem ty4:Em Tryz.prog 4=some ⟨.bool,1,[.bool false]⟩:=by kernel_rfl
theorem ty5:Em Tryz.prog 5=some ⟨.int .u8,1,[.int .u8 0]⟩:=by kernel_rfl
theorem ty7:Em Tryz.prog 7=some ⟨.struct [(0,1),(1,1),(2,1),(3,1)],4,[.int .i64 0,.int .i64 0,.bool false,.int .u8 0]⟩:=by kernel_rfl
theorem ty9:Em Tryz.prog 9=some ⟨.string,1,[.string .empty]⟩:=by kernel_rfl
theorem ty22:Em Tryz.prog 22=some ⟨.slice 28 17 240 [.int .i64 0,.int .i64 0,.string .empty,.string .empty,.string .empty,.string .empty,.string .empty,.int .u64 0,.int .u32 0,.int .i64 0,.int .i64 0,.int .i64 0,.int .i64 0,.slice none 0 0,.slice none 0 0,.slice none 0 0,.slice none 0 0],1,[.slice none 0 0]⟩:=by kernel_rfl
theorem ty23:Em Tryz.prog 23=some ⟨.int .u64,1,[.int .u64 0]⟩:=by kernel_rfl
theorem ty24:Em Tryz.prog 24=some ⟨.int .u32,1,[.int .u32 0]⟩:=by kernel_rfl
theorem ty25:Em Tryz.prog 25=some ⟨.slice 3 1 8 [.int .i64 0],1,[.slice none 0 0]⟩:=by kernel_rfl
theorem ty26:Em Tryz.prog 26=some ⟨.slice 24 1 4 [.int .u32 0],1,[.slice none 0 0]⟩:=by kernel_rfl
theorem ty28:Em Tryz.prog 28=some ⟨.struct [(0,1),(1,1),(2,1),(3,1),(4,1),(5,1),(6,1),(7,1),(8,1),(9,1),(10,1),(11,1),(12,1),(13,1),(14,1),(15,1),(16,1)],17,[.int .i64 0,.int .i64 0,.string .empty,.string .empty,.string .empty,.string .empty,.string .empty,.int .u64 0,.int .u32 0,.int .i64 0,.int .i64 0,.int .i64 0,.int .i64 0,.slice none 0 0,.slice none 0 0,.slice none 0 0,.slice none 0 0]⟩:=by kernel_rfl
theorem ty35:Em Tryz.prog 35=some ⟨.slice 5 1 1 [.int .u8 0],1,[.slice none 0 0]⟩:=by kernel_rfl
theorem ty36:Em Tryz.prog 36=some ⟨.int .i64,1,[.int .i64 0]⟩:=by kernel_rfl
theorem ty49:Em Tryz.prog 49=some ⟨.slice 110 5 80 [.int .i64 0,.int .i64 0,.string .empty,.slice none 0 0,.slice none 0 0],1,[.slice none 0 0]⟩:=by kernel_rfl
theorem ty67:Em Tryz.prog 67=some ⟨.func,1,[.nilFunc]⟩:=by kernel_rfl
theorem ty122:Em Tryz.prog 122=some ⟨.struct [(0,1),(1,1)],2,[.int .u32 0,.int .i64 0]⟩:=by kernel_rfl
theorem ty164:Em Tryz.prog 164=some ⟨.slice 9 1 16 [.string .empty],1,[.slice none 0 0]⟩:=by kernel_rfl
theorem ty220:Em Tryz.prog 220=some ⟨.ptr,1,[.pointer none]⟩:=by kernel_rfl
theorem ty222:Em Tryz.prog 222=some ⟨.struct [(0,1),(1,1),(2,1)],3,[.slice none 0 0,.int .i64 0,.int .i64 0]⟩:=by kernel_rfl
theorem ty228:Em Tryz.prog 228=some ⟨.ptr,1,[.pointer none]⟩:=by kernel_rfl
theorem ty230:Em Tryz.prog 230=some ⟨.func,1,[.nilFunc]⟩:=by kernel_rfl
theorem ty257:Em Tryz.prog 257=some ⟨.int .u64,1,[.int .u64 0]⟩:=by kernel_rfl
theorem ty272:Em Tryz.prog 272=some ⟨.func,1,[.nilFunc]⟩:=by kernel_rfl
theorem ty275:Em Tryz.prog 275=some ⟨.func,1,[.nilFunc]⟩:=by kernel_rfl
theorem ty294:Em Tryz.prog 294=some ⟨.func,1,[.nilFunc]⟩:=by kernel_rfl
theorem ty302:Em Tryz.prog 302=some ⟨.struct [(0,1),(1,1)],2,[.pointer none,.slice none 0 0]⟩:=by kernel_rfl
theorem tq122:Ac6 Tryz.prog 122=some [.int .u32,.int .i64]:=by kernel_rfl
def tab:Tr TI:=(.nd 36 (⟨.int .i64,1,[.int .i64 0]⟩) (.nd 22 (⟨.slice 28 17 240 [.int .i64 0,.int .i64 0,.string .empty,.string .empty,.string .empty,.string .empty,.string .empty,.int .u64 0,.int .u32 0,.int .i64 0,.int .i64 0,.int .i64 0,.int .i64 0,.slice none 0 0,.slice none 0 0,.slice none 0 0,.slice none 0 0],1,[.slice none 0 0]⟩) (.nd 4 (⟨.bool,1,[.bool false]⟩) (.nd 2 (⟨.int .i64,1,[.int .i64 0]⟩) (.nd 1 (⟨.func,1,[.nilFunc]⟩) .lf .lf) (.nd 3 (⟨.int .i64,1,[.int .i64 0]⟩) .lf .lf)) (.nd 7 (⟨.struct [(0,1),(1,1),(2,1),(3,1)],4,[.int .i64 0,.int .i64 0,.bool false,.int .u8 0]⟩) (.nd 5 (⟨.int .u8,1,[.int .u8 0]⟩) .lf .lf) (.nd 9 (⟨.string,1,[.string .empty]⟩) .lf .lf))) (.nd 26 (⟨.slice 24 1 4 [.int .u32 0],1,[.slice none 0 0]⟩) (.nd 24 (⟨.int .u32,1,[.int .u32 0]⟩) (.nd 23 (⟨.int .u64,1,[.int .u64 0]⟩) .lf .lf) (.nd 25 (⟨.slice 3 1 8 [.int .i64 0],1,[.slice none 0 0]⟩) .lf .lf)) (.nd 35 (⟨.slice 5 1 1 [.int .u8 0],1,[.slice none 0 0]⟩) (.nd 28 (⟨.struct [(0,1),(1,1),(2,1),(3,1),(4,1),(5,1),(6,1),(7,1),(8,1),(9,1),(10,1),(11,1),(12,1),(13,1),(14,1),(15,1),(16,1)],17,[.int .i64 0,.int .i64 0,.string .empty,.string .empty,.string .empty,.string .empty,.string .empty,.int .u64 0,.int .u32 0,.int .i64 0,.int .i64 0,.int .i64 0,.int .i64 0,.slice none 0 0,.slice none 0 0,.slice none 0 0,.slice none 0 0]⟩) .lf .lf) .lf))) (.nd 228 (⟨.ptr,1,[.pointer none]⟩) (.nd 164 (⟨.slice 9 1 16 [.string .empty],1,[.slice none 0 0]⟩) (.nd 67 (⟨.func,1,[.nilFunc]⟩) (.nd 49 (⟨.slice 110 5 80 [.int .i64 0,.int .i64 0,.string .empty,.slice none 0 0,.slice none 0 0],1,[.slice none 0 0]⟩) .lf .lf) (.nd 122 (⟨.struct [(0,1),(1,1)],2,[.int .u32 0,.int .i64 0]⟩) .lf .lf)) (.nd 222 (⟨.struct [(0,1),(1,1),(2,1)],3,[.slice none 0 0,.int .i64 0,.int .i64 0]⟩) (.nd 220 (⟨.ptr,1,[.pointer none]⟩) .lf .lf) .lf)) (.nd 275 (⟨.func,1,[.nilFunc]⟩) (.nd 257 (⟨.int .u64,1,[.int .u64 0]⟩) (.nd 230 (⟨.func,1,[.nilFunc]⟩) .lf .lf) (.nd 272 (⟨.func,1,[.nilFunc]⟩) .lf .lf)) (.nd 302 (⟨.struct [(0,1),(1,1)],2,[.pointer none,.slice none 0 0]⟩) (.nd 294 (⟨.func,1,[.nilFunc]⟩) .lf .lf) .lf))))
def etab:Tr (List EK):=(.nd 122 ([.int .u32,.int .i64]) .lf .lf)
theorem tab_ok:tab.all (fun t i=>Em Tryz.prog t=some i):=⟨ty36,⟨ty22,⟨ty4,⟨ty2,⟨ty1,trivial,trivial⟩,⟨ty3,trivial,trivial⟩⟩,⟨ty7,⟨ty5,trivial,trivial⟩,⟨ty9,trivial,trivial⟩⟩⟩,⟨ty26,⟨ty24,⟨ty23,trivial,trivial⟩,⟨ty25,trivial,trivial⟩⟩,⟨ty35,⟨ty28,trivial,trivial⟩,trivial⟩⟩⟩,⟨ty228,⟨ty164,⟨ty67,⟨ty49,trivial,trivial⟩,⟨ty122,trivial,trivial⟩⟩,⟨ty222,⟨ty220,trivial,trivial⟩,trivial⟩⟩,⟨ty275,⟨ty257,⟨ty230,trivial,trivial⟩,⟨ty272,trivial,trivial⟩⟩,⟨ty302,⟨ty294,trivial,trivial⟩,trivial⟩⟩⟩⟩
theorem Aiy:etab.all (fun t i=>Ac6 Tryz.prog t=some i):=⟨tq122,trivial,trivial⟩
def Γ:TyE Tryz.prog:=⟨⟨fun t=>tab.look t,fun _ _ h=>Aib (Tr.look_ok tab_ok h)⟩,fun t=>etab.look t,fun _ _ h=>Aht (Tr.look_ok Aiy h)⟩
theorem hm:Tryz.prog.follows .mixedOrders=true:=by kernel_rfl
abbrev fT (i:Nat) (fn:Func):Prop:=Fun Tryz.prog i fn (Uj fn)
theorem fN {P : Program} {f : FuncId} {fn : Func} (h : P.funcs[f]? = some fn) (hb : fn.body = some (Uj fn) := by exact rfl) (hn : (fn.name == "runtime.NumGoroutine") = false := by kernel_rfl) : Fun P f fn (Uj fn) := ⟨h, hb, hn⟩
theorem cT {f:FuncId} {fn:Func} {c:Code} {A:List SV} {H:Obs} {R:SV} {H':Obs} (hF:Fun Tryz.prog f fn c) {n:Nat} (hn':fn.ntmps=n)
  (h:∀ (F:Fr) (hF:∀ k,F.k0 k≠.new→k∈H.keys),Ik ⟨Tryz.prog,Γ.toTy,F,n,Ll Tryz.prog fn F R H',H.keys,hF⟩ Γ 100 [.code c] ⟨argσ A,mkh H⟩) (hn:Zl A n=true:=by exact rfl):Sy.Spec Tryz.prog f A H R H':=Hd Γ hm 100 hF hn' hn h
theorem F4:fT 4 Tryz.f4:=fN Tryz.func4
theorem F13:fT 13 Tryz.f13:=fN Tryz.func13
theorem F15:fT 15 Tryz.f15:=fN Tryz.func15
theorem F16:fT 16 Tryz.f16:=fN Tryz.func16
theorem F17:fT 17 Tryz.f17:=fN Tryz.func17
theorem F19:fT 19 Tryz.f19:=fN Tryz.func19
theorem F20:fT 20 Tryz.f20:=fN Tryz.func20
theorem F21:fT 21 Tryz.f21:=fN Tryz.func21
theorem F22:fT 22 Tryz.f22:=fN Tryz.func22
theorem F34:fT 34 Tryz.f34:=fN Tryz.func34
theorem F35:fT 35 Tryz.f35:=fN Tryz.func35
theorem F36:fT 36 Tryz.f36:=fN Tryz.func36
theorem F37:fT 37 Tryz.f37:=fN Tryz.func37
theorem F38:fT 38 Tryz.f38:=fN Tryz.func38
theorem F39:fT 39 Tryz.f39:=fN Tryz.func39
theorem F40:fT 40 Tryz.f40:=fN Tryz.func40
theorem F41:fT 41 Tryz.f41:=fN Tryz.func41
theorem F42:fT 42 Tryz.f42:=fN Tryz.func42
theorem F43:fT 43 Tryz.f43:=fN Tryz.func43
theorem F44:fT 44 Tryz.f44:=fN Tryz.func44
theorem F45:fT 45 Tryz.f45:=fN Tryz.func45
theorem F46:fT 46 Tryz.f46:=fN Tryz.func46
theorem F47:fT 47 Tryz.f47:=fN Tryz.func47
theorem F48:fT 48 Tryz.f48:=fN Tryz.func48
theorem F49:fT 49 Tryz.f49:=fN Tryz.func49
theorem F50:fT 50 Tryz.f50:=fN Tryz.func50
theorem F56:fT 56 Tryz.f56:=fN Tryz.func56
theorem F57:fT 57 Tryz.f57:=fN Tryz.func57
theorem F64:fT 64 Tryz.f64:=fN Tryz.func64
theorem F69:fT 69 Tryz.f69:=fN Tryz.func69
theorem F99:fT 99 Tryz.f99:=fN Tryz.func99
theorem F100:fT 100 Tryz.f100:=fN Tryz.func100
theorem F101:fT 101 Tryz.f101:=fN Tryz.func101
theorem F102:fT 102 Tryz.f102:=fN Tryz.func102
theorem F103:fT 103 Tryz.f103:=fN Tryz.func103
theorem F104:fT 104 Tryz.f104:=fN Tryz.func104
theorem F105:fT 105 Tryz.f105:=fN Tryz.func105
theorem F106:fT 106 Tryz.f106:=fN Tryz.func106
theorem F107:fT 107 Tryz.f107:=fN Tryz.func107
theorem F109:fT 109 Tryz.f109:=fN Tryz.func109
theorem F110:fT 110 Tryz.f110:=fN Tryz.func110
theorem F111:fT 111 Tryz.f111:=fN Tryz.func111
theorem F112:fT 112 Tryz.f112:=fN Tryz.func112
theorem F113:fT 113 Tryz.f113:=fN Tryz.func113
theorem F114:fT 114 Tryz.f114:=fN Tryz.func114
theorem F115:fT 115 Tryz.f115:=fN Tryz.func115
theorem F116:fT 116 Tryz.f116:=fN Tryz.func116
theorem F160:fT 160 Tryz.f160:=fN Tryz.func160
theorem F161:fT 161 Tryz.f161:=fN Tryz.func161
theorem F166:fT 166 Tryz.f166:=fN Tryz.func166
theorem F168:fT 168 Tryz.f168:=fN Tryz.func168
theorem F169:fT 169 Tryz.f169:=fN Tryz.func169
theorem F170:fT 170 Tryz.f170:=fN Tryz.func170
theorem F171:fT 171 Tryz.f171:=fN Tryz.func171
theorem F172:fT 172 Tryz.f172:=fN Tryz.func172
theorem F173:fT 173 Tryz.f173:=fN Tryz.func173
theorem F174:fT 174 Tryz.f174:=fN Tryz.func174
theorem F175:fT 175 Tryz.f175:=fN Tryz.func175
theorem F176:fT 176 Tryz.f176:=fN Tryz.func176
theorem F177:fT 177 Tryz.f177:=fN Tryz.func177
theorem F178:fT 178 Tryz.f178:=fN Tryz.func178
theorem F179:fT 179 Tryz.f179:=fN Tryz.func179
theorem F180:fT 180 Tryz.f180:=fN Tryz.func180
theorem F181:fT 181 Tryz.f181:=fN Tryz.func181
theorem F182:fT 182 Tryz.f182:=fN Tryz.func182
theorem F183:fT 183 Tryz.f183:=fN Tryz.func183
theorem F184:fT 184 Tryz.f184:=fN Tryz.func184
theorem F185:fT 185 Tryz.f185:=fN Tryz.func185
theorem F186:fT 186 Tryz.f186:=fN Tryz.func186
theorem F187:fT 187 Tryz.f187:=fN Tryz.func187
theorem F188:fT 188 Tryz.f188:=fN Tryz.func188
theorem F189:fT 189 Tryz.f189:=fN Tryz.func189
theorem F190:fT 190 Tryz.f190:=fN Tryz.func190
theorem F191:fT 191 Tryz.f191:=fN Tryz.func191
theorem F192:fT 192 Tryz.f192:=fN Tryz.func192
theorem F193:fT 193 Tryz.f193:=fN Tryz.func193
theorem F194:fT 194 Tryz.f194:=fN Tryz.func194
theorem F195:fT 195 Tryz.f195:=fN Tryz.func195
theorem F196:fT 196 Tryz.f196:=fN Tryz.func196
theorem F197:fT 197 Tryz.f197:=fN Tryz.func197
theorem F198:fT 198 Tryz.f198:=fN Tryz.func198
theorem F199:fT 199 Tryz.f199:=fN Tryz.func199
theorem F200:fT 200 Tryz.f200:=fN Tryz.func200
theorem F201:fT 201 Tryz.f201:=fN Tryz.func201
theorem F202:fT 202 Tryz.f202:=fN Tryz.func202
theorem F229:fT 229 Tryz.f229:=fN Tryz.func229
theorem F230:fT 230 Tryz.f230:=fN Tryz.func230
theorem F231:fT 231 Tryz.f231:=fN Tryz.func231
theorem F232:fT 232 Tryz.f232:=fN Tryz.func232
theorem F234:fT 234 Tryz.f234:=fN Tryz.func234
theorem F235:fT 235 Tryz.f235:=fN Tryz.func235
theorem F236:fT 236 Tryz.f236:=fN Tryz.func236
theorem F237:fT 237 Tryz.f237:=fN Tryz.func237
theorem F238:fT 238 Tryz.f238:=fN Tryz.func238
theorem F239:fT 239 Tryz.f239:=fN Tryz.func239
theorem F241:fT 241 Tryz.f241:=fN Tryz.func241
theorem F242:fT 242 Tryz.f242:=fN Tryz.func242
theorem F243:fT 243 Tryz.f243:=fN Tryz.func243
theorem F244:fT 244 Tryz.f244:=fN Tryz.func244
theorem F245:fT 245 Tryz.f245:=fN Tryz.func245
theorem F246:fT 246 Tryz.f246:=fN Tryz.func246
theorem F247:fT 247 Tryz.f247:=fN Tryz.func247
theorem F248:fT 248 Tryz.f248:=fN Tryz.func248
theorem F249:fT 249 Tryz.f249:=fN Tryz.func249
theorem F250:fT 250 Tryz.f250:=fN Tryz.func250
theorem F251:fT 251 Tryz.f251:=fN Tryz.func251
theorem F252:fT 252 Tryz.f252:=fN Tryz.func252
theorem F253:fT 253 Tryz.f253:=fN Tryz.func253
theorem F254:fT 254 Tryz.f254:=fN Tryz.func254
theorem F255:fT 255 Tryz.f255:=fN Tryz.func255
theorem F256:fT 256 Tryz.f256:=fN Tryz.func256
theorem F257:fT 257 Tryz.f257:=fN Tryz.func257
theorem F258:fT 258 Tryz.f258:=fN Tryz.func258
theorem F259:fT 259 Tryz.f259:=fN Tryz.func259
theorem F260:fT 260 Tryz.f260:=fN Tryz.func260
theorem F261:fT 261 Tryz.f261:=fN Tryz.func261
theorem F262:fT 262 Tryz.f262:=fN Tryz.func262
theorem F263:fT 263 Tryz.f263:=fN Tryz.func263
theorem F264:fT 264 Tryz.f264:=fN Tryz.func264
theorem F265:fT 265 Tryz.f265:=fN Tryz.func265
theorem F266:fT 266 Tryz.f266:=fN Tryz.func266
theorem F267:fT 267 Tryz.f267:=fN Tryz.func267
theorem F287:fT 287 Tryz.f287:=fN Tryz.func287
theorem F289:fT 289 Tryz.f289:=fN Tryz.func289
theorem F290:fT 290 Tryz.f290:=fN Tryz.func290
theorem F291:fT 291 Tryz.f291:=fN Tryz.func291
theorem F292:fT 292 Tryz.f292:=fN Tryz.func292
theorem F294:fT 294 Tryz.f294:=fN Tryz.func294
theorem F295:fT 295 Tryz.f295:=fN Tryz.func295
theorem F296:fT 296 Tryz.f296:=fN Tryz.func296
theorem F297:fT 297 Tryz.f297:=fN Tryz.func297
theorem F298:fT 298 Tryz.f298:=fN Tryz.func298
theorem F299:fT 299 Tryz.f299:=fN Tryz.func299
theorem F300:fT 300 Tryz.f300:=fN Tryz.func300
theorem F301:fT 301 Tryz.f301:=fN Tryz.func301
theorem F302:fT 302 Tryz.f302:=fN Tryz.func302
theorem F306:fT 306 Tryz.f306:=fN Tryz.func306
theorem F307:fT 307 Tryz.f307:=fN Tryz.func307
theorem F308:fT 308 Tryz.f308:=fN Tryz.func308
theorem F309:fT 309 Tryz.f309:=fN Tryz.func309
theorem F310:fT 310 Tryz.f310:=fN Tryz.func310
theorem F311:fT 311 Tryz.f311:=fN Tryz.func311
theorem F312:fT 312 Tryz.f312:=fN Tryz.func312
theorem F313:fT 313 Tryz.f313:=fN Tryz.func313
theorem F314:fT 314 Tryz.f314:=fN Tryz.func314
theorem F315:fT 315 Tryz.f315:=fN Tryz.func315
theorem F316:fT 316 Tryz.f316:=fN Tryz.func316
theorem F317:fT 317 Tryz.f317:=fN Tryz.func317
theorem F318:fT 318 Tryz.f318:=fN Tryz.func318
theorem F337:fT 337 Tryz.f337:=fN Tryz.func337
theorem F338:fT 338 Tryz.f338:=fN Tryz.func338
theorem F349:fT 349 Tryz.f349:=fN Tryz.func349
theorem F350:fT 350 Tryz.f350:=fN Tryz.func350
theorem F351:fT 351 Tryz.f351:=fN Tryz.func351
theorem F352:fT 352 Tryz.f352:=fN Tryz.func352
theorem F355:fT 355 Tryz.f355:=fN Tryz.func355
theorem F356:fT 356 Tryz.f356:=fN Tryz.func356
theorem F357:fT 357 Tryz.f357:=fN Tryz.func357
theorem F358:fT 358 Tryz.f358:=fN Tryz.func358
theorem F359:fT 359 Tryz.f359:=fN Tryz.func359
theorem F360:fT 360 Tryz.f360:=fN Tryz.func360
theorem rg {F:Fr} {n:Nat} {B:Exit→Act→World→Prop} {bn:List Nat} {hbn:∀ k,F.k0 k≠.new→k∈bn} {k:List KI} {s:SS} (h:Ik ⟨Tryz.prog,Γ.toTy,F,n,B,bn,hbn⟩ Γ 400 k s):G ⟨Tryz.prog,Γ.toTy,F,n,B,bn,hbn⟩ k s:=rG Γ hm h
theorem rd {F:Fr} {n:Nat} {B:Exit→Act→World→Prop} {bn:List Nat} {hbn:∀ k,F.k0 k≠.new→k∈bn} {k:List KI} {s:SS} {all:Array Oper} {done:List Stp} {rest:List Oper} (hs:all.toList=done.map (·.o)++rest) (h:On ⟨Tryz.prog,Γ.toTy,F,n,B,bn,hbn⟩ Γ 400 k all done rest s):DR ⟨Tryz.prog,Γ.toTy,F,n,B,bn,hbn⟩ k all done rest s:=rD Γ hm hs h
structure Bq (Q:Prop):Prop where out:Q
theorem oO {P Q:Prop} (h:Q) (e:Bq Q→P:=by intro hb;refine rg ?_;(conv=>whnf);exact hb.out):P:=e ⟨h⟩
theorem oF {P Q:Prop} (h:Q) (e:Bq Q→P:=by intro hb;refine rg ?_;(conv=>whnf);refine aF ?_;refine rg ?_;(conv=>whnf);exact hb.out):P:=e ⟨h⟩
theorem oT {P Q:Prop} (h:Q) (e:Bq Q→P:=by intro hb;refine rg ?_;(conv=>whnf);refine aT ?_;refine rg ?_;(conv=>whnf);exact hb.out):P:=e ⟨h⟩
theorem bF {P Q:Prop} (h:Q) (e:Bq Q→P:=by intro hb;refine aF ?_;refine rg ?_;(conv=>whnf);exact hb.out):P:=e ⟨h⟩
theorem bT {P Q:Prop} (h:Q) (e:Bq Q→P:=by intro hb;refine aT ?_;refine rg ?_;(conv=>whnf);exact hb.out):P:=e ⟨h⟩
theorem oD {P Q:Prop} (h:Q) (e:Bq Q→P:=by intro hb;refine rd y_ ?_;(conv=>whnf);exact hb.out):P:=e ⟨h⟩
theorem dN {P:Prop} (h:P:=by
 apply Bv
 ·exact q_
 ·(repeat (first | exact ResVs.nil | (apply ResVs.cons;(first | exact .tmp | exact .cell rfl rfl rfl rfl))))
 ·exact q_
 ·exact q_):P:=h
theorem iL {a:Int} {K:Prop} (h:K) (e:I64 a:=by unfold I64;omega):I64 a∧K:=⟨e,h⟩
theorem iW {a:Int} {K Q:Prop} (h:Q) (e:I64 a:=by unfold I64;omega) (e2:Bq Q→K:=by intro hb;(conv=>whnf);exact hb.out):I64 a∧K:=⟨e,e2 ⟨h⟩⟩
theorem kW {α:Sort _} {a b:α} {K Q:Prop} (h:Q) (e:a=b:=by kernel_rfl) (e2:Bq Q→K:=by intro hb;(conv=>whnf);exact hb.out):a=b∧K:=⟨e,e2 ⟨h⟩⟩
theorem c0 {C:Cx} {k:List KI} {s:SS} {all:Array Oper} {o:Oper} {rest:List Oper} {f:FuncId} {fn:Func} {c:Code} {xs:List Operand} {ts:Array TypeId} {A:List SV} {R:SV} (hs:Sy.Spec C.P f A [] R []) (hf:Fun C.P f fn c) (hg:G C (.ops all rest::k) (s.upd o.dst ⟨R,[],[]⟩)) (h:o.op=.call ⟨.value (.func f),xs.toArray,ts⟩:=by exact rfl)
  (hA:A=xs.map (ev s):=by exact rfl) (hok:(Cg [] A && R.inn [])=true:=by exact rfl) (hd:Ly C.n o=true:=by exact rfl) (hw:Dh C.n all o s=some true:=by exact rfl):G C (.ops all (o::rest)::k) s:=Ajg hs hf h hA hok hd hw hg
theorem cD {C:Cx} {k:List KI} {s:SS} {all:Array Oper} {done:List Stp} {o:Oper} {rest:List Oper} {f:FuncId} {fn:Func} {c:Code} {xs:List Operand} {ts:Array TypeId} {A:List SV} {R:SV} (hs:Sy.Spec C.P f A [] R []) (hf:Fun C.P f fn c) (hg:DR C k all (done++[⟨done.length,o,⟨R,[],[]⟩,true⟩]) rest (s.upd o.dst ⟨R,[],[]⟩)) (h:o.op=.call ⟨.value (.func f),xs.toArray,ts⟩:=by exact rfl)
  (hA:A=xs.map (ev s):=by exact rfl) (hok:(Cg [] A && R.inn [])=true:=by exact rfl) (hi:all[done.length]? = some o:=by kernel_rfl) (hw:Dh C.n all o s=some true:=by exact rfl):DR C k all done (o::rest) s:=Ah1 hs hf h hA hok hi hw hg
theorem qA {p q:Prop} [Decidable p] (h:decide p=true) (e:p→q:=by intro _h;omega):q:=e (of_decide_eq_true h)
theorem qB {p q:Prop} [Decidable p] (h:decide p=false) (e:¬ p→q:=by intro _h;omega):q:=e (of_decide_eq_false h)
end Go.Sy.YtgblchnfjbkipaaGreatDoor
namespace Go.Sy.YtgblchnfjbkipaaGreatDoor
open Go.Proofs
structure Device where
 (row prio:Int) (name:ByteArray) (mac vtep:Int)
structure Port where
 (row dev native cost link:Int) (name:ByteArray) (tagged:List Int)
structure Link where
 (row a b:Int)
structure Domain where
 (dev vlan vni irb row:Int) (peers:List Int)
structure Static where
 (row domain port mac:Int)
structure Flood where
 (row dev vni:Int) (addrs:List Int)
structure Vrf where
 (row dev:Int) (name:ByteArray) (imports exports:List Int)
structure Irb where
 (row domain vrf addr bits:Int)
structure Net where
 (devices:List Device) (ports:List Port) (links:List Link) (domains:List Domain) (statics:List Static) (floods:List Flood) (vrfs:List Vrf) (irbs:List Irb)
instance:Inhabited Device:=⟨⟨0,0,.empty,0,0⟩⟩
instance:Inhabited Port:=⟨⟨0,0,0,0,0,.empty,[]⟩⟩
instance:Inhabited Link:=⟨⟨0,0,0⟩⟩
instance:Inhabited Domain:=⟨⟨0,0,0,0,0,[]⟩⟩
instance:Inhabited Static:=⟨⟨0,0,0,0⟩⟩
instance:Inhabited Flood:=⟨⟨0,0,0,[]⟩⟩
instance:Inhabited Vrf:=⟨⟨0,0,.empty,[],[]⟩⟩
instance:Inhabited Irb:=⟨⟨0,0,0,0,0⟩⟩
def E5 (i:Int) (n:Nat):Bool:=decide (0≤i) && decide (i<n)
def inB (l:List Int) (x:Int):Bool:=l.any (· == x)
def nth {α:Type} [Inhabited α] (l:List α) (i:Int):α:=(l[i.toNat]?).getD default
theorem Tw {α:Type} [Inhabited α] {l:List α} {i:Int} (h:i.toNat<l.length):nth l i=l[i.toNat]:=by
 simp[nth,h]
def Xn {α:Type} (p:α→Bool) (l:List α):Int:=match l.findIdx? p with | some i=>(i:Int) | none=>-1
theorem Ab6 {α:Type} {p:α→Bool} {l:List α} {j:Nat} (h:j<l.length) (h1:∀ i (hi:i<l.length),i<j→p l[i]=false) (h2:p l[j]=true):Xn p l=j:=by
 have:l.findIdx? p=some j:=by
  rw[List.findIdx?_eq_some_iff_getElem]
  exact⟨h,h2,fun i hi=>by simp[h1 i j_ hi]⟩
 simp[Xn,this]
theorem Ae0 {α:Type} {p:α→Bool} {l:List α} (h1:∀ i (hi:i<l.length),p l[i]=false):Xn p l=-1:=by
 have:l.findIdx? p=none:=by
  rw[List.findIdx?_eq_none_iff]
  intro x hx
  obtain ⟨i,hi,rfl⟩:=List.mem_iff_getElem.1 hx
  exact h1 i hi
 simp[Xn,this]
theorem Ahg {α:Type} (p:α→Bool) (l:List α):decide (0≤Xn p l)=l.any p:=by
 unfold Xn
 split
 ·rename_i i h
  rw[List.findIdx?_eq_some_iff_getElem]at h
  obtain ⟨h,h2,_⟩:=h
  have:l.any p=true:=List.any_eq_true.2 ⟨_,List.getElem_mem h,h2⟩
  rw[this]
  simp
 ·rename_i h
  rw[List.findIdx?_eq_none_iff]at h
  have:l.any p=false:=by
   rw[List.any_eq_false]
   intro x hx
   simp[h x hx]
  rw[this]
  simp
def I5 {α:Type} (p:Nat→α→Bool) (l:List α):Bool:=l.zipIdx.all fun q=>p q.2 q.1
theorem allB_iff {α:Type} {p:Nat→α→Bool} {l:List α}:I5 p l=true↔∀ i (h:i<l.length),p i l[i]=true:=by
 simp only[I5,List.all_eq_true]
 constructor
 ·intro h i hi
  exact h (l[i],i) (by rw[List.mk_mem_zipIdx_iff_getElem?];simp[hi])
 ·rintro h ⟨x,i⟩ hx
  rw[List.mk_mem_zipIdx_iff_getElem?]at hx
  obtain ⟨hi,rfl⟩:=List.getElem?_eq_some_iff.1 hx
  exact h i hi
theorem Afd {α:Type} {p:Nat→α→Bool} {l:List α} (h:∀ i (h:i<l.length),p i l[i]=true):I5 p l=true:=allB_iff.2 h
theorem D5 {α:Type} {p:Nat→α→Bool} {l:List α} {i:Nat} (h:i<l.length) (h1:p i l[i]=false):I5 p l=false:=by
 cases hh:I5 p l with
 | false=>rfl
 | true=>have:=allB_iff.1 hh i h;rw[h1]at this;cases this
def J1 {α:Type} (p:Nat→α→Bool) (l:List α) (j:Nat):Prop:=∀ i (h:i<l.length),i<j→p i l[i]=true
theorem Cz {α:Type} (p:Nat→α→Bool) (l:List α):J1 p l 0:=fun i h hj=>absurd hj j_
theorem Ce {α:Type} {p:Nat→α→Bool} {l:List α} {j:Nat} (hI:J1 p l j) (hj:j<l.length) (h:p j l[j]=true):J1 p l (j+1):=by
 intro i hi hij
 rcases Nat.lt_or_ge i j with h1 | h1
 ·exact hI i hi h1
 ·have:i=j:=by omega
  subst this
  exact h
theorem Mr {α:Type} {p:Nat→α→Bool} {l:List α} {j:Nat} (hI:J1 p l j) (hj:l.length≤j):I5 p l=true:=Afd fun i hi=>hI i hi j_
def Ec {α:Type} (l:List α):Prop:=l.length<2147483648
end Go.Sy.YtgblchnfjbkipaaGreatDoor
namespace Go.Sy
theorem Xs (w:World) {b:Nat} {cs:Array Value} {T:TypeId} {fr:Nat × Nat} (h:w.heap[b]? = some (.cells cs T fr)) (n:Nat) :
  (w.freeze ⟨b,n,none⟩ 1).heap[b]? = some (.cells cs T (if fr.1 == fr.2 then (n,n+1) else (min fr.1 n,max fr.2 (n+1))))∧(w.freeze ⟨b,n,none⟩ 1).os=w.os∧(w.freeze ⟨b,n,none⟩ 1).tape=w.tape∧(w.freeze ⟨b,n,none⟩ 1).output=w.output ∧
   (w.freeze ⟨b,n,none⟩ 1).heap.size=w.heap.size∧∀ i,i≠b→(w.freeze ⟨b,n,none⟩ 1).heap[i]? = w.heap[i]?:=by
 unfold World.freeze
 rw[if_neg qe]
 refine⟨?_,q_,q_,q_,by simp,fun i hi=>?_⟩
 ·simp[Array.getElem?_modify,h]
 ·simp[Array.getElem?_modify,Ne.symm hi]
theorem Ok {P:Program} (Γ:Ty P) {o:Oper} {s:SS} {t:TypeId} {ti ei:TI} {x:Operand} {et:TypeId} {sz eb k:Nat} {ez:List Value} {svs:List SV} (h:o.op=.convert t t x)
  (ht:Γ.get t=some ti) (hk:ti.k=.slice et sz eb ez) (he:Γ.get et=some ei) (hek:ei.k=.int .u8) (hx:ev s x=.osl k) (hl:s.h k=.lit sz svs):Good P o s ⟨.osl k,[],[(k,.lit sz svs)]⟩:=by
 intro κ a w hi hr ho N Q hN
 have h1:=hr x (by simp[h,Op.operands])
 have h3:=ho k (.inr (by simp[Up.ws]))
 rw[hl]at h3
 rw[hx]at h1
 obtain ⟨b,cap,cs,T,fr,f1,f2,f3,f4,f5,f6⟩:=h3
 simp only[Rd,f1]at h1
 obtain ⟨hu,_⟩:=Dg Γ ht hk
 have he':=Qh Γ he hek
 obtain ⟨q1,q2,q3,q4,q5,q6⟩:=Xs w f2 cs.length
 have hsh:w.shape? b=some (T,cs.length):=by
  unfold World.shape?
  rw[f2]
  simp
 have hrun:(execOp a.eval o).run P w=.ok (.value (.slice (some ⟨b,0,none⟩) svs.length cap)) (w.freeze ⟨b,cs.length,none⟩ 1):=by
  simp[execOp,h,h1,convert,run_underlying hu,run_underlying he',markStringish,hsh]
 simp only[Oper.wp,hrun,Oper.upon]
 obtain ⟨st,inv⟩:=Jg hi (k:=k) (b:=b) (by rw[f1];rfl) q2 q3 q4 q5 q6
 refine hN _ κ _ (st.weaken (by simp[Up.ws])) inv (by simp[Rd,f1]) (fun p hp=>?_)
 simp only[List.mem_singleton]at hp
 subst hp
 refine⟨b,cap,cs,T,_,f1,q1,?_,f4,f5,fun i x hx=>?_⟩
 ·rcases f3 with h0 | h0
  ·rw[if_pos (by simpa using h0)];exact .inr (Nat.le_refl _)
  ·split
   ·exact .inr (Nat.le_refl _)
   ·exact .inr (by simp only;omega)
 obtain ⟨g0,u,g1,g2,g3,g4⟩:=f6 i x hx
 exact⟨g0,u,RdD.keep st.keeps _ _ g1,g2,g3,g4⟩
end Go.Sy
namespace Go.Sy
open Go.ChangeShapes Go.WideShapes Go.ChangeAt Go.RowKit
def κ0:Ka:=⟨fun _=>.new,fun _=>False⟩
theorem inv0 (w:World):Inv κ0 w :=
 ⟨fun i j b h=>(by cases h),fun k b h=>(by cases h),fun k b h=>(by cases h),fun b h=>False.elim h⟩
theorem Or {w w':World} {κ':Ka} (c:Ctx ⟨w,κ0,[]⟩ κ' w'):Below w.heap.size w w' :=
 ⟨c.os,c.tape,c.output,c.size,fun k hk=>c.old k hk (fun j h=>by cases h)⟩
section
variable {H:Type} {enc:TypeId × Value→H} {P:Program}
theorem Lm {W W':World} (hl:laidOutB P=true) (hb:Below W.heap.size W W'):∀ {ts:List TypeId} {vs:List Value} {ds:List (DataW H)} {ps:List MemPlace},(∀ t∈ts,P.readableRec t=true∧t<P.types.size) →
  (∀ x∈ps,x.block<W.heap.size)→DataW.TrodAll enc P W 0 (fun _=>true) true ts vs ds ps→DataW.TrodAll enc P W' 0 (fun b=>decide (b<W.heap.size)) true ts vs ds ps
 | [],_,_,_,_,_,h=>by
  obtain ⟨rfl,rfl,rfl⟩:=trodAll_nil h
  rfl
 | t::ts,_,_,_,ht,hp,h=>by
  obtain ⟨v,vs,d,ds,p,q,rfl,rfl,rfl,h1,h2⟩:=trodAll_cons h
  have:=ht t qf
  exact⟨p,q,Below.trod hl this.1 this.2 h1 hb (fun x hx=>hp x (by simp[hx])),Lm hl hb (fun t h=>ht t (by simp[h])) (fun x hx=>hp x (by simp[hx])) h2,q_⟩
theorem Aev {f:FuncId} {fn:Func} {s:ChangeSpec} {W:World} {args:Array Value} {ds gs:List (DataW H)} {before:List MemPlace} {tb:TypeId} {A:List SV} (hv:s.vars=[]) (hl:laidOutB P=true)
  (hW:DataW.Whole enc P fn.params.toList s.vars false W args.toList ds gs before) (hts:∀ t∈fn.params.toList,P.readableRec t=true∧t<P.types.size) (hrt:fn.resultTypes=#[tb]) (hbt:P.underlying tb=some .bool)
  (hfn:∀ gs:List (DataW H),gs=[]→s.fn H (ds++gs)={ results:=[.lit (.bool true)],args:=ds }) (hA:RdL κ0 W A args.toList) (hs:Sy.Spec P f A [] (Af true) []) :
  Calls P f args W fun e W'=>∃ v,e=.returned v∧s.post enc P fn false true false false W args v W':=by
 have hc:=hs κ0 W args.toList (inv0 W) (fun k hk=>absurd rfl hk) hA (fun p hp=>by cases hp)
 simp only[Array.toArray_toList]at hc
 refine hc.mono ?_
 rintro e W' ⟨v,κ',rfl,ctx,inv,hR,_⟩
 have hvv:v=.bool true:=by simpa [Af,Rd] using hR
 subst hvv
 have hb:=Or ctx
 have hW':=hW
 obtain ⟨p,q,h1,h2,h3,h4,h5⟩:=hW
 have hgs:gs=[]∧q=[]:=by
  rw[hv]at h2
  exact trodVars_none h2
 obtain ⟨rfl,rfl⟩:=hgs
 rw[List.append_nil]at h3
 subst h3
 have hlt:∀ x∈before,x.block<W.heap.size:=fun x hx=>by simpa using hW'.lt x hx
 refine⟨_,rfl,ds,[],before,[],before,[],hW',?_,?_,?_,?_,fun h=>by cases h⟩
 ·rw[hfn [] rfl,hrt]
  exact trodAll_mk1 (shut_bool hbt true)
 ·rw[hfn [] rfl]
  exact Lm hl hb hts hlt h1
 ·rw[hv,hfn [] rfl]
  rfl
 ·exact hb.frame _
end
end Go.Sy
namespace Go.Sy
open Go.ChangeShapes Go.WideShapes Go.ChangeAt Go.RowKit
section
variable {H:Type} (enc:TypeId × Value→H) (P:Program) (W:World)
def Op1 (t:TypeId) {α:Type} (e:α→SV) (p:α→Prop):Prop :=
 ∀ n c y,DataW.trod enc P W 0 (fun _=>true) true n t [c]=some y→∃ x,p x∧Rd κ0 W (e x) c∧c.oneCell'=true
def OpN (t:TypeId) {α:Type} (e:α→SV) (p:α→Prop) (sz:Nat):Prop :=
 ∀ n cs y,DataW.trod enc P W 0 (fun _=>true) true n t cs=some y→∃ x,p x∧cs.length=sz∧Ones cs∧RdL κ0 W (cellsOf (e x)) cs
variable {enc P W}
theorem Ain {t:TypeId} {k:IntKind} (ht:P.underlying t=some (.int k)):OpN enc P W t (fun z=>.val (.int k z)) (fun z=>(Lit.int k z).wf=true) 1:=fun n cs y h=>by
 obtain ⟨z,rfl,_,hw⟩:=DataW.trod_int ht h
 refine⟨z,hw,q_,fun c hc=>by simp at hc;subst hc;rfl,?_⟩
 simp[cellsOf,RdL,Rd]
theorem Wb {base:Nat} {a:Addr} {n:Nat} {cs:List Value} (h:W.cells? base a n=some cs):cs.length=n∧∀ j (_:j<n),W.cell? (a.add j)=cs[j]?:=by
 unfold World.cells? at h
 split at h
 ·refine⟨by simpa using mapM_some_length h,fun j hj=>?_⟩
  exact mapM_some_get h j j (by simp[hj])
 ·cases h
theorem Agr {t et:TypeId} {α:Type} {e:α→SV} {p:α→Prop} {sz:Nat} (ht:P.underlying t=some (.slice et)) (hsz:P.cellsOf et=sz) (h0:0<sz) (hb:∀ x,(e x).boxed=true) (hd:∀ x,(e x).data=true) (hO:OpN enc P W et e p sz) :
  Op1 enc P W t (fun l:List α=>.sl sz e l) (fun l=>(∀ x∈l,p x)∧l.length≤maxLen):=fun n c y h=>by
 rcases DataW.trod_slice ht h with ⟨hcs,_⟩ | ⟨a,len,cap,elems,rest,m,rfl,hcs,_,_,hlc,hcm,hel,hget,_⟩
 ·have hc:c=.slice none 0 0:=by simpa using hcs
  subst hc
  refine⟨[],⟨by simp,Nat.zero_le _⟩,?_,q_⟩
  simp only[Rd,RdD]
  exact .inl ⟨z_,none,0,q_⟩
 ·have hc:c=.slice (some a) len cap:=by simpa using hcs
  subst hc
  rw[hsz]at hget
  have hall:∀ i:Fin len,∃ x,p x∧∃ cs,W.cells? 0 (a.add (i * sz)) sz=some cs∧cs.length=sz∧Ones cs∧RdL κ0 W (cellsOf (e x)) cs:=fun i=>by
   have h1:=hget i.1 i.2
   rw[List.getElem?_eq_getElem j_]at h1
   obtain ⟨cs,h2,h3⟩:=Option.bind_eq_some_iff.1 h1
   obtain ⟨x,h4,h5,h6,h7⟩:=hO _ _ _ h3
   exact⟨x,h4,cs,h2,h5,h6,h7⟩
  let xs:Fin len→α:=fun i=>Classical.choose (hall i)
  have hxs:∀ i,p (xs i)∧∃ cs,W.cells? 0 (a.add (i.1 * sz)) sz=some cs∧cs.length=sz∧Ones cs∧RdL κ0 W (cellsOf (e (xs i))) cs:=fun i=>Classical.choose_spec (hall i)
  refine⟨List.ofFn xs,⟨fun x hx=>?_,by simp;omega⟩,?_,q_⟩
  ·obtain ⟨i,rfl⟩:=List.mem_ofFn.1 hx
   exact(hxs i).1
  ·simp only[Rd,RdD]
   by_cases hl:len=0
   ·subst hl
    exact .inl ⟨by simp,_,_,q_⟩
   ·have hcell:∀ i:Fin len,∀ j,j<sz→∃ v,W.cell? ((a.add (i.1 * sz)).add j)=some v:=fun i j hj=>by
     obtain ⟨_,cs,h1,h2,_⟩:=hxs i
     have:=(Wb h1).2 j hj
     rw[List.getElem?_eq_getElem j_]at this
     exact⟨_,this⟩
    obtain ⟨b,off,spot⟩:=a
    have hspot:spot=none:=by
     obtain ⟨v,hv⟩:=hcell ⟨0,by omega⟩ 0 h0
     simpa [Addr.add] using World.cell?_spot hv
    subst hspot
    have hadd:∀ i j,((⟨b,off,none⟩:Addr).add i).add j=⟨b,off+i+j,none⟩:=fun i j=>by rw[Addr.add_lit,Addr.add_lit]
    refine .inr ⟨b,off,cap,by simp,by simpa using hlc,?_,?_,fun i hi=>?_⟩
    ·rintro (⟨k,hk⟩ | hk)
     ·cases hk
     ·exact hk
    ·obtain ⟨v,hv⟩:=hcell ⟨0,by omega⟩ 0 h0
     rw[hadd]at hv
     rcases Nat.lt_or_ge b W.heap.size with h | h
     ·exact h
     ·simp[World.cell?,Array.getElem?_eq_none h]at hv
    ·simp only[List.length_ofFn]at hi
     obtain ⟨_,cs,h1,h2,h3,h4⟩:=hxs ⟨i,hi⟩
     obtain ⟨u,g1,g2⟩:=Rd.of_cells (hb _) h3 h4
     refine⟨u,?_,?_,by rw[g2];exact h3,fun j hj=>?_⟩
     ·rw[List.getElem_ofFn]
      exact Rd.data _ _ (hd _) g1
     ·have:u.cells.toList.length=sz:=by rw[g2,h2]
      simpa using this
     ·have:=(Wb h1).2 j hj
      rw[hadd]at this
      rw[this,← g2]
      simp
end
end Go.Sy
namespace Go.Sy.YtgblchnfjbkipaaGreatDoor
open Go.Proofs Go.ChangeShapes Go.WideShapes Go.ChangeAt Go.RowKit
set_option maxRecDepth 100000
section
variable {H:Type} {enc:TypeId × Value→H} {W:World}
theorem Af8 {t et:TypeId} {α:Type} {e:α→SV} {p:List α→Prop} {sz base:Nat} {v:Value} {d:DataW H} {ps:List MemPlace} (ht:Tryz.prog.underlying t=some (.slice et)) (hO:Op1 enc Tryz.prog W t (fun l:List α=>.sl sz e l) p)
  (hval:Value.okWide Tryz.prog W .any base t v) (h1:DataW.Trod enc Tryz.prog W 0 (fun _=>true) true t v d ps):∃ l,p l∧Rd κ0 W (.sl sz e l) v:=by
 obtain ⟨a,len,cap,rfl⟩:=okWide_slice ht hval
 obtain ⟨fuel,hf⟩:=h1
 obtain ⟨x,h1,h2,_⟩:=hO _ _ _ hf
 exact⟨x,h1,h2⟩
end
end Go.Sy.YtgblchnfjbkipaaGreatDoor
namespace Go.Sy.YtgblchnfjbkipaaGreatDoor
section
variable {α:Type}
structure Ordy (lt:α→α→Bool):Prop where
 ne:∀ x,lt x x=false
 asy:∀ x y,lt x y=true→lt y x=false
 tr:∀ x y z,lt x y=true→lt z y=false→lt x z=true
 tl:∀ x y z,lt y x=false→lt y z=true→lt x z=true
def Srt (lt:α→α→Bool) (l:List α):Prop:=l.Pairwise fun x y=>lt y x=false
def A6 (lt:α→α→Bool):List α→List α→List α
 | [],r=>r
 | x::l,[]=>x::l
 | x::l,y::r=>if lt y x=true then y::A6 lt (x::l) r else x::A6 lt l (y::r)
termination_by l r=>l.length+r.length
theorem C5 (lt:α→α→Bool) (l:List α):A6 lt l []=l:=by
 cases l<;>simp[A6]
theorem Cb (lt:α→α→Bool) (r:List α):A6 lt [] r=r:=by
 rw[A6]
theorem Db (lt:α→α→Bool):∀ (L1 R1 L2 R2:List α),(∀ x∈L2,∀ y∈R1,lt y x=true)→(∀ x∈L1,∀ y∈R2,lt y x=false)→A6 lt (L1++L2) (R1++R2)=A6 lt L1 R1++A6 lt L2 R2
 | [],[],L2,R2,_,_=>by simp[Cb]
 | [],y::r,L2,R2,h1,h2=>by
  have ih:=Db lt [] r L2 R2 (fun x hx z hz=>h1 x hx z (by simp[hz])) (fun x hx=>by cases hx)
  rw[Cb]at ih ⊢
  rw[List.nil_append]at ih ⊢
  cases L2 with
  | nil=>rw[Cb,Cb]
  | cons x l =>
   rw[List.cons_append,A6,if_pos (h1 x qf y qf),ih]
   rfl
 | x::l,[],L2,R2,h1,h2=>by
  have ih:=Db lt l [] L2 R2 (fun x hx z hz=>by cases hz) (fun z hz w hw=>h2 z (by simp[hz]) w hw)
  rw[C5]at ih ⊢
  rw[List.nil_append]at ih ⊢
  cases R2 with
  | nil=>rw[C5,C5]
  | cons y r =>
   rw[List.cons_append,A6,if_neg (by rw[h2 x qf y qf];simp),ih]
   rfl
 | x::l,y::r,L2,R2,h1,h2=>by
  rw[List.cons_append,List.cons_append,A6,A6]
  by_cases hc:lt y x=true
  ·rw[if_pos hc,if_pos hc,← List.cons_append,Db lt (x::l) r L2 R2 (fun z hz w hw=>h1 z hz w (by simp[hw])) h2]
   rfl
  ·rw[if_neg hc,if_neg hc,← List.cons_append,Db lt l (y::r) L2 R2 h1 (fun z hz w hw=>h2 z (by simp[hz]) w hw)]
   rfl
termination_by L1 R1=>L1.length+R1.length
theorem Jo (lt:α→α→Bool):∀ (l r:List α) (x:α),x∈A6 lt l r→x∈l∨x∈r
 | [],r,x,h=>.inr (by rwa [Cb]at h)
 | a::l,[],x,h=>.inl (by rwa [C5]at h)
 | a::l,b::r,x,h=>by
  rw[A6]at h
  split at h
  ·rcases List.mem_cons.1 h with rfl | h
   ·exact .inr qf
   ·rcases Jo lt (a::l) r x h with h | h
    ·exact .inl h
    ·exact .inr (by simp[h])
  ·rcases List.mem_cons.1 h with rfl | h
   ·exact .inl qf
   ·rcases Jo lt l (b::r) x h with h | h
    ·exact .inl (by simp[h])
    ·exact .inr h
termination_by l r=>l.length+r.length
theorem Id (lt:α→α→Bool):∀ (l r:List α),(A6 lt l r).length=l.length+r.length
 | [],r=>by rw[Cb];simp
 | a::l,[]=>by rw[C5];simp
 | a::l,b::r=>by
  rw[A6]
  split
  ·rw[List.length_cons,Id lt (a::l) r];simp;omega
  ·rw[List.length_cons,Id lt l (b::r)];simp;omega
termination_by l r=>l.length+r.length
def J2 (p:α→Bool):List α→Nat
 | []=>0
 | a::l=>if J2 p l=l.length∧p a=true then l.length+1 else J2 p l
theorem X9 (p:α→Bool):∀ l,J2 p l≤l.length
 | []=>Nat.le_refl _
 | a::l=>by
  rw[J2]
  have:=X9 p l
  simp only[List.length_cons]
  split<;>omega
theorem H3 (p:α→Bool):∀ (a b:List α),(∀ x∈b,p x=true)→(∀ x∈a,p x=false)→J2 p (a++b)=b.length
 | [],[],_,_=>rfl
 | [],x::b,h,_=>by
  have ih:=H3 p [] b (fun y hy=>h y (by simp[hy])) (fun y hy=>by cases hy)
  rw[List.nil_append]at ih ⊢
  rw[J2,if_pos ⟨ih,h x qf⟩]
  rfl
 | x::a,b,hb,ha=>by
  have ih:=H3 p a b hb (fun y hy=>ha y (by simp[hy]))
  rw[List.cons_append,J2,if_neg (fun hc=>by rw[ha x qf]at hc;cases hc.2)]
  exact ih
def Kr (lt:α→α→Bool) (x:α) (l:List α):List α:=l.take (l.length-J2 (lt x) l)++x::l.drop (l.length-J2 (lt x) l)
theorem Ahf (lt:α→α→Bool) (x:α) (l:List α):(Kr lt x l).length=l.length+1:=by
 unfold Kr
 have:=X9 (lt x) l
 simp only[List.length_append,List.length_cons,List.length_take,List.length_drop]
 omega
theorem Xm (lt:α→α→Bool) (x:α) (a b:List α) (h1:∀ y∈b,lt x y=true) (h2:∀ y∈a,lt x y=false):Kr lt x (a++b)=a++x::b:=by
 unfold Kr
 rw[H3 _ a b h1 h2,show (a++b).length-b.length=a.length by simp,List.take_left',List.drop_left']
 ·rfl
 ·rfl
theorem K3 {lt:α→α→Bool} (h:Ordy lt) (x:α):∀ (l:List α),Srt lt l→∃ a b,l=a++b∧(∀ y∈b,lt x y=true)∧(∀ y∈a,lt x y=false)
 | [],_=>⟨[],[],rfl,fun y hy=>(by cases hy),fun y hy=>(by cases hy)⟩
 | z::l,hs=>by
  have hs':=List.pairwise_cons.1 hs
  cases hz:lt x z
  ·obtain ⟨a,b,h1,h2,h3⟩:=K3 h x l hs'.2
   refine⟨z::a,b,by rw[h1];rfl,h2,fun y hy=>?_⟩
   rcases List.mem_cons.1 hy with rfl | hy
   ·exact hz
   ·exact h3 y hy
  ·refine⟨[],z::l,rfl,fun y hy=>?_,fun y hy=>by cases hy⟩
   rcases List.mem_cons.1 hy with rfl | hy
   ·exact hz
   ·exact h.tr _ _ _ hz (hs'.1 y hy)
theorem Ahd {lt:α→α→Bool} (h:Ordy lt) (x:α) {l:List α} (hs:Srt lt l):Srt lt (Kr lt x l):=by
 obtain ⟨a,b,rfl,h2,h3⟩:=K3 h x l hs
 rw[Xm lt x a b h2 h3]
 have hp:=List.pairwise_append.1 hs
 refine List.pairwise_append.2 ⟨hp.1,List.pairwise_cons.2 ⟨fun y hy=>h.asy _ _ (h2 y hy),hp.2.1⟩,fun y hy z hz=>?_⟩
 rcases List.mem_cons.1 hz with rfl | hz
 ·exact h3 y hy
 ·exact hp.2.2 y hy z hz
theorem Aeo {lt:α→α→Bool} (h:Ordy lt) (x:α) {l r:List α} (hl:Srt lt l) (hr:Srt lt r):A6 lt l (Kr lt x r)=Kr lt x (A6 lt l r):=by
 obtain ⟨L1,L2,rfl,l2,l3⟩:=K3 h x l hl
 obtain ⟨R1,R2,rfl,r2,r3⟩:=K3 h x r hr
 rw[Xm lt x R1 R2 r2 r3]
 have k1:∀ u∈L2,∀ v∈R1,lt v u=true:=fun u hu v hv=>h.tl _ _ _ (r3 v hv) (l2 u hu)
 have k2:∀ u∈L1,∀ v∈R2,lt v u=false:=fun u hu v hv=>h.asy _ _ (h.tl _ _ _ (l3 u hu) (r2 v hv))
 rw[Db lt L1 R1 L2 R2 k1 k2]
 rw[show R1++x::R2=(R1++[x])++R2 by simp]
 rw[Db lt L1 (R1++[x]) L2 R2 (fun u hu v hv=>by
  rcases List.mem_append.1 hv with hv | hv
  ·exact k1 u hu v hv
  ·rw[List.mem_singleton.1 hv];exact l2 u hu) k2]
 have e1:=Db lt L1 R1 [] [x] (fun u hu=>by cases hu) (fun u hu v hv=>by rw[List.mem_singleton.1 hv];exact l3 u hu)
 rw[List.append_nil,Cb]at e1
 rw[e1,Xm lt x (A6 lt L1 R1) (A6 lt L2 R2)]
 ·simp
 ·intro y hy
  rcases Jo lt _ _ y hy with hy | hy
  ·exact l2 y hy
  ·exact r2 y hy
 ·intro y hy
  rcases Jo lt _ _ y hy with hy | hy
  ·exact l3 y hy
  ·exact r3 y hy
def C2 (lt:α→α→Bool):List α→List α→List α
 | out,[]=>out
 | out,x::l=>C2 lt (Kr lt x out) l
def Bb (lt:α→α→Bool) (l:List α):List α:=C2 lt [] l
theorem J3 (lt:α→α→Bool):∀ (a b out:List α),C2 lt out (a++b)=C2 lt (C2 lt out a) b
 | [],b,out=>rfl
 | x::a,b,out=>by rw[List.cons_append,C2,C2,J3 lt a b]
theorem Ji (lt:α→α→Bool) (l:List α) (x:α):Bb lt (l++[x])=Kr lt x (Bb lt l):=by
 unfold Bb
 rw[J3]
 rfl
theorem My (lt:α→α→Bool):∀ (l out:List α),(C2 lt out l).length=out.length+l.length
 | [],out=>by simp[C2]
 | x::l,out=>by rw[C2,My lt l,Ahf];simp;omega
theorem Dl (lt:α→α→Bool) (l:List α):(Bb lt l).length=l.length:=by
 unfold Bb
 rw[My];simp
theorem Ahe (lt:α→α→Bool) (x:α) (l:List α) (y:α) (h:y∈Kr lt x l):y=x∨y∈l:=by
 unfold Kr at h
 rcases List.mem_append.1 h with h | h
 ·exact .inr (List.mem_of_mem_take h)
 ·rcases List.mem_cons.1 h with h | h
  ·exact .inl h
  ·exact .inr (List.mem_of_mem_drop h)
theorem Mx (lt:α→α→Bool):∀ (l out:List α) (y:α),y∈C2 lt out l→y∈out∨y∈l
 | [],out,y,h=>.inl h
 | x::l,out,y,h=>by
  rw[C2]at h
  rcases Mx lt l _ y h with h | h
  ·rcases Ahe lt x out y h with h | h
   ·exact .inr (by simp[h])
   ·exact .inl h
  ·exact .inr (by simp[h])
theorem Es (lt:α→α→Bool) (l:List α) (y:α) (h:y∈Bb lt l):y∈l:=by
 rcases Mx lt l [] y h with h | h
 ·cases h
 ·exact h
theorem Mw {lt:α→α→Bool} (h:Ordy lt):∀ (l out:List α),Srt lt out→Srt lt (C2 lt out l)
 | [],out,ho=>ho
 | x::l,out,ho=>Mw h l _ (Ahd h x ho)
theorem H5 {lt:α→α→Bool} (h:Ordy lt) (l:List α):Srt lt (Bb lt l):=Mw h l [] List.Pairwise.nil
theorem Mc {lt:α→α→Bool} (h:Ordy lt) (a:List α):∀ (k:Nat) (b:List α),b.length=k→A6 lt (Bb lt a) (Bb lt b)=Bb lt (a++b)
 | 0,b,hb=>by
  have:=List.eq_nil_of_length_eq_zero hb
  subst this
  rw[List.append_nil]
  exact C5 lt _
 | k+1,b,hb=>by
  obtain ⟨c,x,rfl⟩:∃ c x,b=c++[x]:=⟨b.dropLast,b.getLast (by intro e;rw[e]at hb;cases hb),(List.dropLast_concat_getLast _).symm⟩
  rw[← List.append_assoc,Ji,Ji,Aeo h x (H5 h a) (H5 h c),Mc h a k c (by simpa using hb)]
end
end Go.Sy.YtgblchnfjbkipaaGreatDoor
namespace Go.Sy.YtgblchnfjbkipaaGreatDoor
section
variable {α:Type}
def bs (lt:α→α→Bool) (s:Nat) (l:List α):List α :=
 if h:s=0∨l.length≤s then Bb lt l else Bb lt (l.take s)++bs lt s (l.drop s)
termination_by l.length
decreasing_by
 simp only[List.length_drop];omega
theorem Kx (lt:α→α→Bool) {s:Nat} {l:List α} (h:l.length≤s):bs lt s l=Bb lt l:=by
 rw[bs,dif_pos (.inr h)]
theorem Oq (lt:α→α→Bool) {s:Nat} {l:List α} (h0:0<s) (h:s≤l.length):bs lt s l=Bb lt (l.take s)++bs lt s (l.drop s):=by
 by_cases he:l.length=s
 ·rw[Kx lt j_,List.take_of_length_le j_,List.drop_of_length_le j_,Kx lt (Nat.zero_le _)]
  show _=_++Bb lt []
  rw[show Bb lt ([]:List α)=[] from rfl,List.append_nil]
 ·rw[bs,dif_neg j_]
theorem bs_len (lt:α→α→Bool) (s:Nat):∀ (k:Nat) (l:List α),l.length=k→(bs lt s l).length=l.length:=by
 intro k
 induction k using Nat.strongRecOn with
 | ind k ih =>
  intro l hl
  by_cases h:s=0∨l.length≤s
  ·rw[bs,dif_pos h,Dl]
  ·rw[bs,dif_neg h,List.length_append,Dl,ih (l.drop s).length (by rw[List.length_drop];omega) _ rfl,List.length_take,List.length_drop]
   omega
theorem bs_two {lt:α→α→Bool} (h:Ordy lt) {s:Nat} {l:List α} (h0:0<s) (hl:2 * s≤l.length) :
  bs lt s l=Bb lt (l.take s)++(Bb lt ((l.drop s).take s)++bs lt s (l.drop (2 * s)))∧bs lt (2 * s) l=A6 lt (Bb lt (l.take s)) (Bb lt ((l.drop s).take s))++bs lt (2 * s) (l.drop (2 * s)):=by
 have e1:(l.drop s).drop s=l.drop (2 * s):=by rw[List.drop_drop];congr 1;omega
 have e2:l.take s++(l.drop s).take s=l.take (2 * s):=by
  rw[show 2 * s=s+s by omega,List.take_add]
 constructor
 ·rw[Oq lt h0 j_,Oq lt (l:=l.drop s) h0 (by rw[List.length_drop];omega),e1]
 ·rw[Oq lt j_ hl,Mc h _ _ _ rfl,e2]
theorem Ai5 {lt:α→α→Bool} (h:Ordy lt) {s:Nat} {l:List α} (h0:0<s) (h1:s<l.length) (h2:l.length≤2 * s) :
  bs lt s l=Bb lt (l.take s)++Bb lt (l.drop s)∧bs lt (2 * s) l=A6 lt (Bb lt (l.take s)) (Bb lt (l.drop s)):=by
 constructor
 ·rw[Oq lt h0 j_,Kx lt (l:=l.drop s) (by rw[List.length_drop];omega)]
 ·rw[Kx lt h2,Mc h _ _ _ rfl,List.take_append_drop]
def Mu (l:List α) (a b:Nat):List α:=match l[a]?,l[b]? with
 | some x,some y=>(l.set a y).set b x
 | _,_=>l
def Tb:Nat→List α→Nat→Nat→List α
 | 0,l,_,_=>l
 | k+1,l,a,b=>Tb k (Mu l a b) (a+1) (b+1)
theorem Adm (l:List α) (a b:Nat):(Mu l a b).length=l.length:=by
 unfold Mu
 split<;>simp
theorem Afs {l:List α} {a b:Nat} (ha:a<l.length) (hb:b<l.length):Mu l a b=(l.set a l[b]).set b l[a]:=by
 unfold Mu
 rw[List.getElem?_eq_getElem ha,List.getElem?_eq_getElem hb]
theorem Aft (P M S:List α) (u v:α):Mu (P++u::(M++v::S)) P.length (P.length+1+M.length)=P++v::(M++u::S):=by
 have h1:(P++u::(M++v::S))[P.length]? = some u:=by simp
 have h2:(P++u::(M++v::S))[P.length+1+M.length]? = some v:=by
  rw[List.getElem?_append_right j_,show P.length+1+M.length-P.length=M.length+1 by omega,List.getElem?_cons_succ,List.getElem?_append_right (Nat.le_refl _)]
  simp
 unfold Mu
 rw[h1,h2]
 dsimp only
 rw[List.set_append_right _ _ (Nat.le_refl _),Nat.sub_self,List.set_cons_zero,List.set_append_right _ _ j_,show P.length+1+M.length-P.length=M.length+1 by omega,List.set_cons_succ,
  List.set_append_right _ _ (Nat.le_refl _),Nat.sub_self,List.set_cons_zero]
theorem Mt:∀ (U V P M S:List α),U.length=V.length→Tb U.length (P++(U++(M++(V++S)))) P.length (P.length+U.length+M.length)=P++(V++(M++(U++S)))
 | [],[],P,M,S,_=>rfl
 | [],v::V,P,M,S,h=>by cases h
 | u::U,[],P,M,S,h=>by cases h
 | u::U,v::V,P,M,S,h=>by
  have hl:U.length=V.length:=by simpa using h
  have e:=Aft P (U++M) (V++S) u v
  have ih:=Mt U V (P++[v]) (M++[u]) S hl
  rw[List.length_cons,Tb]
  rw[show P++(u::U++(M++(v::V++S)))=P++u::((U++M)++v::(V++S)) by simp]
  rw[show P.length+(U.length+1)+M.length=P.length+1+(U++M).length by rw[List.length_append];omega,e]
  have e2:P++v::(U++M++u::(V++S))=(P++[v])++(U++((M++[u])++(V++S))):=by simp
  have e3:(P++[v]).length=P.length+1:=by simp
  have e4:(P++[v]).length+U.length+(M++[u]).length=P.length+1+(U++M).length+1:=by simp;omega
  rw[e3]at ih e4
  rw[e4]at ih
  rw[e2,ih]
  simp
def swapP:Nat→List α→Nat→Nat→List α
 | 0,l,_,_=>l
 | k+1,l,a,b=>Mu (swapP k l a b) (a+k) (b+k)
theorem U9:∀ (k:Nat) (l:List α) (a b:Nat),(swapP k l a b).length=l.length
 | 0,_,_,_=>rfl
 | k+1,l,a,b=>by rw[swapP,Adm,U9 k]
theorem Ta (l:List α) (a b:Nat):∀ (k j:Nat),Tb k (swapP j l a b) (a+j) (b+j)=swapP (j+k) l a b
 | 0,j=>rfl
 | k+1,j=>by
  rw[Tb,show Mu (swapP j l a b) (a+j) (b+j)=swapP (j+1) l a b from rfl,show a+j+1=a+(j+1) by omega,show b+j+1=b+(j+1) by omega,Ta l a b k (j+1)]
  congr 1;omega
theorem Afr (k:Nat) (l:List α) (a b:Nat):Tb k l a b=swapP k l a b:=by
 have:=Ta l a b k 0
 rw[Nat.zero_add]at this
 exact this
end
end Go.Sy.YtgblchnfjbkipaaGreatDoor
namespace Go.Sy.YtgblchnfjbkipaaGreatDoor
section
variable {α:Type}
theorem Wn {lt:α→α→Bool} {l:List α} (hs:Srt lt l) {i j:Nat} (hij:i<j) (hj:j<l.length):lt (l[j]) (l[i]'j_)=false:=List.pairwise_iff_getElem.1 hs i j j_ hj hij
theorem Q4 {l:List α} {i:Nat} {x:α} (h:x∈l.take i):∃ k,∃ hk:k<l.length,k<i∧l[k]=x:=by
 obtain ⟨k,hk,rfl⟩:=List.getElem_of_mem h
 rw[List.length_take]at hk
 exact⟨k,by omega,by omega,by rw[List.getElem_take]⟩
theorem Q5 {l:List α} {i:Nat} {x:α} (h:x∈l.drop i):∃ k,∃ hk:k<l.length,i≤k∧l[k]=x:=by
 obtain ⟨k,hk,rfl⟩:=List.getElem_of_mem h
 rw[List.length_drop]at hk
 exact⟨i+k,by omega,by omega,by rw[List.getElem_drop]⟩
theorem Qe {lt:α→α→Bool} (h:Ordy lt) {L R:List α} (hL:Srt lt L) (hR:Srt lt R) (i j:Nat)
  (h1:i=0∨R.length≤j∨∃ (hi:i-1<L.length) (hj:j<R.length),0<i∧lt R[j] L[i-1]=false)
  (h2:L.length≤i∨j=0∨∃ (hi:i<L.length) (hj:j-1<R.length),0<j∧lt R[j-1] L[i]=true) :
  A6 lt L R=A6 lt (L.take i) (R.take j)++A6 lt (L.drop i) (R.drop j):=by
 have e:=Db lt (L.take i) (R.take j) (L.drop i) (R.drop j) ?_ ?_
 ·rw[List.take_append_drop,List.take_append_drop]at e
  exact e
 ·intro x hx y hy
  obtain ⟨k,hk,hik,rfl⟩:=Q5 hx
  obtain ⟨q,hq,hqj,rfl⟩:=Q4 hy
  rcases h2 with h2 | h2 | ⟨hi,hj,h0,hlt⟩
  ·omega
  ·omega
  ·
   have a1:lt R[q] L[i]=true:=by
    by_cases hqe:q=j-1
    ·subst hqe;exact hlt
    ·exact h.tl _ _ _ (Wn hR (by omega:q<j-1) hj) hlt
   by_cases hke:k=i
   ·subst hke;exact a1
   ·exact h.tr _ _ _ a1 (Wn hL (by omega:i<k) hk)
 ·intro x hx y hy
  obtain ⟨k,hk,hik,rfl⟩:=Q4 hx
  obtain ⟨q,hq,hqj,rfl⟩:=Q5 hy
  rcases h1 with h1 | h1 | ⟨hi,hj,h0,hlt⟩
  ·omega
  ·omega
  ·
   cases hc:lt R[q] L[k]
   ·rfl
   ·have a1:lt R[q] L[i-1]=true:=by
     by_cases hke:k=i-1
     ·subst hke;exact hc
     ·exact h.tr _ _ _ hc (Wn hL (by omega:k<i-1) hi)
    have a2:lt R[j] L[i-1]=true:=by
     by_cases hqe:q=j
     ·subst hqe;exact a1
     ·exact h.tl _ _ _ (Wn hR (by omega:j<q) hq) a1
    rw[hlt]at a2;cases a2
theorem Zg {lt:α→α→Bool} (h:Ordy lt) (x:α) {R:List α} (hR:Srt lt R) (j:Nat) (hj:j≤R.length)
  (h1:j=0∨∃ hj:j-1<R.length,lt R[j-1] x=true) (h2:j=R.length∨∃ hj:j<R.length,lt R[j] x=false) :
  A6 lt [x] R=R.take j++x::R.drop j:=by
 have e:=Qe h (L:=[x]) (R:=R) (List.pairwise_singleton _ _) hR 0 j (.inl rfl) (by
  rcases h1 with h1 | ⟨hj1,hlt⟩
  ·exact .inr (.inl h1)
  ·by_cases h0:j=0
   ·exact .inr (.inl h0)
   ·exact .inr (.inr ⟨by simp,hj1,by omega,hlt⟩))
 rw[e,List.take_zero,Cb,List.drop_zero]
 congr 1
 rcases h2 with h2 | ⟨hj2,hlt⟩
 ·rw[List.drop_of_length_le j_,C5]
 ·rw[List.drop_eq_getElem_cons hj2,A6,if_neg (by rw[hlt];simp),Cb]
theorem Zf {lt:α→α→Bool} (h:Ordy lt) (y:α) {L:List α} (hL:Srt lt L) (i:Nat) (hi:i≤L.length)
  (h1:i=0∨∃ hi:i-1<L.length,lt y L[i-1]=false) (h2:i=L.length∨∃ hi:i<L.length,lt y L[i]=true) :
  A6 lt L [y]=L.take i++y::L.drop i:=by
 have e:=Qe h (L:=L) (R:=[y]) hL (List.pairwise_singleton _ _) i 0 (by
  rcases h1 with h1 | ⟨hi1,hlt⟩
  ·exact .inl h1
  ·by_cases h0:i=0
   ·exact .inl h0
   ·exact .inr (.inr ⟨hi1,by simp,by omega,hlt⟩)) (.inr (.inl q_))
 rw[e,List.take_zero,C5,List.drop_zero]
 congr 1
 rcases h2 with h2 | ⟨hi2,hlt⟩
 ·rw[List.drop_of_length_le j_,Cb]
 ·rw[List.drop_eq_getElem_cons hi2,A6,if_pos hlt,C5]
theorem U7 (p:α→Bool):∀ (a b:List α),(∀ x∈b,p x=true)→(a=[]∨∃ c z,a=c++[z]∧p z=false)→J2 p (a++b)=b.length
 | [],b,hb,_=>H3 p [] b hb (fun y hy=>by cases hy)
 | x::a,b,hb,ha=>by
  have key:a=[]∨∃ c z,a=c++[z]∧p z=false:=by
   rcases ha with ha | ⟨c,z,hc,hz⟩
   ·cases ha
   ·cases c with
    | nil=>simp at hc;exact .inl hc.2
    | cons y c=>simp at hc;exact .inr ⟨c,z,hc.2,hz⟩
  have ih:=U7 p a b hb key
  rw[List.cons_append,J2,ih]
  rw[if_neg]
  rintro ⟨h1,h2⟩
  rw[List.length_append]at h1
  have ha0:a=[]:=List.eq_nil_of_length_eq_zero j_
  subst ha0
  rcases ha with ha | ⟨c,z,hc,hz⟩
  ·cases ha
  ·cases c with
   | nil=>simp at hc;rw[hc,hz]at h2;cases h2
   | cons y c=>simp at hc
theorem Zp (lt:α→α→Bool) (x:α) (a b:List α) (h1:∀ y∈b,lt x y=true) (h2:a=[]∨∃ c z,a=c++[z]∧lt x z=false):Kr lt x (a++b)=a++x::b:=by
 unfold Kr
 rw[U7 _ a b h1 h2,show (a++b).length-b.length=a.length by simp,List.take_left',List.drop_left']
 ·rfl
 ·rfl
end
end Go.Sy.YtgblchnfjbkipaaGreatDoor
namespace Go.Sy.YtgblchnfjbkipaaGreatDoor
section
variable {α β:Type}
structure CmpOK (c:α→α→Int):Prop where
 anti:∀ x y,c x y<0↔0<c y x
 trans:∀ x y z,c x y≤0→c y z≤0→c x z≤0∧(c x z=0→c x y=0∧c y z=0)
theorem CmpOK.self {c:α→α→Int} (h:CmpOK c) (x:α):c x x=0:=by
 have:=h.anti x x;omega
theorem CmpOK.zero {c:α→α→Int} (h:CmpOK c) {x y:α} (hx:c x y=0):c y x=0:=by
 have h1:=h.anti x y;have h2:=h.anti y x;omega
theorem CmpOK.alike {c:α→α→Int} (h:CmpOK c) {x y z:α} (h1:c x y=0) (h2:c y z=0):c x z=0:=by
 have a:=(h.trans x y z j_ j_).1
 have b:=(h.trans z y x (by rw[h.zero h2];omega) (by rw[h.zero h1];omega)).1
 have d:=h.anti x z
 have e:=h.anti z x
 omega
theorem CmpOK.ordy {c:α→α→Int} (h:CmpOK c):Ordy (fun x y=>decide (c x y<0)) where
 ne x:=by rw[h.self x];rfl
 asy x y hx:=by
  have hx:=of_decide_eq_true hx
  have:=h.anti x y
  exact decide_eq_false j_
 tr x y z hx hy:=by
  have hx:=of_decide_eq_true hx
  have hy:=of_decide_eq_false hy
  have:=h.anti z y
  have t:=h.trans x y z j_ j_
  exact decide_eq_true (by
   have h0:c x z≠0:=fun e=>by have:=(t.2 e).1;omega
   omega)
 tl x y z hx hy:=by
  have hx:=of_decide_eq_false hx
  have hy:=of_decide_eq_true hy
  have:=h.anti y x
  have t:=h.trans x y z j_ j_
  exact decide_eq_true (by
   have h0:c x z≠0:=fun e=>by have:=(t.2 e).2;omega
   omega)
theorem CmpOK.comap {c:β→β→Int} (h:CmpOK c) (f:α→β):CmpOK (fun x y=>c (f x) (f y)):=⟨fun x y=>h.anti _ _,fun x y z=>h.trans _ _ _⟩
def C0 (a b:Int):Int:=if a≠0 then a else b
theorem CmpOK.then {c d:α→α→Int} (hc:CmpOK c) (hd:CmpOK d):CmpOK (fun x y=>C0 (c x y) (d x y)) where
 anti x y:=by
  have h1:=hc.anti x y
  have h2:=hc.anti y x
  have h3:=hd.anti x y
  unfold C0
  by_cases h:c x y=0
  ·rw[if_neg j_,if_neg j_];exact h3
  ·rw[if_pos h,if_pos j_];exact h1
 trans x y z:=by
  unfold C0
  intro h1 h2
  have t:=hc.trans x y z
  by_cases hxy:c x y=0
  ·rw[if_neg j_]at h1
   by_cases hyz:c y z=0
   ·rw[if_neg j_]at h2
    have hxz:=hc.alike hxy hyz
    rw[if_neg j_,if_neg j_,if_neg j_]
    exact hd.trans x y z h1 h2
   ·rw[if_pos hyz]at h2
    have t:=t j_ h2
    have h0:c x z≠0:=fun e=>hyz (t.2 e).2
    rw[if_pos h0]
    exact⟨t.1,fun e=>absurd e h0⟩
  ·rw[if_pos hxy]at h1
   have hyz:c y z≤0:=by
    by_cases hyz:c y z=0
    ·omega
    ·rw[if_pos hyz]at h2;exact h2
   have t:=t h1 hyz
   have h0:c x z≠0:=fun e=>hxy (t.2 e).1
   rw[if_pos h0]
   exact⟨t.1,fun e=>absurd e h0⟩
def Aw (c:α→α→Int):List α→List α→Int
 | [],[]=>0
 | [],_::_=>-1
 | _::_,[]=>1
 | x::a,y::b=>C0 (c x y) (Aw c a b)
theorem Ug {c:α→α→Int} (h:CmpOK c):∀ (a b:List α),Aw c a b<0↔0<Aw c b a
 | [],[]=>by simp[Aw]
 | [],_::_=>by simp[Aw]
 | _::_,[]=>by simp[Aw]
 | x::a,y::b=>by
  have ih:=Ug h a b
  have h1:=h.anti x y
  have h2:=h.anti y x
  rw[Aw,Aw]
  unfold C0
  by_cases h0:c x y=0
  ·rw[if_neg j_,if_neg j_];exact ih
  ·rw[if_pos h0,if_pos j_];exact h1
theorem Sh {c:α→α→Int} (h:CmpOK c):∀ (a b d:List α),Aw c a b≤0→Aw c b d≤0→Aw c a d≤0∧(Aw c a d=0→Aw c a b=0∧Aw c b d=0)
 | [],[],[],_,_=>by simp[Aw]
 | [],[],_::_,_,_=>by simp[Aw]
 | [],_::_,[],_,h2=>by simp[Aw]at h2
 | [],_::_,_::_,_,_=>by simp[Aw]
 | _::_,[],_,h1,_=>by simp[Aw]at h1
 | _::_,_::_,[],_,h2=>by simp[Aw]at h2
 | x::a,y::b,z::d,h1,h2=>by
  have ih:=Sh h a b d
  rw[Aw]at h1 h2 ⊢
  rw[Aw,Aw]
  unfold C0 at h1 h2 ⊢
  have t:=h.trans x y z
  by_cases hxy:c x y=0
  ·rw[if_neg j_]at h1
   by_cases hyz:c y z=0
   ·rw[if_neg j_]at h2
    have hxz:=h.alike hxy hyz
    rw[if_neg j_,if_neg j_,if_neg j_]
    exact ih h1 h2
   ·rw[if_pos hyz]at h2
    have t:=t j_ h2
    have h0:c x z≠0:=fun e=>hyz (t.2 e).2
    rw[if_pos h0]
    exact⟨t.1,fun e=>absurd e h0⟩
  ·rw[if_pos hxy]at h1
   have hyz:c y z≤0:=by
    by_cases hyz:c y z=0
    ·omega
    ·rw[if_pos hyz]at h2;exact h2
   have t:=t h1 hyz
   have h0:c x z≠0:=fun e=>hxy (t.2 e).1
   rw[if_pos h0]
   exact⟨t.1,fun e=>absurd e h0⟩
theorem CmpOK.list {c:α→α→Int} (h:CmpOK c):CmpOK (Aw c):=⟨Ug h,Sh h⟩
theorem Mj {c:α→α→Int} (h:∀ x y,c x y=0→x=y):∀ (a b:List α),Aw c a b=0→a=b
 | [],[],_=>rfl
 | [],_::_,e=>by simp[Aw]at e
 | _::_,[],e=>by simp[Aw]at e
 | x::a,y::b,e=>by
  rw[Aw]at e
  unfold C0 at e
  by_cases h0:c x y=0
  ·rw[if_neg j_]at e
   rw[h x y h0,Mj h a b e]
  ·rw[if_pos h0]at e;exact absurd e h0
def Ah0 (a b:Int):Int:=if a<b then -1 else if b<a then 1 else 0
theorem Ai3:CmpOK Ah0 where
 anti x y:=by unfold Ah0;split<;>split<;>(try split)<;>omega
 trans x y z:=by
  unfold Ah0
  intro h1 h2
  repeat' split
  all_goals (repeat' split at h1;repeat' split at h2)
  all_goals first | omega | (constructor<;>omega)
theorem Ae9 {a b:Int} (h:Ah0 a b=0):a=b:=by
 unfold Ah0 at h
 split at h
 ·cases h
 ·split at h
  ·cases h
  ·omega
end
end Go.Sy.YtgblchnfjbkipaaGreatDoor
namespace Go.Sy.YtgblchnfjbkipaaGreatDoor
open Go.Proofs
attribute [local irreducible] Go.Sy.G Go.Sy.DR
set_option maxRecDepth 20000
set_option maxHeartbeats 4000000
theorem indexS (l:List Int) (x:Int) (hl:Ec l):Sy.Spec Tryz.prog 160 [.sl 1 Aa l,Aa x] [] (Aa (Xn (· == x) l)) []:=cT F160 Tryz.ntmps160 fun F hF=>by
 unfold Ec at hl
 conv=>whnf
 refine B3 l.length (fun j=>∀ i (h:i<l.length),i<j→(l[i] == x)=false) (fun j=>[(0,.sl 1 Aa l),(1,Aa x),(7,Aa l.length),(8,Aa j)]) (fun _=>[]) [] (fun i h hj=>absurd hj j_) ⟨⟨q_,q_,q_,q_,q_,q_,q_,q_,z_⟩,z_,q_,q_⟩ ?_
 intro j hj hI
 refine oO ?_
 (repeat' (first | (refine⟨fun h=>?_,fun h=>?_⟩<;>(repeat (first | simp only[decide_eq_true_eq]at h | simp only[decide_eq_false_iff_not]at h | simp only[beq_iff_eq]at h | simp only[beq_eq_false_iff_ne]at h))<;>((refine oO ?_))) | (refine Bv rfl (.cons .tmp .nil) ?_ rfl) | (refine⟨y_,?_⟩;((conv=>whnf))) | (refine⟨by (omega),by (omega),?_⟩;((conv=>whnf))) | (refine⟨by (unfold I64;omega),?_⟩;((conv=>whnf))) | refine B5 [] hI j_ ?_ ⟨⟨rfl,rfl,rfl,rfl,rfl,rfl,rfl,rfl,trivial⟩,trivial,rfl,rfl⟩))
 all_goals try (refine congrArg Aa ?_)
 ·exact Ab6 j_ hI (by simpa using h.symm)
 ·intro i hi hij
  rcases Nat.lt_or_ge i j with h1 | h1
  ·exact hI i hi h1
  ·have:i=j:=by omega
   subst this
   simpa using Ne.symm h
 ·exact Ae0 (fun i hi=>hI i hi j_)
theorem Ae8 (l:List Int) (x:Int) (hl:Ec l):Sy.Spec Tryz.prog 161 [.sl 1 Aa l,Aa x] [] (Af (inB l x)) []:=cT F161 Tryz.ntmps161 fun F hF=>by
 conv=>whnf
 (repeat' (first | (refine Bv rfl (.cons .tmp .nil) ?_ rfl) | (refine c0 (indexS _ _ hl) F160 ?_;((refine oO ?_)))))
 exact congrArg Af (Ahg _ _).symm
def Aio (p:Port) (v:Int):Bool:=v != 0 && (v == p.native || inB p.tagged v)
def H2 (l:List Int) (least most:Int) (i:Nat) (x:Int):Bool:=decide (least≤x) && decide (x≤most) && (i == 0 || decide (nth l ((i:Int)-1)<x))
def Cp (l:List Int) (least most:Int):Bool:=decide (0<l.length) && decide (l.length≤16) && I5 (H2 l least most) l
theorem Abw (l:List Int) (least most:Int) (hl:Ec l):Sy.Spec Tryz.prog 166 [.sl 1 Aa l,Aa least,Aa most] [] (Af (Cp l least most)) []:=cT F166 Tryz.ntmps166 fun F hF=>by
 unfold Ec at hl
 conv=>whnf
 refine B3 l.length (fun j=>J1 (H2 l least most) l j) (fun j=>[(0,.sl 1 Aa l),(1,Aa least),(2,Aa most),(9,.sl 1 Aa l),(10,Aa l.length),(11,Aa j)]) (fun _=>[]) [] (Cz _ _) ⟨⟨q_,q_,q_,q_,q_,q_,q_,q_,q_,q_,q_,q_,z_⟩,z_,q_,q_⟩ ?_
 intro j hj hI
 refine oO ?_
 (repeat' (first | (refine⟨fun h=>?_,fun h=>?_⟩<;>(repeat (first | simp only[decide_eq_true_eq]at h | simp only[decide_eq_false_iff_not]at h))<;>((refine oO ?_);repeat((first|refine aF ?_|refine aT ?_);(refine oO ?_)))) | (refine Bv rfl (.cons .tmp .nil) ?_ rfl) | (refine⟨y_,?_⟩;((conv=>whnf))) | (refine⟨by (first | (unfold I64;omega) | omega),by (omega),?_⟩;((conv=>whnf))) | (refine⟨by (unfold I64;omega),?_⟩;((conv=>whnf))) | refine B5 [] hI j_ ?_ ⟨⟨rfl,rfl,rfl,rfl,rfl,rfl,rfl,rfl,rfl,rfl,rfl,rfl,trivial⟩,trivial,rfl,rfl⟩))
 all_goals try (refine congrArg Af ?_)
 all_goals try simp only[Int.toNat_natCast,Int.pred_toNat]at *
 ·rw[Cp,D5 (i:=j) j_ (by simp[H2];omega)];simp
 ·rw[Cp,D5 (i:=j) j_ (by simp[H2];omega)];simp
 ·rw[Cp,D5 (i:=j) j_ (by simp only[H2,Tw (show ((j:Int)-1).toNat<l.length by omega),Int.pred_toNat,Int.toNat_natCast];simp;omega)];simp
 ·exact Ce hI j_ (by simp only[H2,Tw (show ((j:Int)-1).toNat<l.length by omega),Int.pred_toNat,Int.toNat_natCast];simp;omega)
 ·exact Ce hI j_ (by simp[H2];omega)
 ·rw[Cp,Mr hI j_,Bool.eq_iff_iff];simp;omega
 ·rw[Cp];simp;omega
theorem Co {K:List Nat}:∀ (a b:List SV),Cg K (a++b)=(Cg K a && Cg K b)
 | [],b=>by simp[Cg]
 | x::a,b=>by simp[Cg,Co a b,Bool.and_assoc]
theorem S5 {f:FuncId} {first cap xs:List SV} (hc:(SV.clo (.func f) first cap).inn []=true) (hx:Cg [] xs=true):Cg [] (first++xs++cap)=true:=by
 simp only[SV.inn,Bool.and_eq_true]at hc
 rw[Co,Co,hc.1,hc.2,hx]
 rfl
def domI (n:Net) (dev vlan:Int):Int:=Xn (fun d=>d.dev == dev && d.vlan == vlan) n.domains
def fewB (n:Net):Bool:=decide (n.devices.length≤8) && decide (n.ports.length≤40) && decide (n.links.length≤20) && decide (n.domains.length≤48) && decide (n.statics.length≤64) && decide (n.floods.length≤48) && decide (n.vrfs.length≤16) && decide (n.irbs.length≤48)
def bareB (n:Net) (i:Nat) (d:Domain):Bool :=
 E5 d.dev n.devices.length && decide (1≤d.vlan) && decide (d.vlan≤4094) && decide (0≤d.vni) && decide (d.vni≤16777215) && (d.irb == -1 || E5 d.irb n.irbs.length && (nth n.irbs d.irb).domain == i) && domI n d.dev d.vlan == i
def Aje (n:Net) (d:Domain):Bool:=(nth n.devices d.dev).vtep != 0
def peerB (n:Net) (i:Nat) (d:Domain) (k:Int):Bool :=
 E5 k n.domains.length && k != i && E5 (nth n.domains k).dev n.devices.length && (nth n.domains k).dev != d.dev && (nth n.domains k).vni == d.vni && d.vni != 0 && Aje n (nth n.domains k) && Aje n d && inB (nth n.domains k).peers i
def peersB (n:Net) (i:Nat) (d:Domain):Bool:=I5 (fun at_ k=>peerB n i d k && Xn (· == k) d.peers == at_) d.peers
def Vq (n:Net) (dev vlan:Int):Bool:=decide (0≤domI n dev vlan)
def portB (n:Net) (i:Nat) (p:Port):Bool :=
 E5 p.dev n.devices.length && decide (0≤p.native) && decide (p.native≤4094) && (decide (p.tagged.length=0) || Cp p.tagged 1 4094) && !inB p.tagged p.native && !(p.native == 0 && decide (p.tagged.length=0)) &&
  I5 (fun _ v=>Vq n p.dev v) p.tagged && !(decide (0<p.native) && !Vq n p.dev p.native) &&
  (p.link == -1 || E5 p.link n.links.length && ((nth n.links p.link).a == i || (nth n.links p.link).b == i))
def linkB (n:Net) (i:Nat) (l:Link):Bool :=
 E5 l.a n.ports.length && E5 l.b n.ports.length && (nth n.ports l.a).dev != (nth n.ports l.b).dev && (nth n.ports l.a).link == i && (nth n.ports l.b).link == i
def Aid (n:Net) (s:Static):Bool :=
 E5 s.domain n.domains.length && E5 s.port n.ports.length && (nth n.ports s.port).dev == (nth n.domains s.domain).dev && Aio (nth n.ports s.port) (nth n.domains s.domain).vlan
def irbB (n:Net) (i:Nat) (x:Irb):Bool :=
 E5 x.domain n.domains.length && E5 x.vrf n.vrfs.length && (nth n.domains x.domain).dev == (nth n.vrfs x.vrf).dev && (nth n.domains x.domain).irb == i && decide (1≤x.bits) && decide (x.bits≤30)
def floodB (n:Net) (f:Flood):Bool:=E5 f.dev n.devices.length && decide (f.addrs.length≤16)
def Vf (l:List Int) (most:Int):Bool:=decide (l.length=0) || Cp l 1 most
def vrfB (n:Net) (v:Vrf):Bool:=E5 v.dev n.devices.length && Vf v.imports 65535 && Vf v.exports 65535
def Ael (n:Net):Bool :=
 fewB n && I5 (bareB n) n.domains && I5 (peersB n) n.domains && I5 (portB n) n.ports && I5 (linkB n) n.links && I5 (fun _=>Aid n) n.statics && I5 (fun _=>floodB n) n.floods && I5 (fun _=>vrfB n) n.vrfs && I5 (irbB n) n.irbs
theorem Aba (l:List Int) (least most:Int) (hl:Ec l):Sy.Spec Tryz.prog 338 [.sl 1 Aa l,Aa least,Aa most] [] (Af (Cp l least most)) []:=cT F338 Tryz.ntmps338 fun F hF=>by
 unfold Ec at hl
 conv=>whnf
 (repeat' (first | (refine⟨fun h=>?_,fun h=>?_⟩<;>(repeat (first | simp only[decide_eq_true_eq]at h | simp only[decide_eq_false_iff_not]at h))<;>((refine oO ?_);repeat((refine aT ?_);(refine oO ?_)))) | (refine Bv rfl (.cons .tmp .nil) ?_ rfl)))
 all_goals try (refine congrArg Af ?_)
 ·rw[Cp];simp;omega
 ·rw[Cp];simp;omega
 refine B3 l.length (fun j=>J1 (H2 l least most) l j) (fun j=>[(0,.sl 1 Aa l),(1,Aa least),(2,Aa most),(7,Aa j)]) (fun _=>[]) [] (Cz _ _) ⟨⟨q_,q_,q_,q_,q_,q_,q_,q_,z_⟩,z_,q_,q_⟩ ?_
 intro j hj hI
 refine oO ?_
 (repeat' (first | (refine⟨fun h=>?_,fun h=>?_⟩<;>(repeat (first | simp only[decide_eq_true_eq]at h | simp only[decide_eq_false_iff_not]at h))<;>((first|refine rg ?_|refine rd y_ ?_);(conv=>whnf);repeat((refine aT ?_);(refine rd y_ ?_);(conv=>whnf)))) | (refine Bv rfl (.cons .tmp .nil) ?_ rfl) | (refine⟨y_,?_⟩;((conv=>whnf);repeat((first|refine aF ?_|refine aT ?_);(refine oO ?_)))) | (refine⟨by (first | (unfold I64;omega) | omega),by (omega),?_⟩;((conv=>whnf))) | (refine⟨by (unfold I64;omega),?_⟩;((conv=>whnf))) | refine B5 [] hI j_ ?_ ⟨⟨rfl,rfl,rfl,rfl,rfl,rfl,rfl,rfl,trivial⟩,trivial,rfl,rfl⟩))
 all_goals try (refine congrArg Af ?_)
 all_goals try simp only[Int.toNat_natCast,Int.pred_toNat]at *
 ·rw[Cp,D5 (i:=j) j_ (by simp[H2];omega)];simp
 ·rw[Cp,D5 (i:=j) j_ (by simp[H2];omega)];simp
 ·rw[Cp,D5 (i:=j) j_ (by simp only[H2,Tw (show ((j:Int)-1).toNat<l.length by omega),Int.pred_toNat,Int.toNat_natCast];simp;omega)];simp
 ·exact Ce hI j_ (by simp only[H2,Tw (show ((j:Int)-1).toNat<l.length by omega),Int.pred_toNat,Int.toNat_natCast];simp;omega)
 ·exact Ce hI j_ (by simp[H2];omega)
 ·rw[Cp,Mr hI j_,Bool.eq_iff_iff];simp;omega
theorem Cw {P:Program} (Γ:Ty P) {o:Oper} {s:SS} {t:TypeId} {ti:TI} {et:TypeId} {sz eb lo hi:Nat} {ez:List Value} {x:Operand} {lx hx:Option Operand} {α:Type} {e:α→SV} {l:List α} (r:List α)
  (h:o.op=.slice t x lx hx none) (ht:Γ.get t=some ti) (hk:ti.k=.slice et sz eb ez) (hxe:ev s x=.sl sz e l) (hlo:BoundIs s lx 0 lo) (hhi:BoundIs s hx l.length hi) (h1:lo≤hi) (h2:hi≤l.length) (hr:(l.take hi).drop lo=r) :
  Good P o s ⟨.sl sz e r,[],[]⟩:=by
 subst hr
 exact Uw Γ h ht hk hxe hlo hhi h1 h2
theorem V0 (a:Int):Sy.Spec Tryz.prog 170 [Aa a] [] (Af false) []:=cT F170 Tryz.ntmps170 fun F hF=>by
 conv=>whnf
 exact Bv q_ (.cons .tmp .nil) (congrArg Af qf) q_
theorem Vz (a:Int):Sy.Spec Tryz.prog 231 [Bh a] [] (Af false) []:=cT F231 Tryz.ntmps231 fun F hF=>by
 conv=>whnf
 exact Bv q_ (.cons .tmp .nil) (congrArg Af qf) q_
def Bd (a b:Int):Int:=if a<b then -1 else if a>b then 1 else 0
theorem Ex (a b:Int):Sy.Spec Tryz.prog 103 [Aa a,Aa b] [] (Aa (Bd a b)) []:=cT F103 Tryz.ntmps103 fun F hF=>by
 conv=>whnf
 (repeat' (first | (refine⟨fun h=>?_,fun h=>?_⟩<;>(repeat (first | simp only[decide_eq_true_eq]at h | simp only[decide_eq_false_iff_not]at h))<;>((refine oO ?_))) | (refine Bv rfl (.cons .tmp .nil) ?_ rfl) | (refine c0 (V0 a) F170 ?_;((refine oO ?_))) | (refine c0 (V0 b) F170 ?_;((refine oO ?_);repeat((refine aF ?_);(refine oO ?_))))))
 all_goals (refine congrArg Aa ?_;clear hF;grind [Bd])
theorem Z2 (a b:Int):Sy.Spec Tryz.prog 172 [Bh a,Bh b] [] (Aa (Bd a b)) []:=cT F172 Tryz.ntmps172 fun F hF=>by
 conv=>whnf
 (repeat' (first | (refine⟨fun h=>?_,fun h=>?_⟩<;>(repeat (first | simp only[decide_eq_true_eq]at h | simp only[decide_eq_false_iff_not]at h))<;>((refine oO ?_))) | (refine Bv rfl (.cons .tmp .nil) ?_ rfl) | (refine c0 (Vz a) F231 ?_;((refine oO ?_))) | (refine c0 (Vz b) F231 ?_;((refine oO ?_);repeat((refine aF ?_);(refine oO ?_))))))
 all_goals (refine congrArg Aa ?_;clear hF;grind [Bd])
def orI:List Int→Int
 | []=>0
 | x::l=>if x=0 then orI l else x
theorem Ts:∀ {l:List Int} {j:Nat},(∀ i (h:i<l.length),i<j→l[i]=0)→orI l=orI (l.drop j)
 | l,0,_=>rfl
 | [],j+1,_=>rfl
 | x::l,j+1,h=>by
  have h0:=h 0 qf j_
  simp only[List.getElem_cons_zero]at h0
  rw[orI,if_pos h0,List.drop_succ_cons]
  exact Ts fun i hi hij=>h (i+1) (by simp;omega) j_
theorem orS (l:List Int) (hl:Ec l):Sy.Spec Tryz.prog 102 [.sl 1 Aa l] [] (Aa (orI l)) []:=cT F102 Tryz.ntmps102 fun F hF=>by
 unfold Ec at hl
 conv=>whnf
 refine B3 l.length (fun j=>∀ i (h:i<l.length),i<j→l[i]=0) (fun j=>[(3,Aa 0),(6,.sl 1 Aa l),(7,Aa l.length),(8,Aa j)]) (fun _=>[]) [] (fun i h hj=>absurd hj j_) ⟨⟨q_,q_,q_,q_,q_,q_,q_,q_,z_⟩,z_,q_,q_⟩ ?_
 intro j hj hI
 refine oO ?_
 (repeat' (first | (refine⟨fun h=>?_,fun h=>?_⟩<;>(repeat (first | simp only[decide_eq_true_eq]at h | simp only[decide_eq_false_iff_not]at h | simp only[bne_iff_ne]at h | simp only[bne_eq_false_iff_eq]at h))<;>((refine oO ?_))) | (refine Bv rfl (.cons .tmp .nil) ?_ rfl) | (refine⟨y_,?_⟩;((conv=>whnf))) | (refine⟨by (omega),by (omega),?_⟩;((conv=>whnf))) | (refine⟨by (unfold I64;omega),?_⟩;((conv=>whnf))) | refine B5 [] hI j_ ?_ ⟨⟨rfl,rfl,rfl,rfl,rfl,rfl,rfl,rfl,trivial⟩,trivial,rfl,rfl⟩))
 all_goals try (refine congrArg Aa ?_)
 ·have hj2:j<l.length:=by omega
  rw[Ts hI,List.drop_eq_getElem_cons hj2,orI,if_neg (by simpa using h)]
  rfl
 ·intro i hi hij
  rcases Nat.lt_or_ge i j with h1 | h1
  ·exact hI i hi h1
  ·have:i=j:=by omega
   subst this
   simpa using h
 ·rw[Ts hI,List.drop_of_length_le j_]
  rfl
end Go.Sy.YtgblchnfjbkipaaGreatDoor
namespace Go.Sy.YtgblchnfjbkipaaGreatDoor
open Go.Proofs
structure LineM where
 row:Int
 kind:Int
 dev:ByteArray
 port:ByteArray
 peer:ByteArray
 far:ByteArray
 name:ByteArray
 mac:Int
 addr:Int
 bits:Int
 vlan:Int
 num:Int
 cost:Int
 tagged:List Int
 imports:List Int
 exports:List Int
 addrs:List Int
def Ay (l:LineM):List SV:=[Aa l.row,Aa l.kind,Ab l.dev,Ab l.port,Ab l.peer,Ab l.far,Ab l.name,Bh l.mac,A0 l.addr,Aa l.bits,Aa l.vlan,Aa l.num,Aa l.cost,.sl 1 Aa l.tagged,.sl 1 Aa l.imports,.sl 1 Aa l.exports,.sl 1 A0 l.addrs]
def Ac (l:LineM):SV:=.agg [Aa l.row,Aa l.kind,Ab l.dev,Ab l.port,Ab l.peer,Ab l.far,Ab l.name,Bh l.mac,A0 l.addr,Aa l.bits,Aa l.vlan,Aa l.num,Aa l.cost,.sl 1 Aa l.tagged,.sl 1 Aa l.imports,.sl 1 Aa l.exports,.sl 1 A0 l.addrs]
theorem cmpI_ok:CmpOK Bd:=Ai3
theorem Lc {a b:Int} (h:Bd a b=0):a=b:=Ae9 h
def Lk (x y:UInt8):Int:=Bd (x.toNat:Int) (y.toNat:Int)
theorem cmpU_ok:CmpOK Lk:=cmpI_ok.comap (fun x:UInt8=>(x.toNat:Int))
theorem Qk {x y:UInt8} (h:Lk x y=0):x=y:=by
 have:=Lc h
 exact UInt8.toNat_inj.1 j_
def Ho (a b:ByteArray):Int:=Aw Lk a.data.toList b.data.toList
theorem cmpB_ok:CmpOK Ho:=cmpU_ok.list.comap (fun b:ByteArray=>b.data.toList)
theorem Afa {a b:ByteArray} (h:Ho a b=0):a=b:=by
 have:=Mj (fun x y=>Qk) _ _ h
 obtain ⟨⟨a⟩⟩:=a
 obtain ⟨⟨b⟩⟩:=b
 simp at this
 rw[this]
theorem Oe:∀ (a b:List UInt8),Op.bytesLess a b=decide (Aw Lk a b<0)
 | [],[]=>by simp[Op.bytesLess,Aw]
 | [],_::_=>by simp[Op.bytesLess,Aw]
 | _::_,[]=>by simp[Op.bytesLess,Aw]
 | x::a,y::b=>by
  rw[Op.bytesLess,Aw,Oe a b]
  unfold C0 Lk Bd
  have hx:=x.toNat_lt
  have hy:=y.toNat_lt
  by_cases h1:x<y
  ·have h2:(x.toNat:Int)<(y.toNat:Int):=by have:=UInt8.lt_iff_toNat_lt.1 h1;omega
   simp[h1,h2]
  ·have h2:¬ (x.toNat:Int)<(y.toNat:Int):=fun h=>h1 (UInt8.lt_iff_toNat_lt.2 j_)
   by_cases h3:x=y
   ·subst h3;simp
   ·have h4:(y.toNat:Int)<(x.toNat:Int):=by
     have:x.toNat≠y.toNat:=fun e=>h3 (UInt8.toNat_inj.1 e)
     omega
    simp[h1,h2,h3,h4]
theorem Ahz {a b:List UInt8}:Aw Lk a b=if Op.bytesLess a b=true then -1 else if a=b then 0 else 1:=by
 rw[Oe]
 have hr:∀ (a b:List UInt8),Aw Lk a b=-1∨Aw Lk a b=0∨Aw Lk a b=1:=by
  intro a
  induction a with
  | nil=>intro b;cases b<;>simp[Aw]
  | cons x a ih =>
   intro b
   cases b with
   | nil=>simp[Aw]
   | cons y b =>
    rw[Aw]
    unfold C0
    split
    ·unfold Lk Bd;split
     ·simp
     ·split<;>simp
    ·exact ih b
 have h0:=Mj (c:=Lk) (fun x y=>Qk) a b
 rcases hr a b with h | h | h
 ·rw[h];simp
 ·rw[h,h0 h];simp
 ·have hne:a≠b:=fun e=>by
   subst e
   have:=cmpU_ok.list.self a
   omega
  rw[h,if_neg qf,if_neg hne]
theorem E7 (x:Int) (l:List Int):orI (x::l)=C0 x (orI l):=by
 rw[orI];unfold C0;split<;>simp_all
theorem CmpOK.const {α:Type}:CmpOK (fun _ _:α=>(0:Int)):=⟨fun _ _=>by simp,fun _ _ _ _ _=>by simp⟩
theorem CmpOK.orNil {α:Type}:CmpOK (fun _ _:α=>orI []):=CmpOK.const
theorem CmpOK.or {α:Type} {c:α→α→Int} {d:α→α→List Int} (hc:CmpOK c) (hd:CmpOK (fun x y=>orI (d x y))):CmpOK (fun x y=>orI (c x y::d x y)):=by
 have h:=hc.then hd
 simp only[E7]
 exact h
def stepI (k:Int):Int:=if k=1 then 1 else if k=5 then 2 else if k=2 then 3 else if k=3 then 4 else if k=4 then 5 else if k=6 then 6 else if k=7 then 7 else if k=8 then 8 else if k=9 then 9 else 10
def Tz (a b:LineM):Int:=orI [Ho a.dev b.dev,Ho a.port b.port,Ho a.peer b.peer,Ho a.far b.far,Ho a.name b.name]
def Kn (a b:LineM):Int:=orI [Bd a.vlan b.vlan,Bd a.num b.num,Bd a.mac b.mac,Bd a.addr b.addr,Bd a.bits b.bits,Bd a.cost b.cost]
def T3 (a b:LineM):Int:=orI [Aw Bd a.tagged b.tagged,Aw Bd a.imports b.imports,Aw Bd a.exports b.exports,Aw Bd a.addrs b.addrs]
def Kq (a b:LineM):Int:=orI [Bd (stepI a.kind) (stepI b.kind),Tz a b,Kn a b,T3 a b]
theorem lineC_ok:CmpOK Kq:=by
 have n:CmpOK Tz:=.or (cmpB_ok.comap LineM.dev) (.or (cmpB_ok.comap LineM.port) (.or (cmpB_ok.comap LineM.peer) (.or (cmpB_ok.comap LineM.far) (.or (cmpB_ok.comap LineM.name) .orNil))))
 have u:CmpOK Kn:=.or (cmpI_ok.comap LineM.vlan) (.or (cmpI_ok.comap LineM.num) (.or (cmpI_ok.comap LineM.mac) (.or (cmpI_ok.comap LineM.addr) (.or (cmpI_ok.comap LineM.bits) (.or (cmpI_ok.comap LineM.cost) .orNil)))))
 have l:CmpOK T3:=.or (cmpI_ok.list.comap LineM.tagged) (.or (cmpI_ok.list.comap LineM.imports) (.or (cmpI_ok.list.comap LineM.exports) (.or (cmpI_ok.list.comap LineM.addrs) .orNil)))
 exact .or (cmpI_ok.comap (fun a:LineM=>stepI a.kind)) (.or n (.or u (.or l .orNil)))
def Dd (a b:LineM):Bool:=decide (Kq a b<0)
theorem lineB_ordy:Ordy Dd:=lineC_ok.ordy
def Ic (l:List LineM):List LineM:=l.mapIdx fun i x=>{ x with row:=i+1 }
def Bp (l:List LineM):List LineM:=Ic (Bb Dd l)
end Go.Sy.YtgblchnfjbkipaaGreatDoor
namespace Go.Sy.YtgblchnfjbkipaaGreatDoor
open Go.Proofs Go.ChangeShapes Go.WideShapes Go.ChangeAt Go.RowKit
set_option maxRecDepth 100000
section
variable {H:Type} {enc:TypeId × Value→H} {W:World}
theorem Agu {P:Program} {t:TypeId} (ht:P.underlying t=some (.int .u8)):OpN enc P W t Ak (fun _=>True) 1:=fun n cs y h=>by
 obtain ⟨z,h1,h2,h3,h4⟩:=Ain ht n cs y h
 have hz:0≤z∧z<256:=by
  simp only[Lit.wf,Bool.and_eq_true,decide_eq_true_eq]at h1
  have a:=h1.1
  have b:=h1.2
  simp only[IntKind.min,IntKind.max,IntKind.signed,IntKind.bits]at a b
  constructor<;>simp at a b<;>omega
 refine⟨UInt8.ofNat z.toNat,z_,h2,h3,?_⟩
 have e:Ak (UInt8.ofNat z.toNat)=.val (.int .u8 z):=by
  rw[Ak,UInt8.toNat_ofNat_of_lt' (by show _<256;omega),Int.toNat_of_nonneg hz.1]
 rw[e];exact h4
theorem Ags:Op1 enc Tryz.prog W 35 (fun l:List UInt8=>.sl 1 Ak l) (fun l=>(∀ x∈l,True)∧l.length≤maxLen) :=
 Agr Tryz.underlying35 (by kernel_rfl:Tryz.prog.cellsOf 5=1) qe (fun _=>rfl) (fun _=>rfl) (Agu Tryz.underlying5)
end
end Go.Sy.YtgblchnfjbkipaaGreatDoor
namespace Go.Sy
theorem Add {κ:Ka} {w:World} {x:SV}:∀ {l:List SV} {cs:List Value} {i:Nat},RdL κ w l cs→(∀ y v,l[i]? = some y→Rd κ w y v→Rd κ w x v)→RdL κ w (l.set i x) cs
 | [],_,_,h,_=>h
 | y::l,cs,0,h,hx=>by
  simp only[RdL,List.set_cons_zero]at h ⊢
  obtain ⟨v,r,e1,e2,e3⟩:=h
  exact⟨v,r,e1,hx y v q_ e2,e3⟩
 | y::l,cs,i+1,h,hx=>by
  simp only[RdL,List.set_cons_succ]at h ⊢
  obtain ⟨v,r,e1,e2,e3⟩:=h
  exact⟨v,r,e1,e2,Add e3 (fun z u hz hu=>hx z u hz hu)⟩
theorem Aac {C:Cx} {k:List KI} {s:SS} (b i d sz:Nat) {α:Type} (e:α→SV) {l:List SV} (hb:s.h b=.box l) (h:l[i]? = some (.val (.slice none 0 0))) (hd:s.h d=.fresh) (hbd:Nat.beq b d=false)
  (hg:G C k ⟨s.σ,upd (upd s.h b (.box (l.set i (.osl d)))) d (.row sz e [])⟩):G C k s:=fun κ a w hs=>by
 have hne:b≠d:=fun e=>by rw[e,Nat.beq_refl]at hbd;cases hbd
 have hnew:κ d=.new:=by have:=hs.obj d;rwa [hd]at this
 obtain ⟨st,inv⟩:=Eg hs.inv hnew (e:=.nil) (Grew.refl w) (fun b hb=>by cases hb)
 refine hg (Dy κ d .nil) a w ⟨hs.defers,hs.size,inv,hs.ctx.step inv st,fun j=>Rd.step st _ _ (hs.slot j),fun j=>?_⟩
 show ObOK _ w j (upd (upd s.h b (.box (l.set i (.osl d)))) d (.row sz e []) j)
 by_cases hj:j=d
 ·subst hj;rw[Cd];exact .inl ⟨Am _ _ _,rfl⟩
 ·rw[C6 _ _ hj]
  by_cases hjb:j=b
  ·subst hjb
   rw[Cd]
   have:=ObOK.step st hj _ (hs.obj j)
   rw[hb]at this
   obtain ⟨b',cs,T,fr,e1,e2,e3,e4,e5⟩:=this
   refine⟨b',cs,T,fr,e1,e2,e3,e4,Add e5 fun y v hy hv=>?_⟩
   rw[h]at hy
   cases hy
   simp only[Rd]at hv
   simp only[Rd,Am]
   exact hv
  ·rw[C6 _ _ hjb];exact ObOK.step st hj _ (hs.obj j)
theorem Lf {P:Program} (w:World) {t e:TypeId} (h:P.underlying t=some (.slice e)) (ad:Option Addr) (n cap c1 c2:Nat):(Op.equal t (.slice ad n cap) (.slice none c1 c2)).run P w=.ok ad.isNone w:=by
 have key:∀ d,(Op.equalIn (d+1) t (.slice ad n cap) (.slice none c1 c2)).run P w=.ok ad.isNone w:=fun d=>by
  cases ad<;>simp[Op.equalIn,run_underlying h]
 exact key 9999
inductive NilT (s:SS):SV→List Nat→Nat→Prop
 | sl {sz:Nat} {α:Type} {e:α→SV} {l:List α}:NilT s (.sl sz e l) [] l.length
 | row {k sz:Nat} {α:Type} {e:α→SV} {l:List α} (h:s.h k=.row sz e l):NilT s (.osl k) [k] l.length
theorem NilT.at {C:Cx} {s:SS} {κ:Ka} {a:Act} {w:World} {x:Operand} {rd:List Nat} {n:Nat} (hs:St C.F C.n s κ a w) (hx:NilT s (ev s x) rd n):∃ (ad:Option Addr) (m cap:Nat),a.eval x=.slice ad m cap∧(ad.isNone=true→n=0):=by
 have h1:Rd κ w (ev s x) (a.eval x):=hs.ev x
 generalize ev s x=y at *
 cases hx with
 | @sl sz α e l =>
  simp only[Rd,RdD]at h1
  rcases h1 with ⟨rfl,a',cap,h1⟩ | ⟨b,off,cap,h1,_⟩
  ·exact⟨_,_,_,h1,fun _=>rfl⟩
  ·exact⟨_,_,_,h1,fun h=>by cases h⟩
 | @row k' sz α e l hr =>
  have hob:=hs.obj k'
  rw[hr]at hob
  simp only[Rd]at h1
  rcases hob with ⟨hκ,hl⟩ | ⟨b,cap,_,_,_,hκ,_⟩
  ·rw[hκ]at h1
   exact⟨_,_,_,h1,fun _=>by rw[hl];rfl⟩
  ·rw[hκ]at h1
   exact⟨_,_,_,h1,fun h=>by cases h⟩
theorem Acs {C:Cx} {k:List KI} {s:SS} {all:Array Oper} {o:Oper} {rest:List Oper} {op:BinOp} {t yt:TypeId} {ti:TI} {et:TypeId} {sz eb n:Nat} {ez:List Value} {x y:Operand} {rd:List Nat} (h:o.op=.binOp op t x y yt) (hop:op=.eql∨op=.neq)
  (ht:C.Γ.get t=some ti) (hk:ti.k=.slice et sz eb ez) (hy:ev s y=.val (.slice none 0 0)) (hx:NilT s (ev s x) rd n) (hd:Ly C.n o=true) (hw:Dh C.n all o s=some true)
  (hg:∀ b:Bool,(b=true→n=0)→G C (.ops all rest::k) (s.upd o.dst ⟨.val (.bool (if op=.eql then b else !b)),rd,[]⟩)):G C (.ops all (o::rest)::k) s:=fun κ a w hs=>by
 have h2:Rd κ w (ev s y) (a.eval y):=hs.ev y
 rw[hy]at h2
 obtain ⟨ad,m,cap,e1,e2⟩:=hx.at hs
 obtain ⟨d,info,z,k1,k2,_⟩:=C.Γ.ok t ti ht
 rw[hk]at k2
 simp only[TK.ok]at k2
 have hrun:=Lf (P:=C.P) w (t:=t) (e:=et) (by first | exact k2.1 ▸ k1 | (rw[k1,k2.1])) ad m cap 0 0
 have hG:=hg ad.isNone e2
 have hv:=h2.val
 refine wpList_step fun K hK=>?_
 rw[if_pos (K1 hs (C9 hw).2 (C9 hw).1)]
 have hx':(execOp a.eval o).run C.P w=.ok (.value (.bool (if op=.eql then ad.isNone else !ad.isNone))) w:=by
  rcases hop with rfl | rfl<;>simp[execOp,h,e1,hv,eqGuard,binOp,hrun]
 simp only[Oper.wp,hx',Oper.upon]
 exact hK _ _ (hG κ _ w (hs.put (U:=⟨.val (.bool (if op=.eql then ad.isNone else !ad.isNone)),rd,[]⟩) (Ue hd) (Step.refl _ κ w) hs.inv (by simp[Rd]) (fun p hp=>by cases hp)))
def KeepL (s:SS):List (Nat × Ob)→Prop
 | []=>True
 | (k,o)::r=>s.h k=o∧KeepL s r
theorem KeepL.all {s:SS}:∀ {l:List (Nat × Ob)},KeepL s l→∀ p∈l,s.h p.1=p.2
 | [],_,p,hp=>by cases hp
 | (k,o)::r,h,p,hp=>by
  rcases List.mem_cons.1 hp with rfl | hp
  ·exact h.1
  ·exact KeepL.all h.2 p hp
theorem stepD2 {C:Cx} {k:List KI} {s:SS} {all:Array Oper} {done:List Stp} {o:Oper} {rest:List Oper} {U:Up} (hg:Good C.P o s U) (hk:KeepL s U.objs) (hi:all[done.length]? = some o) (hw:Dh C.n all o s=some true)
  (h:DR C k all (done++[⟨done.length,o,⟨U.v,U.rd++U.ws,[]⟩,true⟩]) rest (s.upd o.dst ⟨U.v,U.rd++U.ws,[]⟩)) (hn:(Eu o || I1 o)=false:=by rfl):DR C k all done (o::rest) s :=
 Ah8 _ (.of2 (hg.keep hk.all) hn) hi (C9 hw).1 h
theorem Vb {κ:Ka} {w w':World} (hi:Inv κ w) (g:Grew w w'):Step (fun _=>False) κ w κ w'∧Inv κ w' :=
 ⟨⟨g.size,g.os,g.tape,g.output,rfl,fun b hb=>g.blk b (hi.mbnd b hb),fun b hb _=>g.blk b hb,fun k b _ hb=>g.blk b (hi.bnd k b hb),fun _ _=>rfl,fun _ h=>h.elim,fun _ h=>.inl h⟩,
  ⟨hi.inj,fun k b h=>Nat.lt_of_lt_of_le (hi.bnd k b h) g.size,hi.apart,fun b h=>Nat.lt_of_lt_of_le (hi.mbnd b h) g.size⟩⟩
theorem Spec.of_calls {P:Program} {f:FuncId} {A:List SV} {H:Obs} {u:Value}
  (h:∀ (κ:Ka) (w:World) (vs:List Value),Inv κ w→RdL κ w A vs→H.ok κ w→Calls P f vs.toArray w fun e w'=>e=.returned u∧RowKit.Below w.heap.size w w'):Spec P f A H (.val u) H:=by
 intro κ w vs hi _ hr ho
 refine(h κ w vs hi hr ho).mono fun e w' hw=>?_
 obtain ⟨he,hw⟩:=hw
 have g:Grew w w':=⟨hw.os,hw.tape,hw.output,hw.size,hw.block⟩
 have st:=Vb hi g
 exact⟨u,κ,he,(Ctx.refl κ w).step st.2 st.1,st.2,by simp[Rd],fun p hp=>ObOK.step st.1 qf p.2 (ho p hp)⟩
theorem Aah {κ:Ka} {w:World} {l:List ByteArray} {v:Value} (h:Rd κ w (.sl 1 Ab l) v) :
  (l=[]∧∃ a c,v=.slice a 0 c)∨∃ b o c,v=.slice (some ⟨b,o,none⟩) l.length c∧l.length≤c∧b<w.heap.size∧∀ (j:Nat) x,l[j]? = some x→w.cell? ⟨b,o+j,none⟩=some (.string x):=by
 simp only[Rd,RdD]at h
 rcases h with ⟨h1,h2⟩ | ⟨b,off,cap,h1,h0,h2,h3,h4⟩
 ·exact .inl ⟨h1,h2⟩
 ·refine .inr ⟨b,off,cap,h1,h0,h3,fun j x hj=>?_⟩
  obtain ⟨hlt,he⟩:=List.getElem?_eq_some_iff.1 hj
  obtain ⟨u,h5,h6⟩:=h4 j hlt
  rw[he]at h5
  simp only[Ab,RdD]at h5
  subst h5
  have:=h6.2.2 0 j_
  simp only[Nat.mul_one,Nat.add_zero]at this
  exact this
def Bn (l:List ByteArray) (sep:ByteArray):ByteArray:=⟨(Lib.join (l.map (·.data.toList)) sep.data.toList).toArray⟩
def Ea (l:List ByteArray):Nat:=(l.map (·.size)).sum
theorem Acz:∀ (l:List (List UInt8)) (sep:List UInt8),(Lib.join l sep).length≤(l.map (·.length)).sum+sep.length * l.length
 | [],_=>by simp[Lib.join_nil]
 | x::r,sep=>by
  rw[Lib.join_length]
  have:Lib.lens (x::r)=((x::r).map (·.length)).sum:=by
   clear sep
   induction (x::r) with
   | nil=>rfl
   | cons a t ih=>simp[Lib.lens,ih]
  rw[this,List.length_cons,Nat.mul_succ]
  omega
theorem Aha {l:List ByteArray} {sep:ByteArray} (h1:Ea l≤70368744177664) (h2:sep.size * l.length≤70368744177664):(Lib.join (l.map (·.data.toList)) sep.data.toList).length≤140737488355328:=by
 have:=Acz (l.map (·.data.toList)) sep.data.toList
 have e:(l.map (·.data.toList)).map (·.length)=l.map (·.size):=by
  rw[List.map_map]
  apply List.map_congr_left
  intro a _
  rfl
 rw[e,List.length_map]at this
 have e2:sep.data.toList.length=sep.size:=rfl
 rw[e2]at this
 unfold Ea at h1
 omega
end Go.Sy
namespace Go.Proofs
open Go.Shelf
def Tryz.lays156_ren:Go.Shelf.Ren:=⟨fun | 156=>255 | 165=>303 | 166=>304 | 169=>305 | 240=>353 | 241=>354 | 276=>386 | 277=>387 | n=>n,fun | 31=>164 | 9=>9 | 3=>3 | 4=>4 | 0=>0 | 20=>20 | 72=>302 | 76=>305 | 70=>300 | 37=>35 | 75=>304 | 127=>330 | 164=>338 | 5=>5 | 80=>223 | n=>n,fun | n=>n⟩
theorem Tryz.lays156:Go.Proofs.Lays.n156 Tryz.prog Tryz.lays156_ren:={
 mixed:=by kernel_rfl
 f156:=Tryz.func255.trans (congrArg some Go.Sy.y_)
 f165:=Tryz.func303.trans (congrArg some Go.Sy.y_)
 f166:=Tryz.func304.trans (congrArg some Go.Sy.y_)
 f169:=Tryz.func305.trans (congrArg some Go.Sy.y_)
 f240:=Tryz.func353.trans (congrArg some Go.Sy.y_)
 f241:=Tryz.func354.trans (congrArg some Go.Sy.y_)
 f276:=Tryz.func386.trans (congrArg some Go.Sy.y_)
 f277:=Tryz.func387.trans (congrArg some Go.Sy.y_)
 t0:=Tryz.underlying0
 a0:=Tryz.isAgg0
 z0:=Tryz.sizeOf0
 v0:=Tryz.zeroValue0
 t3:=Tryz.underlying3
 a3:=Tryz.isAgg3
 z3:=Tryz.sizeOf3
 v3:=Tryz.zeroValue3
 t4:=Tryz.underlying4
 a4:=Tryz.isAgg4
 z4:=Tryz.sizeOf4
 v4:=Tryz.zeroValue4
 t9:=Tryz.underlying9
 a9:=Tryz.isAgg9
 z9:=Tryz.sizeOf9
 v9:=Tryz.zeroValue9
 t20:=Tryz.underlying20
 a20:=Tryz.isAgg20
 z20:=Tryz.sizeOf20
 v20:=Tryz.zeroValue20
 t31:=Tryz.underlying164
 a31:=Tryz.isAgg164
 z31:=Tryz.sizeOf164
 v31:=Tryz.zeroValue164
 t37:=Tryz.underlying35
 a37:=Tryz.isAgg35
 z37:=Tryz.sizeOf35
 v37:=Tryz.zeroValue35
 t70:=Tryz.underlying300
 a70:=Tryz.isAgg300
 z70:=Tryz.sizeOf300
 v70:=Tryz.zeroValue300
 t72:=Tryz.underlying302
 a72:=Tryz.isAgg302
 z72:=Tryz.sizeOf302
 v72:=Tryz.zeroValue302
 t75:=Tryz.underlying304
 a75:=Tryz.isAgg304
 z75:=Tryz.sizeOf304
 v75:=Tryz.zeroValue304
 t76:=Tryz.underlying305
 a76:=Tryz.isAgg305
 z76:=Tryz.sizeOf305
 v76:=Tryz.zeroValue305
 t127:=Tryz.underlying330
 a127:=Tryz.isAgg330
 z127:=Tryz.sizeOf330
 v127:=Tryz.zeroValue330
 t164:=Tryz.underlying338
 a164:=Tryz.isAgg338
 z164:=Tryz.sizeOf338
 v164:=Tryz.zeroValue338 }
theorem Tryz.Builder_Extra_156:Builder.Extra Tryz.prog Tryz.lays156_ren:={
 sizeBuilder:=by kernel_rfl
 liesBuilder:=by kernel_rfl
 t5:=Tryz.underlying5
 a5:=Tryz.isAgg5
 z5:=Tryz.sizeOf5
 v5:=Tryz.zeroValue5
 infoByte:=by kernel_rfl
 cellsByte:=by kernel_rfl
 sizeByte:=by kernel_rfl
 neB5:=by decide }
open Go.RowKit in
theorem Tryz.strings_Join_none (a:Option Addr) (c:Nat) (sep:ByteArray) (w:World) :
  Calls Tryz.prog 255 #[.slice a 0 c,.string sep] w fun e w'=>e=.returned (.string ⟨#[]⟩)∧w'=w:=Any.strings_Join_none Tryz.lays156 Tryz.Builder_Extra_156 a c sep w
open Go.RowKit in
theorem Tryz.strings_Join (bk o c:Nat) (xs:List ByteArray) (sep:ByteArray) (w:World) (hcells:∀ (j:Nat) x,xs[j]? = some x→w.cell? ⟨bk,o+j,none⟩=some (.string x)) (hbk:bk<w.heap.size) (hN:xs.length≤140737488355328) (hcap:xs.length≤c) (hlen:(Lib.join (xs.map (·.data.toList)) sep.data.toList).length≤140737488355328) :
  Calls Tryz.prog 255 #[.slice (some ⟨bk,o,none⟩) xs.length c,.string sep] w fun e w'=>e=.returned (.string ⟨(Lib.join (xs.map (·.data.toList)) sep.data.toList).toArray⟩)∧Below w.heap.size w w':=Any.strings_Join Tryz.lays156 Tryz.Builder_Extra_156 bk o c xs sep w hcells hbk hN hcap hlen
def Tryz.lays219_ren:Go.Shelf.Ren:=⟨fun | 219=>288 | 217=>341 | 225=>342 | 224=>343 | 267=>344 | 266=>382 | 314=>383 | n=>n,fun | 9=>9 | 3=>3 | 4=>4 | 5=>5 | 46=>257 | 146=>350 | 51=>24 | n=>n,fun | 1=>0 | n=>n⟩
theorem Tryz.lays219:Go.Proofs.Lays.n219 Tryz.prog Tryz.lays219_ren:={
 mixed:=by kernel_rfl
 f217:=Tryz.func341.trans (congrArg some Go.Sy.y_)
 f219:=Tryz.func288.trans (congrArg some Go.Sy.y_)
 f224:=Tryz.func343.trans (congrArg some Go.Sy.y_)
 f225:=Tryz.func342.trans (congrArg some Go.Sy.y_)
 f266:=Tryz.func382.trans (congrArg some Go.Sy.y_)
 f267:=Tryz.func344.trans (congrArg some Go.Sy.y_)
 f314:=Tryz.func383.trans (congrArg some Go.Sy.y_)
 t3:=Tryz.underlying3
 a3:=Tryz.isAgg3
 z3:=Tryz.sizeOf3
 v3:=Tryz.zeroValue3
 t4:=Tryz.underlying4
 a4:=Tryz.isAgg4
 z4:=Tryz.sizeOf4
 v4:=Tryz.zeroValue4
 t5:=Tryz.underlying5
 a5:=Tryz.isAgg5
 z5:=Tryz.sizeOf5
 v5:=Tryz.zeroValue5
 t9:=Tryz.underlying9
 a9:=Tryz.isAgg9
 z9:=Tryz.sizeOf9
 v9:=Tryz.zeroValue9
 t46:=Tryz.underlying257
 a46:=Tryz.isAgg257
 z46:=Tryz.sizeOf257
 v46:=Tryz.zeroValue257
 t51:=Tryz.underlying24
 a51:=Tryz.isAgg24
 z51:=Tryz.sizeOf24
 v51:=Tryz.zeroValue24
 t146:=Tryz.underlying350
 a146:=Tryz.isAgg350
 z146:=Tryz.sizeOf350
 v146:=Tryz.zeroValue350
 g1:=by kernel_rfl }
open Go.RowKit Go.Lib in
theorem Tryz.stringslite_Index_one (s:ByteArray) (c:UInt8) (w:World) :
  Calls Tryz.prog 288 #[.string s,.string ⟨#[c]⟩] w fun e w'=>e=.returned (.int .i64 (Lib.indexByte s.data.toList c))∧w'=w:=Any.stringslite_Index_one Tryz.lays219 s c w
def Tryz.lays143_ren:Go.Shelf.Ren:=⟨fun | 143=>348 | 219=>288 | 217=>341 | 225=>342 | 224=>343 | 267=>344 | 266=>382 | 314=>383 | n=>n,fun | 9=>9 | 3=>3 | 4=>4 | 5=>5 | 46=>257 | 146=>350 | 51=>24 | n=>n,fun | 1=>0 | n=>n⟩
theorem Tryz.lays143:Go.Proofs.Lays.n143 Tryz.prog Tryz.lays143_ren:={
 mixed:=by kernel_rfl
 f143:=Tryz.func348.trans (congrArg some Go.Sy.y_)
 f217:=Tryz.func341.trans (congrArg some Go.Sy.y_)
 f219:=Tryz.func288.trans (congrArg some Go.Sy.y_)
 f224:=Tryz.func343.trans (congrArg some Go.Sy.y_)
 f225:=Tryz.func342.trans (congrArg some Go.Sy.y_)
 f266:=Tryz.func382.trans (congrArg some Go.Sy.y_)
 f267:=Tryz.func344.trans (congrArg some Go.Sy.y_)
 f314:=Tryz.func383.trans (congrArg some Go.Sy.y_)
 t3:=Tryz.underlying3
 a3:=Tryz.isAgg3
 z3:=Tryz.sizeOf3
 v3:=Tryz.zeroValue3
 t4:=Tryz.underlying4
 a4:=Tryz.isAgg4
 z4:=Tryz.sizeOf4
 v4:=Tryz.zeroValue4
 t5:=Tryz.underlying5
 a5:=Tryz.isAgg5
 z5:=Tryz.sizeOf5
 v5:=Tryz.zeroValue5
 t9:=Tryz.underlying9
 a9:=Tryz.isAgg9
 z9:=Tryz.sizeOf9
 v9:=Tryz.zeroValue9
 t46:=Tryz.underlying257
 a46:=Tryz.isAgg257
 z46:=Tryz.sizeOf257
 v46:=Tryz.zeroValue257
 t51:=Tryz.underlying24
 a51:=Tryz.isAgg24
 z51:=Tryz.sizeOf24
 v51:=Tryz.zeroValue24
 t146:=Tryz.underlying350
 a146:=Tryz.isAgg350
 z146:=Tryz.sizeOf350
 v146:=Tryz.zeroValue350
 g1:=by kernel_rfl }
open Go.RowKit Go.Lib in
theorem Tryz.strings_Index_one (s:ByteArray) (c:UInt8) (w:World) :
  Calls Tryz.prog 348 #[.string s,.string ⟨#[c]⟩] w fun e w'=>e=.returned (.int .i64 (Lib.indexByte s.data.toList c))∧w'=w:=Any.strings_Index_one Tryz.lays143 s c w
def Tryz.lays101_ren:Go.Shelf.Ren:=⟨fun | 101=>289 | 208=>345 | 206=>384 | n=>n,fun | 9=>9 | 4=>4 | 3=>3 | n=>n,fun | n=>n⟩
theorem Tryz.lays101:Go.Proofs.Lays.n101 Tryz.prog Tryz.lays101_ren:={
 mixed:=by kernel_rfl
 f101:=Tryz.func289.trans (congrArg some Go.Sy.y_)
 f206:=Tryz.func384.trans (congrArg some Go.Sy.y_)
 f208:=Tryz.func345.trans (congrArg some Go.Sy.y_)
 t3:=Tryz.underlying3
 a3:=Tryz.isAgg3
 z3:=Tryz.sizeOf3
 v3:=Tryz.zeroValue3
 t4:=Tryz.underlying4
 a4:=Tryz.isAgg4
 z4:=Tryz.sizeOf4
 v4:=Tryz.zeroValue4
 t9:=Tryz.underlying9
 a9:=Tryz.isAgg9
 z9:=Tryz.sizeOf9
 v9:=Tryz.zeroValue9 }
open Go.RowKit Go.Lib in
theorem Tryz.strings_TrimPrefix (s p:ByteArray) (w:World) :
  Calls Tryz.prog 289 #[.string s,.string p] w fun e w'=>e=.returned (.string ⟨(Lib.trimPrefix s.data.toList p.data.toList).toArray⟩)∧w'=w:=Any.strings_TrimPrefix Tryz.lays101 s p w
end Go.Proofs
namespace Go.Sy.YtgblchnfjbkipaaGreatDoor
open Go.Proofs
theorem Td (l:List ByteArray) (sep:ByteArray) (h0:l.length≤70368744177664) (h1:Ea l≤70368744177664) (h2:sep.size * l.length≤70368744177664) :
  Sy.Spec Tryz.prog 255 [.sl 1 Ab l,Ab sep] [] (Ab (Bn l sep)) [] :=
 Spec.of_calls fun κ w vs hi hr _=>by
  simp only[RdL]at hr
  obtain ⟨v,r,rfl,h3,u,r',rfl,h4,rfl⟩:=hr
  have h4':u=.string sep:=by simpa only [Ab,Rd] using h4
  subst h4'
  rcases Aah h3 with ⟨rfl,a,c,rfl⟩ | ⟨b,o,c,rfl,hc,hb,hcell⟩
  ·exact(Tryz.strings_Join_none a c sep w).mono fun e w' ⟨he,hw⟩=>⟨he,hw ▸ RowKit.Below.refl _ _⟩
  ·exact Tryz.strings_Join b o c l sep w hcell hb j_ hc (Aha h1 h2)
def Hl (c:UInt8) (l:List UInt8):Nat:=(Lib.indexByte l c).toNat
def Bz (c:UInt8) (l:List UInt8):Nat→List UInt8
 | 0=>l
 | j+1=>(Bz c l j).drop (Hl c (Bz c l j)+1)
def Kk (c:UInt8) (l:List UInt8) (j:Nat):List UInt8:=(Bz c l j).take (Hl c (Bz c l j))
def mkT (l:List UInt8):ByteArray:=⟨l.toArray⟩
def Au (c:UInt8) (s:ByteArray):List ByteArray :=
 (List.range (s.data.toList.count c)).map (fun j=>mkT (Kk c s.data.toList j))++[mkT (Bz c s.data.toList (s.data.toList.count c))]
theorem Ev:∀ {l:List UInt8} {c:UInt8},c∈l→0≤Lib.indexByte l c∧(Lib.indexByte l c).toNat<l.length
 | b::l,c,h=>by
  unfold Lib.indexByte
  by_cases hb:b == c
  ·rw[if_pos hb];simp
  ·rw[if_neg hb]
   have hm':c∈l:=by
    rcases List.mem_cons.1 h with h | h
    ·exact absurd (by simp[h]) hb
    ·exact h
   have:=Ev hm'
   rw[if_neg (by simp;omega)]
   simp only[List.length_cons]
   omega
theorem Jv:∀ {l:List UInt8} {c:UInt8},c∈l→(l.drop (Hl c l+1)).count c+1=l.count c
 | b::l,c,h=>by
  unfold Hl Lib.indexByte
  by_cases hb:b == c
  ·rw[if_pos hb,List.count_cons,if_pos hb];simp
  ·rw[if_neg hb]
   have hm':c∈l:=by
    rcases List.mem_cons.1 h with h | h
    ·exact absurd (by simp[h]) hb
    ·exact h
   have h1:=Ev hm'
   rw[if_neg (by simp;omega),List.count_cons,if_neg hb,Nat.add_zero,← Jv hm']
   have e:(Lib.indexByte l c+1).toNat=Hl c l+1:=by unfold Hl;omega
   rw[e,List.drop_succ_cons]
theorem Mi (c:UInt8) (l:List UInt8):∀ j,j≤l.count c→(Bz c l j).count c+j=l.count c
 | 0,_=>rfl
 | j+1,h=>by
  have ih:=Mi c l j j_
  have hm':c∈Bz c l j:=List.count_pos_iff.1 j_
  have:=Jv hm'
  rw[Bz]
  omega
theorem Aa9 {c:UInt8} {l:List UInt8} {j:Nat} (h:j<l.count c):c∈Bz c l j :=
 List.count_pos_iff.1 (by have:=Mi c l j j_;omega)
def Ace (c:UInt8) (s:ByteArray):Nat:=s.data.toList.count c
theorem Df (c:UInt8) (s:ByteArray):(Au c s).length=Ace c s+1:=by simp only[Au,List.length_append,List.length_map,List.length_range,List.length_singleton];rfl
theorem Yj (c:UInt8) (l:List UInt8):∀ j,(Bz c l j).length≤l.length
 | 0=>Nat.le_refl _
 | j+1=>by rw[Bz,List.length_drop];have:=Yj c l j;omega
theorem Dm {a b:ByteArray} (h:a.data.toList=b.data.toList):a=b:=by
 cases a;cases b;simp only[ByteArray.mk.injEq];exact Array.toList_inj.1 h
theorem Ax (l:List UInt8):(mkT l).size=l.length:=by simp[mkT,ByteArray.size]
theorem A2 (l:List UInt8):(mkT l).data.toList=l:=by simp[mkT]
theorem Bu (l:List UInt8) (i j:Nat):(mkT l).extract i j=mkT ((l.take j).drop i):=by
 apply Dm
 simp[mkT,ByteArray.data_extract,List.extract_eq_take_drop,List.drop_take]
theorem Bt (s:ByteArray):mkT s.data.toList=s:=Dm (by simp[mkT])
theorem Ago {c:UInt8} {s:ByteArray} {j m:Nat} (h:Lib.indexByte (Bz c s.data.toList j) c=m):Kk c s.data.toList j=(Bz c s.data.toList j).take m:=by
 rw[Kk,Hl,h,Int.toNat_natCast]
theorem Aif {c:UInt8} {s:ByteArray} {j m:Nat} (h:Lib.indexByte (Bz c s.data.toList j) c=m):Bz c s.data.toList (j+1)=(Bz c s.data.toList j).drop (m+1):=by
 rw[Bz,Hl,h,Int.toNat_natCast]
end Go.Sy.YtgblchnfjbkipaaGreatDoor
namespace Go.Sy.YtgblchnfjbkipaaGreatDoor
open Go.Proofs
attribute [local irreducible] Go.Sy.G Go.Sy.DR
set_option maxRecDepth 20000
set_option maxHeartbeats 4000000
def Cc (c:UInt8):Bool:=decide (48≤c.toNat) && decide (c.toNat≤57)
def D6 (s:ByteArray):Nat→Int
 | 0=>0
 | j+1=>10 * D6 s j+((Ad s j).toNat-48)
def J5 (s:ByteArray):Bool:=(List.range s.size).all fun i=>Cc (Ad s i)
def smallT (s:ByteArray) (most:Int):Int × Bool :=
 if s.size=0∨3<s.size∨(1<s.size∧(Ad s 0).toNat=48)∨J5 s=false then (0,false) else (D6 s s.size,decide (D6 s s.size≤most))
theorem Ja {s:ByteArray} {i:Nat} (hi:i<s.size) (h:Cc (Ad s i)=false):J5 s=false:=by
 rw[J5,List.all_eq_false]
 exact⟨i,by simpa using hi,by simp[h]⟩
theorem K9 {s:ByteArray} (h:∀ i,i<s.size→Cc (Ad s i)=true):J5 s=true:=by
 rw[J5,List.all_eq_true]
 intro i hi
 exact h i (by simpa using hi)
theorem digB_iff {c:UInt8}:Cc c=true↔48≤c.toNat∧c.toNat≤57:=by simp[Cc]
theorem Mq {s:ByteArray}:∀ {j:Nat},(∀ i,i<j→Cc (Ad s i)=true)→0≤D6 s j∧D6 s j<10 ^ j
 | 0,_=>by simp[D6]
 | j+1,h=>by
  have ih:=Mq (s:=s) (j:=j) (fun i hi=>h i j_)
  have hd:=digB_iff.1 (h j j_)
  rw[D6]
  have e:(10:Int) ^ (j+1)=10 * 10 ^ j:=by rw[Int.pow_succ];omega
  rw[e]
  omega
theorem Afl {n:Nat} (h:48≤n) (h2:n<256):IntKind.u8.wrap ((n:Int)-48)=(n:Int)-48:=by
 rw[IntKind.wrap_u8]
 omega
theorem Ahh {n:Int} (h:0≤n) (h2:n<256):IntKind.i64.wrap n=n:=by
 rw[IntKind.wrap_i64]
 omega
theorem Um (s:ByteArray) (most:Int):Sy.Spec Tryz.prog 241 [Ab s,Aa most] [] (.tup [Aa (smallT s most).1,Af (smallT s most).2]) []:=cT F241 Tryz.ntmps241 fun F hF=>by
 have hlk:=smallT.eq_1 s most
 generalize smallT s most=res at *
 ((conv=>whnf);repeat((first|refine aF ?_|refine aT ?_);(first|refine rG Γ hm ?_|refine rD Γ hm y_ ?_);conv=>whnf))
 refine⟨fun h=>?_,fun h=>?_⟩
 ·have h1:s.size=0:=by simpa using h
  rw[if_pos (.inl h1)]at hlk
  subst hlk
  ((first|refine rG Γ hm ?_|refine rD Γ hm y_ ?_);(conv=>whnf);repeat((first|refine aF ?_|refine aT ?_);(first|refine rG Γ hm ?_|refine rD Γ hm y_ ?_);conv=>whnf))
  exact dN
 have h1:¬ s.size=0:=by simpa using h
 ((first|refine rG Γ hm ?_|refine rD Γ hm y_ ?_);(conv=>whnf);repeat((first|refine aF ?_|refine aT ?_);(first|refine rG Γ hm ?_|refine rD Γ hm y_ ?_);conv=>whnf))
 refine⟨fun h=>?_,fun h=>?_⟩
 ·have h2:3<s.size:=qA h
  rw[if_pos (.inr (.inl h2))]at hlk
  subst hlk
  ((first|refine rG Γ hm ?_|refine rD Γ hm y_ ?_);(conv=>whnf);repeat((first|refine aF ?_|refine aT ?_);(first|refine rG Γ hm ?_|refine rD Γ hm y_ ?_);conv=>whnf))
  exact dN
 have h2:¬ 3<s.size:=qB h
 ((first|refine rG Γ hm ?_|refine rD Γ hm y_ ?_);(conv=>whnf);repeat((first|refine aF ?_|refine aT ?_);(first|refine rG Γ hm ?_|refine rD Γ hm y_ ?_);conv=>whnf))
 refine⟨fun h=>?_,fun h=>?_⟩
 ·have h3:1<s.size:=qA h
  ((first|refine rG Γ hm ?_|refine rD Γ hm y_ ?_);(conv=>whnf);repeat((first|refine aF ?_|refine aT ?_);(first|refine rG Γ hm ?_|refine rD Γ hm y_ ?_);conv=>whnf))
  refine⟨by decide,by simp;omega,?_⟩
  ((conv=>whnf);repeat((first|refine aF ?_|refine aT ?_);(first|refine rG Γ hm ?_|refine rD Γ hm y_ ?_);conv=>whnf))
  refine⟨fun h=>?_,fun h=>?_⟩
  ·have h4:(Ad s 0).toNat=48:=by have:=h;simp at this;omega
   rw[if_pos (.inr (.inr (.inl ⟨h3,h4⟩)))]at hlk
   subst hlk
   ((first|refine rG Γ hm ?_|refine rD Γ hm y_ ?_);(conv=>whnf);repeat((first|refine aF ?_|refine aT ?_);(first|refine rG Γ hm ?_|refine rD Γ hm y_ ?_);conv=>whnf))
   exact dN
  have h34:¬ (1<s.size∧(Ad s 0).toNat=48):=by
   intro e
   have:=h
   simp at this
   omega
  ((first|refine rG Γ hm ?_|refine rD Γ hm y_ ?_);(conv=>whnf);repeat((first|refine aF ?_|refine aT ?_);(first|refine rG Γ hm ?_|refine rD Γ hm y_ ?_);conv=>whnf))
  refine B3 s.size (fun j=>∀ i,i<j→Cc (Ad s i)=true) (fun j=>[(0,Ab s),(1,Aa most),(6,Aa (D6 s j)),(27,Aa s.size),(28,Aa j)]) (fun _=>[]) [] (fun i hi=>absurd hi j_) ⟨⟨q_,q_,q_,q_,q_,q_,q_,q_,q_,q_,z_⟩,z_,q_,q_⟩ ?_
  intro j hj hI
  have hv:=Mq hI
  have hp:(10:Int) ^ j≤1000:=by
   have:j=0∨j=1∨j=2∨j=3:=by omega
   rcases this with rfl | rfl | rfl | rfl<;>decide
  have hsu:D6 s (j+1)=10 * D6 s j+((Ad s j).toNat-48):=rfl
  have hjn:((j:Nat):Int).toNat=j:=Int.toNat_natCast j
  have hb:=(Ad s j).toNat_lt
  generalize hvj:D6 s j=v at *
  ((first|refine rG Γ hm ?_|refine rD Γ hm y_ ?_);(conv=>whnf);repeat((first|refine aF ?_|refine aT ?_);(first|refine rG Γ hm ?_|refine rD Γ hm y_ ?_);conv=>whnf))
  refine⟨fun h=>?_,fun h=>?_⟩
  ·have hlt:j<s.size:=by simpa using h
   ((first|refine rG Γ hm ?_|refine rD Γ hm y_ ?_);(conv=>whnf);repeat((first|refine aF ?_|refine aT ?_);(first|refine rG Γ hm ?_|refine rD Γ hm y_ ?_);conv=>whnf))
   refine⟨by omega,by simpa using hlt,?_⟩
   rw[hjn]
   ((conv=>whnf);repeat((first|refine aF ?_|refine aT ?_);(first|refine rG Γ hm ?_|refine rD Γ hm y_ ?_);conv=>whnf))
   refine⟨fun h=>?_,fun h=>?_⟩
   ·have h5:¬ 48≤(Ad s j).toNat:=qA h
    rw[if_pos (.inr (.inr (.inr (Ja hlt (by simp only[Cc,Bool.and_eq_false_iff,decide_eq_false_iff_not];exact .inl h5)))))]at hlk
    subst hlk
    ((first|refine rG Γ hm ?_|refine rD Γ hm y_ ?_);(conv=>whnf);repeat((first|refine aF ?_|refine aT ?_);(first|refine rG Γ hm ?_|refine rD Γ hm y_ ?_);conv=>whnf))
    exact dN
   have h5:48≤(Ad s j).toNat:=qB h
   ((first|refine rG Γ hm ?_|refine rD Γ hm y_ ?_);(conv=>whnf);repeat((first|refine aF ?_|refine aT ?_);(first|refine rG Γ hm ?_|refine rD Γ hm y_ ?_);conv=>whnf))
   refine⟨by omega,by simpa using hlt,?_⟩
   rw[hjn]
   ((conv=>whnf);repeat((first|refine aF ?_|refine aT ?_);(first|refine rG Γ hm ?_|refine rD Γ hm y_ ?_);conv=>whnf))
   refine⟨fun h=>?_,fun h=>?_⟩
   ·have h6:¬ (Ad s j).toNat≤57:=qA h
    rw[if_pos (.inr (.inr (.inr (Ja hlt (by simp only[Cc,Bool.and_eq_false_iff,decide_eq_false_iff_not];exact .inr h6)))))]at hlk
    subst hlk
    ((first|refine rG Γ hm ?_|refine rD Γ hm y_ ?_);(conv=>whnf);repeat((first|refine aF ?_|refine aT ?_);(first|refine rG Γ hm ?_|refine rD Γ hm y_ ?_);conv=>whnf))
    exact dN
   have h6:(Ad s j).toNat≤57:=qB h
   ((first|refine rG Γ hm ?_|refine rD Γ hm y_ ?_);(conv=>whnf);repeat((first|refine aF ?_|refine aT ?_);(first|refine rG Γ hm ?_|refine rD Γ hm y_ ?_);conv=>whnf))
   refine iL ?_
   ((conv=>whnf);repeat((first|refine aF ?_|refine aT ?_);(first|refine rG Γ hm ?_|refine rD Γ hm y_ ?_);conv=>whnf))
   refine⟨by omega,by simpa using hlt,?_⟩
   rw[hjn]
   ((conv=>whnf);repeat((first|refine aF ?_|refine aT ?_);(first|refine rG Γ hm ?_|refine rD Γ hm y_ ?_);conv=>whnf))
   rw[Afl h5 hb,Ahh j_ j_]
   refine iL ?_
   ((conv=>whnf);repeat((first|refine aF ?_|refine aT ?_);(first|refine rG Γ hm ?_|refine rD Γ hm y_ ?_);conv=>whnf))
   refine iL ?_
   ((conv=>whnf);repeat((first|refine aF ?_|refine aT ?_);(first|refine rG Γ hm ?_|refine rD Γ hm y_ ?_);conv=>whnf))
   refine B5 [] hI j_ (fun i hi=>?_) ⟨⟨q_,q_,q_,q_,congrArg Aa hsu,q_,q_,q_,q_,q_,z_⟩,z_,q_,q_⟩
   by_cases hij:i=j
   ·subst hij;exact digB_iff.2 ⟨h5,h6⟩
   ·exact hI i j_
  ·have:j=s.size:=qB h
   subst this
   rw[if_neg (by rw[K9 hI];simp only[h1,h2,false_or,Bool.true_eq_false,or_false];exact h34),hvj]at hlk
   subst hlk
   ((first|refine rG Γ hm ?_|refine rD Γ hm y_ ?_);(conv=>whnf);repeat((first|refine aF ?_|refine aT ?_);(first|refine rG Γ hm ?_|refine rD Γ hm y_ ?_);conv=>whnf))
   exact dN
 ·have h34:¬ (1<s.size∧(Ad s 0).toNat=48):=qB h
  ((first|refine rG Γ hm ?_|refine rD Γ hm y_ ?_);(conv=>whnf);repeat((first|refine aF ?_|refine aT ?_);(first|refine rG Γ hm ?_|refine rD Γ hm y_ ?_);conv=>whnf))
  refine B3 s.size (fun j=>∀ i,i<j→Cc (Ad s i)=true) (fun j=>[(0,Ab s),(1,Aa most),(6,Aa (D6 s j)),(27,Aa s.size),(28,Aa j)]) (fun _=>[]) [] (fun i hi=>absurd hi j_) ⟨⟨q_,q_,q_,q_,q_,q_,q_,q_,q_,q_,z_⟩,z_,q_,q_⟩ ?_
  intro j hj hI
  have hv:=Mq hI
  have hp:(10:Int) ^ j≤1000:=by
   have:j=0∨j=1∨j=2∨j=3:=by omega
   rcases this with rfl | rfl | rfl | rfl<;>decide
  have hsu:D6 s (j+1)=10 * D6 s j+((Ad s j).toNat-48):=rfl
  have hjn:((j:Nat):Int).toNat=j:=Int.toNat_natCast j
  have hb:=(Ad s j).toNat_lt
  generalize hvj:D6 s j=v at *
  ((first|refine rG Γ hm ?_|refine rD Γ hm y_ ?_);(conv=>whnf);repeat((first|refine aF ?_|refine aT ?_);(first|refine rG Γ hm ?_|refine rD Γ hm y_ ?_);conv=>whnf))
  refine⟨fun h=>?_,fun h=>?_⟩
  ·have hlt:j<s.size:=by simpa using h
   ((first|refine rG Γ hm ?_|refine rD Γ hm y_ ?_);(conv=>whnf);repeat((first|refine aF ?_|refine aT ?_);(first|refine rG Γ hm ?_|refine rD Γ hm y_ ?_);conv=>whnf))
   refine⟨by omega,by simpa using hlt,?_⟩
   rw[hjn]
   ((conv=>whnf);repeat((first|refine aF ?_|refine aT ?_);(first|refine rG Γ hm ?_|refine rD Γ hm y_ ?_);conv=>whnf))
   refine⟨fun h=>?_,fun h=>?_⟩
   ·have h5:¬ 48≤(Ad s j).toNat:=qA h
    rw[if_pos (.inr (.inr (.inr (Ja hlt (by simp only[Cc,Bool.and_eq_false_iff,decide_eq_false_iff_not];exact .inl h5)))))]at hlk
    subst hlk
    ((first|refine rG Γ hm ?_|refine rD Γ hm y_ ?_);(conv=>whnf);repeat((first|refine aF ?_|refine aT ?_);(first|refine rG Γ hm ?_|refine rD Γ hm y_ ?_);conv=>whnf))
    exact dN
   have h5:48≤(Ad s j).toNat:=qB h
   ((first|refine rG Γ hm ?_|refine rD Γ hm y_ ?_);(conv=>whnf);repeat((first|refine aF ?_|refine aT ?_);(first|refine rG Γ hm ?_|refine rD Γ hm y_ ?_);conv=>whnf))
   refine⟨by omega,by simpa using hlt,?_⟩
   rw[hjn]
   ((conv=>whnf);repeat((first|refine aF ?_|refine aT ?_);(first|refine rG Γ hm ?_|refine rD Γ hm y_ ?_);conv=>whnf))
   refine⟨fun h=>?_,fun h=>?_⟩
   ·have h6:¬ (Ad s j).toNat≤57:=qA h
    rw[if_pos (.inr (.inr (.inr (Ja hlt (by simp only[Cc,Bool.and_eq_false_iff,decide_eq_false_iff_not];exact .inr h6)))))]at hlk
    subst hlk
    ((first|refine rG Γ hm ?_|refine rD Γ hm y_ ?_);(conv=>whnf);repeat((first|refine aF ?_|refine aT ?_);(first|refine rG Γ hm ?_|refine rD Γ hm y_ ?_);conv=>whnf))
    exact dN
   have h6:(Ad s j).toNat≤57:=qB h
   ((first|refine rG Γ hm ?_|refine rD Γ hm y_ ?_);(conv=>whnf);repeat((first|refine aF ?_|refine aT ?_);(first|refine rG Γ hm ?_|refine rD Γ hm y_ ?_);conv=>whnf))
   refine iL ?_
   ((conv=>whnf);repeat((first|refine aF ?_|refine aT ?_);(first|refine rG Γ hm ?_|refine rD Γ hm y_ ?_);conv=>whnf))
   refine⟨by omega,by simpa using hlt,?_⟩
   rw[hjn]
   ((conv=>whnf);repeat((first|refine aF ?_|refine aT ?_);(first|refine rG Γ hm ?_|refine rD Γ hm y_ ?_);conv=>whnf))
   rw[Afl h5 hb,Ahh j_ j_]
   refine iL ?_
   ((conv=>whnf);repeat((first|refine aF ?_|refine aT ?_);(first|refine rG Γ hm ?_|refine rD Γ hm y_ ?_);conv=>whnf))
   refine iL ?_
   ((conv=>whnf);repeat((first|refine aF ?_|refine aT ?_);(first|refine rG Γ hm ?_|refine rD Γ hm y_ ?_);conv=>whnf))
   refine B5 [] hI j_ (fun i hi=>?_) ⟨⟨q_,q_,q_,q_,congrArg Aa hsu,q_,q_,q_,q_,q_,z_⟩,z_,q_,q_⟩
   by_cases hij:i=j
   ·subst hij;exact digB_iff.2 ⟨h5,h6⟩
   ·exact hI i j_
  ·have:j=s.size:=qB h
   subst this
   rw[if_neg (by rw[K9 hI];simp only[h1,h2,false_or,Bool.true_eq_false,or_false];exact h34),hvj]at hlk
   subst hlk
   ((first|refine rG Γ hm ?_|refine rD Γ hm y_ ?_);(conv=>whnf);repeat((first|refine aF ?_|refine aT ?_);(first|refine rG Γ hm ?_|refine rD Γ hm y_ ?_);conv=>whnf))
   exact dN
end Go.Sy.YtgblchnfjbkipaaGreatDoor
namespace Go.Sy.YtgblchnfjbkipaaGreatDoor
open Go.Proofs
def Lh {α:Type} (l:List α) (j:Nat):List α:=List.ofFn fun i:Fin l.length=>if i.1<j∨l.length-j≤i.1 then l[l.length-1-i.1] else l[i.1]
theorem Cv {α:Type} (l:List α) (j:Nat):(Lh l j).length=l.length:=by simp[Lh]
theorem I7 {α:Type} (l:List α) (j i:Nat) (h:i<l.length):(Lh l j)[i]'(by rw[Cv];exact h)=if i<j∨l.length-j≤i then l[l.length-1-i] else l[i]:=by simp[Lh]
theorem Vg {α:Type} (l:List α):Lh l 0=l:=by
 apply List.ext_getElem (Cv l 0)
 intro i h1 h2
 rw[I7 l 0 i h2,if_neg j_]
theorem Yi {α:Type} (l:List α) (j:Nat) (h:l.length≤2 * j+1):Lh l j=l.reverse:=by
 apply List.ext_getElem (by rw[Cv,List.length_reverse])
 intro i h1 h2
 have hi:i<l.length:=by rw[Cv]at h1;exact h1
 rw[I7 l j i hi,List.getElem_reverse]
 split
 ·rfl
 ·congr 1;omega
theorem Ady {α:Type} (l:List α) (j:Nat) (h:2 * j+1<l.length) :
  ((Lh l j).set j ((Lh l j)[l.length-1-j]'(by rw[Cv];omega))).set (l.length-1-j) ((Lh l j)[j]'(by rw[Cv];omega))=Lh l (j+1):=by
 apply List.ext_getElem (by simp only[List.length_set,Cv])
 intro i h1 h2
 have hi:i<l.length:=by rw[Cv]at h2;exact h2
 rw[List.getElem_set,List.getElem_set,I7 l (j+1) i hi,I7 l j i hi,I7 l j _ j_,I7 l j _ j_]
 by_cases e1:l.length-1-j=i
 ·rw[if_pos e1,if_neg j_,if_pos j_]
  congr 1;omega
 ·rw[if_neg e1]
  by_cases e2:j=i
  ·rw[if_pos e2,if_neg j_,if_pos j_]
   congr 1;omega
  ·rw[if_neg e2]
   by_cases e3:i<j∨l.length-j≤i
   ·rw[if_pos e3,if_pos j_]
   ·rw[if_neg e3,if_neg j_]
theorem Vh {α:Type} {l u:List α} {j k:Nat} (hu:Lh l j=u) (h:2 * j+1<l.length) (hk:l.length-1-j=k) (h1:k<u.length) (h2:j<u.length):(u.set j u[k]).set k u[j]=Lh l (j+1):=by
 subst hu hk
 exact Ady l j h
def revDigs (u:Nat):List UInt8:=if u<10 then [UInt8.ofNat (48+u)] else UInt8.ofNat (48+u % 10)::revDigs (u / 10)
theorem D2 (u:Nat):0<(revDigs u).length:=by
 rw[revDigs];split<;>simp
theorem Et:∀ (j u:Nat),j+1<(revDigs u).length↔0<u / 10 ^ (j+1)
 | 0,u=>by
  rw[revDigs]
  split
  ·simp;omega
  ·have:=D2 (u / 10)
   simp only[List.length_cons];omega
 | j+1,u=>by
  rw[revDigs]
  have e:u / 10 ^ (j+1+1)=u / 10 / 10 ^ (j+1):=by rw[Nat.div_div_eq_div_mul,Nat.pow_succ 10 (j+1),Nat.mul_comm (10 ^ (j+1))]
  rw[e]
  split
  ·have:u / 10=0:=by omega
   rw[this];simp
  ·rw[List.length_cons,← Et j (u / 10)];omega
theorem Ip:∀ (j u:Nat) (h:j<(revDigs u).length),(revDigs u)[j]=UInt8.ofNat (48+u / 10 ^ j % 10)
 | 0,u,h=>by
  have e:(revDigs u)[0]=UInt8.ofNat (48+u % 10):=by
   simp only[revDigs.eq_1 u]
   split
   ·show UInt8.ofNat (48+u)=UInt8.ofNat (48+u % 10)
    rw[Nat.mod_eq_of_lt (by assumption)]
   ·rfl
  rw[e];simp
 | j+1,u,h=>by
  have hu:¬ u<10:=fun hu=>by rw[revDigs,if_pos hu]at h;simp at h
  have e0:revDigs u=UInt8.ofNat (48+u % 10)::revDigs (u / 10):=by rw[revDigs.eq_1 u,if_neg hu]
  have e:u / 10 ^ (j+1)=u / 10 / 10 ^ j:=by rw[Nat.div_div_eq_div_mul,Nat.pow_succ,Nat.mul_comm]
  have hl:j<(revDigs (u / 10)).length:=by rw[e0]at h;simpa using h
  have:=Ip j (u / 10) hl
  rw[e,← this]
  simp only[e0,List.getElem_cons_succ]
theorem Bw:∀ (k u:Nat),u<10 ^ k→(revDigs u).length≤k+1
 | 0,u,h=>by rw[revDigs,if_pos (by simp at h;omega)];simp
 | k+1,u,h=>by
  rw[revDigs]
  split
  ·simp
  ·have:=Bw k (u / 10) (by rw[Nat.pow_succ]at h;omega)
   simp only[List.length_cons];omega
def Aek (n:Int):List UInt8:=(revDigs n.natAbs++(if n<0 then [45] else [])).reverse
def Al (n:Int):ByteArray:=mkT (Aek n)
theorem Tv (m:Nat):Aek m=(revDigs m).reverse:=by
 rw[Aek,Int.natAbs_natCast,if_neg j_,List.append_nil]
set_option maxRecDepth 20000 in
theorem Agz (m:Nat) (hb:m<9223372036854775808):Sy.Spec Tryz.prog 247 [Aa m] [] (Ab (Al m)) []:=cT F247 Tryz.ntmps247 fun F hF=>by
 have hpos:=D2 m
 have hlen:=fun j=>Et j m
 have hget:=fun j=>Ip j m
 have hsh:(revDigs m).length≤20:=Bw 19 m j_
 rw[Al,Tv]
 generalize revDigs m=D at *
 ((conv=>whnf);repeat((first|refine aF ?_|refine aT ?_);(first|refine rG Γ hm ?_|refine rD Γ hm y_ ?_);conv=>whnf))
 refine Ct 3 1000 1 Ak q_ q_ ?_
 refine Dk D.length (fun j=>[(0,Aa m),(3,.osl 1000),(4,Bh (m / 10 ^ j:Nat)),(5,Af (decide (j<D.length)))]) (fun j=>[(1000,.row 1 Ak (D.take j))]) []
  ⟨⟨rfl,rfl,rfl,rfl,congrArg (fun z=>SV.val (.int .u64 z)) (by rw[IntKind.wrap_u64];omega),rfl,congrArg Af (decide_eq_true hpos),rfl,trivial⟩,⟨.inl rfl,rfl,trivial⟩,rfl,rfl⟩ ?_
 intro j hj
 ((first|refine rG Γ hm ?_|refine rD Γ hm y_ ?_);(conv=>whnf);repeat((first|refine aF ?_|refine aT ?_);(first|refine rG Γ hm ?_|refine rD Γ hm y_ ?_);conv=>whnf))
 refine⟨fun h=>?_,fun h=>?_⟩
 ·have hlt:j<D.length:=of_decide_eq_true h
  have hgj:=hget j hlt
  have hlj:=hlen j
  have e:m / 10 ^ (j+1)=m / 10 ^ j / 10:=by rw[Nat.div_div_eq_div_mul,Nat.pow_succ]
  have hq:m / 10 ^ j≤m:=Nat.div_le_self _ _
  rw[e]at hlj
  ((first|refine rG Γ hm ?_|refine rD Γ hm y_ ?_);(conv=>whnf);repeat((first|refine aF ?_|refine aT ?_);(first|refine rG Γ hm ?_|refine rD Γ hm y_ ?_);conv=>whnf))
  refine⟨by decide,?_⟩
  ((conv=>whnf);repeat((first|refine aF ?_|refine aT ?_);(first|refine rG Γ hm ?_|refine rD Γ hm y_ ?_);conv=>whnf))
  refine Cq (Ai Γ.toTy 23 q_ q_ q_ q_ q_ (.row q_) (.lit (l:=[D[j]]) q_ ?_) qf ?_ ?_) q_ q_ ?_
  ·rw[hgj]
   simp only[List.map_cons,List.map_nil,Ak]
   congr 3
   generalize m / 10 ^ j=q at *
   rw[Int.tmod_eq_emod_of_nonneg (Int.natCast_nonneg _),IntKind.wrap_u64,IntKind.wrap_u8]
   simp
  ·simp;omega
  ·simp;omega
  ((first|refine rG Γ hm ?_|refine rD Γ hm y_ ?_);(conv=>whnf);repeat((first|refine aF ?_|refine aT ?_);(first|refine rG Γ hm ?_|refine rD Γ hm y_ ?_);conv=>whnf))
  refine⟨by decide,?_⟩
  ((conv=>whnf);repeat((first|refine aF ?_|refine aT ?_);(first|refine rG Γ hm ?_|refine rD Γ hm y_ ?_);conv=>whnf))
  refine Dr [(1000,23)] hlt ⟨⟨q_,q_,q_,q_,congrArg (fun z=>SV.val (.int .u64 z)) ?_,q_,congrArg Af ?_,q_,z_⟩,⟨.inl (congrArg (Ob.row 1 Ak) (List.take_succ_eq_append_getElem hlt)),q_,z_⟩,q_,q_⟩
  ·rw[e,Int.tdiv_eq_ediv_of_nonneg (Int.natCast_nonneg _),IntKind.wrap_u64]
   generalize m / 10 ^ j=q at *
   omega
  ·rw[Int.tdiv_eq_ediv_of_nonneg (Int.natCast_nonneg _),IntKind.wrap_u64]
   generalize m / 10 ^ j=q at *
   refine decide_eq_decide.2 ?_
   omega
 ·have:j=D.length:=qB h
  subst this
  rw[List.take_length]
  ((first|refine rG Γ hm ?_|refine rD Γ hm y_ ?_);(conv=>whnf);repeat((first|refine aF ?_|refine aT ?_);(first|refine rG Γ hm ?_|refine rD Γ hm y_ ?_);conv=>whnf))
  refine iL ?_
  ((conv=>whnf);repeat((first|refine aF ?_|refine aT ?_);(first|refine rG Γ hm ?_|refine rD Γ hm y_ ?_);conv=>whnf))
  refine Dk (D.length / 2) (fun j=>[(3,.osl 1000),(6,Aa j),(7,Aa (D.length-1-j:Nat))]) (fun j=>[(1000,.row 1 Ak (Lh D j))]) []
   ⟨⟨rfl,rfl,rfl,rfl,congrArg (fun z=>SV.val (.int .i64 z)) j_,rfl,trivial⟩,⟨.inl (congrArg (Ob.row 1 Ak) (Vg D)),rfl,trivial⟩,rfl,rfl⟩ ?_
  intro i hi
  have hul:=Cv D i
  ((first|refine rG Γ hm ?_|refine rD Γ hm y_ ?_);(conv=>whnf);repeat((first|refine aF ?_|refine aT ?_);(first|refine rG Γ hm ?_|refine rD Γ hm y_ ?_);conv=>whnf))
  refine⟨fun h2=>?_,fun h2=>?_⟩
  ·have hlt:2 * i+1<D.length:=by have:=of_decide_eq_true h2;omega
   obtain ⟨u,hu⟩:∃ u,Lh D i=u:=⟨_,rfl⟩
   obtain ⟨k,hk⟩:∃ k,D.length-1-i=k:=⟨_,rfl⟩
   rw[hu]at hul
   have hs:=Vh hu hlt hk j_ j_
   rw[hu,hk]
   ((first|refine rG Γ hm ?_|refine rD Γ hm y_ ?_);(conv=>whnf);repeat((first|refine aF ?_|refine aT ?_);(first|refine rG Γ hm ?_|refine rD Γ hm y_ ?_);conv=>whnf))
   refine⟨by omega,by omega,?_⟩
   ((conv=>whnf);repeat((first|refine aF ?_|refine aT ?_);(first|refine rG Γ hm ?_|refine rD Γ hm y_ ?_);conv=>whnf))
   refine⟨q_,by omega,?_⟩
   ((conv=>whnf);repeat((first|refine aF ?_|refine aT ?_);(first|refine rG Γ hm ?_|refine rD Γ hm y_ ?_);conv=>whnf))
   refine⟨by omega,by omega,?_⟩
   ((conv=>whnf);repeat((first|refine aF ?_|refine aT ?_);(first|refine rG Γ hm ?_|refine rD Γ hm y_ ?_);conv=>whnf))
   refine⟨q_,by omega,?_⟩
   ((conv=>whnf);repeat((first|refine aF ?_|refine aT ?_);(first|refine rG Γ hm ?_|refine rD Γ hm y_ ?_);conv=>whnf))
   refine⟨by omega,by omega,?_⟩
   ((conv=>whnf);repeat((first|refine aF ?_|refine aT ?_);(first|refine rG Γ hm ?_|refine rD Γ hm y_ ?_);conv=>whnf))
   refine⟨q_,by omega,u[k],q_,q_,?_⟩
   ((conv=>whnf);repeat((first|refine aF ?_|refine aT ?_);(first|refine rG Γ hm ?_|refine rD Γ hm y_ ?_);conv=>whnf))
   refine⟨by omega,by simp;omega,?_⟩
   ((conv=>whnf);repeat((first|refine aF ?_|refine aT ?_);(first|refine rG Γ hm ?_|refine rD Γ hm y_ ?_);conv=>whnf))
   refine⟨q_,by simp;omega,u[i],q_,q_,?_⟩
   ((conv=>whnf);repeat((first|refine aF ?_|refine aT ?_);(first|refine rG Γ hm ?_|refine rD Γ hm y_ ?_);conv=>whnf))
   refine⟨y_,?_⟩
   ((conv=>whnf);repeat((first|refine aF ?_|refine aT ?_);(first|refine rG Γ hm ?_|refine rD Γ hm y_ ?_);conv=>whnf))
   refine iL ?_
   ((conv=>whnf);repeat((first|refine aF ?_|refine aT ?_);(first|refine rG Γ hm ?_|refine rD Γ hm y_ ?_);conv=>whnf))
   refine iL ?_
   ((conv=>whnf);repeat((first|refine aF ?_|refine aT ?_);(first|refine rG Γ hm ?_|refine rD Γ hm y_ ?_);conv=>whnf))
   refine Dr [] j_ ⟨⟨q_,q_,q_,q_,congrArg (fun z=>SV.val (.int .i64 z)) j_,q_,z_⟩,⟨.inl (congrArg (Ob.row 1 Ak) hs.symm),q_,z_⟩,q_,q_⟩
  ·have h3:D.length≤2 * i+1:=by have:=of_decide_eq_false h2;omega
   rw[Yi D i h3]
   ((first|refine rG Γ hm ?_|refine rD Γ hm y_ ?_);(conv=>whnf);repeat((first|refine aF ?_|refine aT ?_);(first|refine rG Γ hm ?_|refine rD Γ hm y_ ?_);conv=>whnf))
   refine Cq (Bk Γ.toTy (bs:=D.reverse) q_ q_ q_ q_ q_ q_ q_ (.row q_)) q_ q_ ?_
   ((first|refine rG Γ hm ?_|refine rD Γ hm y_ ?_);(conv=>whnf);repeat((first|refine aF ?_|refine aT ?_);(first|refine rG Γ hm ?_|refine rD Γ hm y_ ?_);conv=>whnf))
   exact dN
end Go.Sy.YtgblchnfjbkipaaGreatDoor
namespace Go.Sy.YtgblchnfjbkipaaGreatDoor
open Go.Proofs
attribute [local irreducible] Go.Sy.G Go.Sy.DR
set_option maxRecDepth 20000
set_option maxHeartbeats 4000000
theorem Abx (m:Nat) (h:m<10 ^ 18):(Aek m).length≤19:=by
 rw[Tv,List.length_reverse];exact Bw 18 m h
theorem Ke (a b:ByteArray):(a++b).size=a.size+b.size:=by simp
end Go.Sy.YtgblchnfjbkipaaGreatDoor
namespace Go.Sy
def Z9 (C:Cx) {β:Type} (I:β→Prop) (L:β→List (Nat × SV)) (O:β→Obs) (μ:β→Nat) (x:β) (a:Act) (w:World):Prop :=
 ∃ x':{y:β // I y},∃ κ,μ x'.1<μ x∧St C.F C.n (mkS (L x'.1) (O x'.1)) κ a w
theorem Av {C:Cx} {k:List KI} {s:SS} {body:Code} {β:Type} (I:β→Prop) (L:β→List (Nat × SV)) (O:β→Obs) (μ:β→Nat) (x₀:β) (ρ:List (Nat × Nat)) (h0:I x₀) (hsub:Sub C s ρ (L x₀) (O x₀))
  (h:∀ x,I x→G C (.code body::.inv (Z9 C I L O μ x)::k) (mkS (L x) (O x))):G C (.code (.loop body)::k) s :=
 Acq (α:={y:β // I y}) (fun x=>L x.1) (fun x=>O x.1) (fun x=>μ x.1) ⟨x₀,h0⟩ ρ hsub (fun x=>h x.1 x.2)
theorem Ag {C:Cx} {k:List KI} {s:SS} {β:Type} {I:β→Prop} {L:β→List (Nat × SV)} {O:β→Obs} {μ:β→Nat} {x:β} (x':β) (ρ:List (Nat × Nat)) (h':I x') (hμ:μ x'<μ x) (hsub:Sub C s ρ (L x') (O x')) :
  G C (.inv (Z9 C I L O μ x)::k) s:=fun _ _ _ hs=>⟨⟨x',h'⟩,_,hμ,hsub.st hs⟩
theorem Ah6 {C:Cx} {kk:List KI} {s:SS} (k d:Nat) {sz:Nat} {α:Type} {e:α→SV} {l:List α} (h:s.h k=.row sz e l) (hd:s.h d=.fresh) (hkd:k≠d)
  (hg:G C kk ⟨fun i=>frz k (.osl d) (s.σ i),upd (fun j=>bif Nat.beq j k then .non else Ae2 k (.osl d) (s.h j)) d (.row sz e l)⟩):G C kk s:=fun κ a w hs=>by
 have hob:=hs.obj k
 rw[h]at hob
 have hnew:κ d=.new:=by have:=hs.obj d;rwa [hd]at this
 have fin:∀ κ':Ka,(∀ j,j≠k→j≠d→κ' j=κ j)→Step (fun j=>j=k∨j=d) κ w κ' w→Inv κ' w→(∀ v,Rd κ w (.osl k) v→Rd κ' w (.osl d) v)→ObOK κ' w d (.row sz e l)→den C.P C.B kk .normal a w:=by
  intro κ' hne st inv hv ho
  refine hg κ' a w ⟨hs.defers,hs.size,inv,hs.ctx.step inv st,fun j=>Xq st hv _ _ (hs.slot j),fun j=>?_⟩
  show ObOK κ' w j (upd (fun j=>bif Nat.beq j k then .non else Ae2 k (.osl d) (s.h j)) d (.row sz e l) j)
  by_cases hj:j=d
  ·subst hj;rw[Cd];exact ho
  ·rw[C6 _ _ hj]
   by_cases hj2:j=k
   ·subst hj2;rw[show Nat.beq j j=true from Nat.beq_refl j];trivial
   ·rw[show Nat.beq j k=false from by cases hb:Nat.beq j k with | false=>rfl | true=>exact absurd (Nat.eq_of_beq_eq_true hb) hj2]
    have hb:=ObOK.step st (fun e=>e.elim hj2 hj) _ (hs.obj j)
    have h0:=hs.obj j
    show ObOK κ' w j (Ae2 k (.osl d) (s.h j))
    cases hh:s.h j with
    | box m =>
     rw[hh]at h0 hb
     obtain ⟨b,cs,T,fr,e1,e2,e3,e4,e5⟩:=h0
     exact⟨b,cs,T,fr,(hne j hj2 hj).trans e1,e2,e3,e4,Jt st hv m cs e5⟩
    | fresh=>rw[hh]at hb;exact hb
    | non=>rw[hh]at hb;exact hb
    | row sz' e' l'=>rw[hh]at hb;exact hb
    | lit sz' svs=>rw[hh]at hb;exact hb
    | glob sz' x' g'=>rw[hh]at hb;exact hb
    | pin b' n' cap' sz' e' l'=>rw[hh]at hb;exact hb
    | dat v' sz' e' l'=>rw[hh]at hb;exact hb
 rcases hob with ⟨h1,rfl⟩ | ⟨b,cap,cs,T,fr,e1,e2,e3,e4,e5,e6⟩
 ·have st:=Eg (Ht hs.inv (some k)) (by show Dy κ k .dead d=.new;rw[B4 _ _ (Ne.symm hkd)];exact hnew) (e:=.nil) (Grew.refl w) (fun b hb=>by cases hb)
  refine fin _ (fun j h1 h2=>by rw[B4 _ _ h2];exact B4 _ _ h1) (((Er (some k)).weaken (fun j hj=>.inl (Option.some.inj hj).symm)).trans (st.1.weaken (fun j hj=>.inr hj))) st.2 (fun v hv=>?_) (.inl ⟨Am _ _ _,q_⟩)
  simp only[Rd,h1]at hv
  simp[Rd,Am,hv]
 ·obtain ⟨st,inv⟩:=Ox (n':=l.length) (w':=w) hs.inv e1 hnew rfl rfl rfl rfl (fun _ _=>rfl)
  refine fin _ (fun j h1 h2=>by rw[B4 _ _ h2];exact B4 _ _ h1) st inv (fun v hv=>?_) (.inr ⟨b,cap,cs,T,fr,Am _ _ _,e2,e3,e4,e5,fun i x hx=>?_⟩)
  ·simp only[Rd,e1]at hv
   simp[Rd,Am,hv]
  ·obtain ⟨q1,u,q2,q3⟩:=e6 i x hx
   exact⟨q1,u,RdD.keep st.keeps _ _ q2,q3⟩
theorem C7 {C:Cx} {k:List KI} {s:SS} (d:Nat) {sz:Nat} {α:Type} (e:α→SV) (l:List α) {svs:List SV} (h:s.h d=.lit sz svs) (hl:l.map e=svs) (hg:G C k ⟨s.σ,upd s.h d (.row sz e l)⟩):G C k s:=fun κ a w hs=>by
 refine hg κ a w ⟨hs.defers,hs.size,hs.inv,hs.ctx,hs.slot,fun j=>?_⟩
 show ObOK κ w j (upd s.h d (.row sz e l) j)
 by_cases hj:j=d
 ·subst hj
  rw[Cd]
  have hob:=hs.obj j
  rw[h]at hob
  have hlen:l.length=svs.length:=by rw[← hl,List.length_map]
  obtain ⟨b,cap,cs,T,fr,e1,e2,e3,e4,e5,e6⟩:=hob
  exact .inr ⟨b,cap,cs,T,fr,by rw[hlen];exact e1,e2,e3,e4,by omega,fun i x hx=>by rw[hlen];exact e6 i x (M3 hl i x hx)⟩
 ·rw[C6 _ _ hj];exact hs.obj j
end Go.Sy
namespace Go.Sy.YtgblchnfjbkipaaGreatDoor
open Go.Proofs
theorem Afq (n:Nat) (h:n<1000000000000000000):IntKind.i64.wrap ((n:Int).tdiv 10)=((n / 10:Nat):Int):=by
 rw[Int.tdiv_eq_ediv_of_nonneg j_,IntKind.wrap_i64];omega
theorem Wk (n:Nat):(n:Int).tmod 10=((n % 10:Nat):Int):=by
 rw[Int.tmod_eq_emod_of_nonneg j_];omega
theorem Ae6 (n:Nat):IntKind.u8.wrap (48+((n % 10:Nat):Int))=((UInt8.ofNat (48+n % 10)).toNat:Int):=by
 rw[IntKind.wrap_u8]
 simp
theorem Io (n:Nat):(revDigs n).reverse=(if n<10 then [] else (revDigs (n / 10)).reverse)++[UInt8.ofNat (48+n % 10)]:=by
 rw[revDigs.eq_1 n]
 split
 ·rw[Nat.mod_eq_of_lt (by assumption)];rfl
 ·rw[List.reverse_cons]
theorem Eo (l:List ByteArray) (sep:ByteArray):(Bn l sep).size≤Ea l+sep.size * l.length:=by
 have:=Acz (l.map (·.data.toList)) sep.data.toList
 have e:(l.map (·.data.toList)).map (·.length)=l.map (·.size):=by
  rw[List.map_map]
  apply List.map_congr_left
  intro a _
  rfl
 rw[e,List.length_map]at this
 have e2:(Bn l sep).size=(Lib.join (l.map (·.data.toList)) sep.data.toList).length:=by simp[Bn,ByteArray.size]
 rw[e2]
 exact this
theorem Aei {n:Int} (h:0≤n∧n<1000000000000000000):(Al n).size≤19:=by
 obtain ⟨m,rfl⟩:=Int.eq_ofNat_of_zero_le h.1
 rw[Al,Ax]
 exact Abx m j_
end Go.Sy.YtgblchnfjbkipaaGreatDoor
namespace Go.Sy.YtgblchnfjbkipaaGreatDoor
open Go.Proofs
attribute [local irreducible] Go.Sy.G Go.Sy.DR
set_option maxRecDepth 20000
set_option maxHeartbeats 4000000
theorem D4 (a b:List UInt8):mkT a++mkT b=mkT (a++b):=by
 apply Dm
 simp[mkT]
theorem C4 (m:Nat):Al m=mkT (revDigs m).reverse:=by rw[Al,Tv]
theorem Hj (m:Nat) (hmm:m<1000000000000000000):Sy.Spec Tryz.prog 358 [Aa m] [] (Ab (Al m)) []:=cT F358 Tryz.ntmps358 fun F hF=>by
 have hlen:(revDigs m).length≤19:=Bw 18 m j_
 rw[C4]
 obtain ⟨D,hD⟩:∃ D,(revDigs m).reverse=D:=⟨_,rfl⟩
 have hDl:D.length≤19:=by rw[← hD,List.length_reverse];exact hlen
 rw[hD]
 ((conv=>whnf);repeat((first|refine aF ?_|refine aT ?_);(first|refine rG Γ hm ?_|refine rD Γ hm y_ ?_);conv=>whnf))
 refine Av (fun x:Nat × List UInt8=>D=(revDigs x.1).reverse++x.2∧x.1≤m) (fun x=>[(0,Aa x.1),(3,Ab (mkT x.2))]) (fun _=>[]) (fun x=>x.1) (m,[]) [] ⟨by rw[List.append_nil];exact hD.symm,Nat.le_refl _⟩ ⟨⟨q_,q_,q_,q_,z_⟩,z_,q_,q_⟩ ?_
 clear hD
 rintro ⟨u,t⟩ ⟨hD,hu⟩
 dsimp only at hD hu ⊢
 have htl:t.length≤19:=by rw[hD,List.length_append]at hDl;omega
 have hts:(mkT t).size≤19:=by rw[Ax];exact htl
 have hr:=Io u
 ((first|refine rG Γ hm ?_|refine rD Γ hm y_ ?_);(conv=>whnf);repeat((first|refine aF ?_|refine aT ?_);(first|refine rG Γ hm ?_|refine rD Γ hm y_ ?_);conv=>whnf))
 refine⟨fun h=>?_,fun h=>?_⟩
 ·have h1:¬ u<10:=qA h
  rw[if_neg h1]at hr
  ((first|refine rG Γ hm ?_|refine rD Γ hm y_ ?_);(conv=>whnf);repeat((first|refine aF ?_|refine aT ?_);(first|refine rG Γ hm ?_|refine rD Γ hm y_ ?_);conv=>whnf))
  refine⟨by decide,?_⟩
  ((conv=>whnf);repeat((first|refine aF ?_|refine aT ?_);(first|refine rG Γ hm ?_|refine rD Γ hm y_ ?_);conv=>whnf))
  rw[Wk u]
  refine iL ?_
  ((conv=>whnf);repeat((first|refine aF ?_|refine aT ?_);(first|refine rG Γ hm ?_|refine rD Γ hm y_ ?_);conv=>whnf))
  rw[Ae6 u]
  refine Cq (Bk Γ.toTy (bs:=[UInt8.ofNat (48+u % 10)]) q_ q_ q_ q_ q_ q_ q_ (.lit (e:=Ak) (l:=[UInt8.ofNat (48+u % 10)]) q_ q_)) q_ q_ ?_
  ((first|refine rG Γ hm ?_|refine rD Γ hm y_ ?_);(conv=>whnf);repeat((first|refine aF ?_|refine aT ?_);(first|refine rG Γ hm ?_|refine rD Γ hm y_ ?_);conv=>whnf))
  refine⟨by show 1+(mkT t).size≤_;omega,?_⟩
  ((conv=>whnf);repeat((first|refine aF ?_|refine aT ?_);(first|refine rG Γ hm ?_|refine rD Γ hm y_ ?_);conv=>whnf))
  refine⟨by decide,?_⟩
  ((conv=>whnf);repeat((first|refine aF ?_|refine aT ?_);(first|refine rG Γ hm ?_|refine rD Γ hm y_ ?_);conv=>whnf))
  rw[Afq u j_]
  refine Ag (u / 10,UInt8.ofNat (48+u % 10)::t) [] ⟨by rw[hD,hr];simp,by dsimp only;omega⟩ (by dsimp only;omega) ⟨⟨q_,q_,congrArg Ab ?_,q_,z_⟩,z_,q_,q_⟩
  exact D4 [_] t
 ·have h1:u<10:=qB h
  rw[if_pos h1,List.nil_append]at hr
  have hd:=Ae6 u
  rw[Nat.mod_eq_of_lt h1]at hr hd
  ((first|refine rG Γ hm ?_|refine rD Γ hm y_ ?_);(conv=>whnf);repeat((first|refine aF ?_|refine aT ?_);(first|refine rG Γ hm ?_|refine rD Γ hm y_ ?_);conv=>whnf))
  refine iL ?_
  ((conv=>whnf);repeat((first|refine aF ?_|refine aT ?_);(first|refine rG Γ hm ?_|refine rD Γ hm y_ ?_);conv=>whnf))
  rw[hd]
  refine Cq (Bk Γ.toTy (bs:=[UInt8.ofNat (48+u)]) q_ q_ q_ q_ q_ q_ q_ (.lit (e:=Ak) (l:=[UInt8.ofNat (48+u)]) q_ q_)) q_ q_ ?_
  ((first|refine rG Γ hm ?_|refine rD Γ hm y_ ?_);(conv=>whnf);repeat((first|refine aF ?_|refine aT ?_);(first|refine rG Γ hm ?_|refine rD Γ hm y_ ?_);conv=>whnf))
  refine⟨by show 1+(mkT t).size≤_;omega,?_⟩
  ((conv=>whnf);repeat((first|refine aF ?_|refine aT ?_);(first|refine rG Γ hm ?_|refine rD Γ hm y_ ?_);conv=>whnf))
  refine Bv q_ (.cons .tmp .nil) (congrArg Ab ?_) q_
  rw[hD,hr]
  exact(D4 [_] t).symm
theorem Afm (n:Nat) (h:n<1000000000000000000):IntKind.u64.wrap ((n:Int).tdiv 10)=((n / 10:Nat):Int):=by
 rw[Int.tdiv_eq_ediv_of_nonneg j_,IntKind.wrap_u64];omega
theorem Abb (m:Nat) (hmm:m<1000000000000000000):Sy.Spec Tryz.prog 355 [Bh m] [] (Ab (Al m)) []:=cT F355 Tryz.ntmps355 fun F hF=>by
 have hlen:(revDigs m).length≤19:=Bw 18 m j_
 rw[C4]
 obtain ⟨D,hD⟩:∃ D,(revDigs m).reverse=D:=⟨_,rfl⟩
 have hDl:D.length≤19:=by rw[← hD,List.length_reverse];exact hlen
 rw[hD]
 ((conv=>whnf);repeat((first|refine aF ?_|refine aT ?_);(first|refine rG Γ hm ?_|refine rD Γ hm y_ ?_);conv=>whnf))
 refine Av (fun x:Nat × List UInt8=>D=(revDigs x.1).reverse++x.2∧x.1≤m) (fun x=>[(0,Bh x.1),(3,Ab (mkT x.2))]) (fun _=>[]) (fun x=>x.1) (m,[]) [] ⟨by rw[List.append_nil];exact hD.symm,Nat.le_refl _⟩ ⟨⟨q_,q_,q_,q_,z_⟩,z_,q_,q_⟩ ?_
 clear hD
 rintro ⟨u,t⟩ ⟨hD,hu⟩
 dsimp only at hD hu ⊢
 have htl:t.length≤19:=by rw[hD,List.length_append]at hDl;omega
 have hts:(mkT t).size≤19:=by rw[Ax];exact htl
 have hr:=Io u
 ((first|refine rG Γ hm ?_|refine rD Γ hm y_ ?_);(conv=>whnf);repeat((first|refine aF ?_|refine aT ?_);(first|refine rG Γ hm ?_|refine rD Γ hm y_ ?_);conv=>whnf))
 refine⟨fun h=>?_,fun h=>?_⟩
 ·have h1:¬ u<10:=qA h
  rw[if_neg h1]at hr
  ((first|refine rG Γ hm ?_|refine rD Γ hm y_ ?_);(conv=>whnf);repeat((first|refine aF ?_|refine aT ?_);(first|refine rG Γ hm ?_|refine rD Γ hm y_ ?_);conv=>whnf))
  refine⟨by decide,?_⟩
  ((conv=>whnf);repeat((first|refine aF ?_|refine aT ?_);(first|refine rG Γ hm ?_|refine rD Γ hm y_ ?_);conv=>whnf))
  rw[Wk u]
  have hd:IntKind.u8.wrap (IntKind.u64.wrap (48+((u % 10:Nat):Int)))=((UInt8.ofNat (48+u % 10)).toNat:Int):=by
   rw[show IntKind.u64.wrap (48+((u % 10:Nat):Int))=48+((u % 10:Nat):Int) by rw[IntKind.wrap_u64];omega]
   exact Ae6 u
  rw[hd]
  refine Cq (Bk Γ.toTy (bs:=[UInt8.ofNat (48+u % 10)]) q_ q_ q_ q_ q_ q_ q_ (.lit (e:=Ak) (l:=[UInt8.ofNat (48+u % 10)]) q_ q_)) q_ q_ ?_
  ((first|refine rG Γ hm ?_|refine rD Γ hm y_ ?_);(conv=>whnf);repeat((first|refine aF ?_|refine aT ?_);(first|refine rG Γ hm ?_|refine rD Γ hm y_ ?_);conv=>whnf))
  refine⟨by show 1+(mkT t).size≤_;omega,?_⟩
  ((conv=>whnf);repeat((first|refine aF ?_|refine aT ?_);(first|refine rG Γ hm ?_|refine rD Γ hm y_ ?_);conv=>whnf))
  refine⟨by decide,?_⟩
  ((conv=>whnf);repeat((first|refine aF ?_|refine aT ?_);(first|refine rG Γ hm ?_|refine rD Γ hm y_ ?_);conv=>whnf))
  rw[Afm u j_]
  refine Ag (u / 10,UInt8.ofNat (48+u % 10)::t) [] ⟨by rw[hD,hr];simp,by dsimp only;omega⟩ (by dsimp only;omega) ⟨⟨q_,q_,congrArg Ab ?_,q_,z_⟩,z_,q_,q_⟩
  exact D4 [_] t
 ·have h1:u<10:=qB h
  rw[if_pos h1,List.nil_append]at hr
  have hd:IntKind.u8.wrap (IntKind.u64.wrap (48+((u % 10:Nat):Int)))=((UInt8.ofNat (48+u % 10)).toNat:Int):=by
   rw[show IntKind.u64.wrap (48+((u % 10:Nat):Int))=48+((u % 10:Nat):Int) by rw[IntKind.wrap_u64];omega]
   exact Ae6 u
  rw[Nat.mod_eq_of_lt h1]at hr hd
  ((first|refine rG Γ hm ?_|refine rD Γ hm y_ ?_);(conv=>whnf);repeat((first|refine aF ?_|refine aT ?_);(first|refine rG Γ hm ?_|refine rD Γ hm y_ ?_);conv=>whnf))
  rw[hd]
  refine Cq (Bk Γ.toTy (bs:=[UInt8.ofNat (48+u)]) q_ q_ q_ q_ q_ q_ q_ (.lit (e:=Ak) (l:=[UInt8.ofNat (48+u)]) q_ q_)) q_ q_ ?_
  ((first|refine rG Γ hm ?_|refine rD Γ hm y_ ?_);(conv=>whnf);repeat((first|refine aF ?_|refine aT ?_);(first|refine rG Γ hm ?_|refine rD Γ hm y_ ?_);conv=>whnf))
  refine⟨by show 1+(mkT t).size≤_;omega,?_⟩
  ((conv=>whnf);repeat((first|refine aF ?_|refine aT ?_);(first|refine rG Γ hm ?_|refine rD Γ hm y_ ?_);conv=>whnf))
  refine Bv q_ (.cons .tmp .nil) (congrArg Ab ?_) q_
  rw[hD,hr]
  exact(D4 [_] t).symm
theorem Iq (m:Nat) (hmm:m<1000000000000000000):Sy.Spec Tryz.prog 306 [Aa m] [] (Ab (Al m)) []:=cT F306 Tryz.ntmps306 fun F hF=>by
 have q:=Abb m hmm
 ((conv=>whnf);repeat((first|refine aF ?_|refine aT ?_);(first|refine rG Γ hm ?_|refine rD Γ hm y_ ?_);conv=>whnf))
 rw[show IntKind.u64.wrap (m:Int)=m by rw[IntKind.wrap_u64];omega]
 refine c0 q F355 ?_
 ((first|refine rG Γ hm ?_|refine rD Γ hm y_ ?_);(conv=>whnf);repeat((first|refine aF ?_|refine aT ?_);(first|refine rG Γ hm ?_|refine rD Γ hm y_ ?_);conv=>whnf))
 exact dN
end Go.Sy.YtgblchnfjbkipaaGreatDoor
namespace Go.Sy.YtgblchnfjbkipaaGreatDoor
open Go.Proofs
theorem Zb (m:Nat) (h:0<m):Aek (-(m:Int))=(revDigs m++[45]).reverse:=by
 rw[Aek,if_pos j_]
 have:(-(m:Int)).natAbs=m:=by omega
 rw[this]
set_option maxRecDepth 20000 in
theorem Y7 (m:Nat) (h0:0<m) (hb:m≤9223372036854775808):Sy.Spec Tryz.prog 247 [Aa (-(m:Int))] [] (Ab (Al (-(m:Int)))) []:=cT F247 Tryz.ntmps247 fun F hF=>by
 have hpos:=D2 m
 have hlen:=fun j=>Et j m
 have hget:=fun j=>Ip j m
 have hsh:(revDigs m).length≤20:=Bw 19 m j_
 have w1:IntKind.u64.wrap (0-IntKind.u64.wrap (-(m:Int)))=m:=by rw[IntKind.wrap_u64,IntKind.wrap_u64];omega
 rw[Al,Zb m h0]
 generalize revDigs m=D at *
 ((conv=>whnf);repeat((first|refine aF ?_|refine aT ?_);(first|refine rG Γ hm ?_|refine rD Γ hm y_ ?_);conv=>whnf))
 refine⟨fun _=>?_,fun h=>absurd (of_decide_eq_false h) j_⟩
 refine Ct 3 1000 1 Ak q_ q_ ?_
 ((first|refine rG Γ hm ?_|refine rD Γ hm y_ ?_);(conv=>whnf);repeat((first|refine aF ?_|refine aT ?_);(first|refine rG Γ hm ?_|refine rD Γ hm y_ ?_);conv=>whnf))
 refine Dk D.length (fun j=>[(0,Aa (-(m:Int))),(3,.osl 1000),(4,Bh (m / 10 ^ j:Nat)),(5,Af (decide (j<D.length)))]) (fun j=>[(1000,.row 1 Ak (D.take j))]) []
  ⟨⟨rfl,rfl,rfl,rfl,congrArg (fun z=>SV.val (.int .u64 z)) (by simpa using w1.symm),rfl,congrArg Af (decide_eq_true hpos),rfl,trivial⟩,⟨.inl rfl,rfl,trivial⟩,rfl,rfl⟩ ?_
 intro j hj
 ((first|refine rG Γ hm ?_|refine rD Γ hm y_ ?_);(conv=>whnf);repeat((first|refine aF ?_|refine aT ?_);(first|refine rG Γ hm ?_|refine rD Γ hm y_ ?_);conv=>whnf))
 refine⟨fun h=>?_,fun h=>?_⟩
 ·have hlt:j<D.length:=of_decide_eq_true h
  have hgj:=hget j hlt
  have hlj:=hlen j
  have e:m / 10 ^ (j+1)=m / 10 ^ j / 10:=by rw[Nat.div_div_eq_div_mul,Nat.pow_succ]
  have hq:m / 10 ^ j≤m:=Nat.div_le_self _ _
  rw[e]at hlj
  ((first|refine rG Γ hm ?_|refine rD Γ hm y_ ?_);(conv=>whnf);repeat((first|refine aF ?_|refine aT ?_);(first|refine rG Γ hm ?_|refine rD Γ hm y_ ?_);conv=>whnf))
  refine⟨by decide,?_⟩
  ((conv=>whnf);repeat((first|refine aF ?_|refine aT ?_);(first|refine rG Γ hm ?_|refine rD Γ hm y_ ?_);conv=>whnf))
  refine Cq (Ai Γ.toTy 23 q_ q_ q_ q_ q_ (.row q_) (.lit (l:=[D[j]]) q_ ?_) qf ?_ ?_) q_ q_ ?_
  ·rw[hgj]
   simp only[List.map_cons,List.map_nil,Ak]
   congr 3
   generalize m / 10 ^ j=q at *
   rw[Int.tmod_eq_emod_of_nonneg (Int.natCast_nonneg _),IntKind.wrap_u64,IntKind.wrap_u8]
   simp
  ·simp;omega
  ·simp;omega
  ((first|refine rG Γ hm ?_|refine rD Γ hm y_ ?_);(conv=>whnf);repeat((first|refine aF ?_|refine aT ?_);(first|refine rG Γ hm ?_|refine rD Γ hm y_ ?_);conv=>whnf))
  refine⟨by decide,?_⟩
  ((conv=>whnf);repeat((first|refine aF ?_|refine aT ?_);(first|refine rG Γ hm ?_|refine rD Γ hm y_ ?_);conv=>whnf))
  refine Dr [(1000,23)] hlt ⟨⟨q_,q_,q_,q_,congrArg (fun z=>SV.val (.int .u64 z)) ?_,q_,congrArg Af ?_,q_,z_⟩,⟨.inl (congrArg (Ob.row 1 Ak) (List.take_succ_eq_append_getElem hlt)),q_,z_⟩,q_,q_⟩
  ·rw[e,Int.tdiv_eq_ediv_of_nonneg (Int.natCast_nonneg _),IntKind.wrap_u64]
   generalize m / 10 ^ j=q at *
   omega
  ·rw[Int.tdiv_eq_ediv_of_nonneg (Int.natCast_nonneg _),IntKind.wrap_u64]
   generalize m / 10 ^ j=q at *
   refine decide_eq_decide.2 ?_
   omega
 ·have:j=D.length:=qB h
  subst this
  rw[List.take_length]
  ((first|refine rG Γ hm ?_|refine rD Γ hm y_ ?_);(conv=>whnf);repeat((first|refine aF ?_|refine aT ?_);(first|refine rG Γ hm ?_|refine rD Γ hm y_ ?_);conv=>whnf))
  refine⟨fun _=>?_,fun h=>absurd (of_decide_eq_false h) j_⟩
  ((first|refine rG Γ hm ?_|refine rD Γ hm y_ ?_);(conv=>whnf);repeat((first|refine aF ?_|refine aT ?_);(first|refine rG Γ hm ?_|refine rD Γ hm y_ ?_);conv=>whnf))
  refine Cq (Ai Γ.toTy 30 q_ q_ q_ q_ q_ (.row q_) (.lit (e:=Ak) (l:=[45]) q_ q_) qf (by simp;omega) (by simp;omega)) q_ q_ ?_
  have hDl:(D++[45]).length=D.length+1:=by simp
  generalize D++[45]=D at *
  ((first|refine rG Γ hm ?_|refine rD Γ hm y_ ?_);(conv=>whnf);repeat((first|refine aF ?_|refine aT ?_);(first|refine rG Γ hm ?_|refine rD Γ hm y_ ?_);conv=>whnf))
  refine iL ?_
  ((conv=>whnf);repeat((first|refine aF ?_|refine aT ?_);(first|refine rG Γ hm ?_|refine rD Γ hm y_ ?_);conv=>whnf))
  refine Dk (D.length / 2) (fun j=>[(3,.osl 1000),(6,Aa j),(7,Aa (D.length-1-j:Nat))]) (fun j=>[(1000,.row 1 Ak (Lh D j))]) [(1000,30)]
   ⟨⟨rfl,rfl,rfl,rfl,congrArg (fun z=>SV.val (.int .i64 z)) j_,rfl,trivial⟩,⟨.inl (congrArg (Ob.row 1 Ak) (Vg D)),rfl,trivial⟩,rfl,rfl⟩ ?_
  intro i hi
  have hul:=Cv D i
  ((first|refine rG Γ hm ?_|refine rD Γ hm y_ ?_);(conv=>whnf);repeat((first|refine aF ?_|refine aT ?_);(first|refine rG Γ hm ?_|refine rD Γ hm y_ ?_);conv=>whnf))
  refine⟨fun h2=>?_,fun h2=>?_⟩
  ·have hlt:2 * i+1<D.length:=by have:=of_decide_eq_true h2;omega
   obtain ⟨u,hu⟩:∃ u,Lh D i=u:=⟨_,rfl⟩
   obtain ⟨k,hk⟩:∃ k,D.length-1-i=k:=⟨_,rfl⟩
   rw[hu]at hul
   have hs:=Vh hu hlt hk j_ j_
   rw[hu,hk]
   ((first|refine rG Γ hm ?_|refine rD Γ hm y_ ?_);(conv=>whnf);repeat((first|refine aF ?_|refine aT ?_);(first|refine rG Γ hm ?_|refine rD Γ hm y_ ?_);conv=>whnf))
   refine⟨by omega,by omega,?_⟩
   ((conv=>whnf);repeat((first|refine aF ?_|refine aT ?_);(first|refine rG Γ hm ?_|refine rD Γ hm y_ ?_);conv=>whnf))
   refine⟨q_,by omega,?_⟩
   ((conv=>whnf);repeat((first|refine aF ?_|refine aT ?_);(first|refine rG Γ hm ?_|refine rD Γ hm y_ ?_);conv=>whnf))
   refine⟨by omega,by omega,?_⟩
   ((conv=>whnf);repeat((first|refine aF ?_|refine aT ?_);(first|refine rG Γ hm ?_|refine rD Γ hm y_ ?_);conv=>whnf))
   refine⟨q_,by omega,?_⟩
   ((conv=>whnf);repeat((first|refine aF ?_|refine aT ?_);(first|refine rG Γ hm ?_|refine rD Γ hm y_ ?_);conv=>whnf))
   refine⟨by omega,by omega,?_⟩
   ((conv=>whnf);repeat((first|refine aF ?_|refine aT ?_);(first|refine rG Γ hm ?_|refine rD Γ hm y_ ?_);conv=>whnf))
   refine⟨q_,by omega,u[k],q_,q_,?_⟩
   ((conv=>whnf);repeat((first|refine aF ?_|refine aT ?_);(first|refine rG Γ hm ?_|refine rD Γ hm y_ ?_);conv=>whnf))
   refine⟨by omega,by simp;omega,?_⟩
   ((conv=>whnf);repeat((first|refine aF ?_|refine aT ?_);(first|refine rG Γ hm ?_|refine rD Γ hm y_ ?_);conv=>whnf))
   refine⟨q_,by simp;omega,u[i],q_,q_,?_⟩
   ((conv=>whnf);repeat((first|refine aF ?_|refine aT ?_);(first|refine rG Γ hm ?_|refine rD Γ hm y_ ?_);conv=>whnf))
   refine⟨y_,?_⟩
   ((conv=>whnf);repeat((first|refine aF ?_|refine aT ?_);(first|refine rG Γ hm ?_|refine rD Γ hm y_ ?_);conv=>whnf))
   refine iL ?_
   ((conv=>whnf);repeat((first|refine aF ?_|refine aT ?_);(first|refine rG Γ hm ?_|refine rD Γ hm y_ ?_);conv=>whnf))
   refine iL ?_
   ((conv=>whnf);repeat((first|refine aF ?_|refine aT ?_);(first|refine rG Γ hm ?_|refine rD Γ hm y_ ?_);conv=>whnf))
   refine Dr [] j_ ⟨⟨q_,q_,q_,q_,congrArg (fun z=>SV.val (.int .i64 z)) j_,q_,z_⟩,⟨.inl (congrArg (Ob.row 1 Ak) hs.symm),q_,z_⟩,q_,q_⟩
  ·have h3:D.length≤2 * i+1:=by have:=of_decide_eq_false h2;omega
   rw[Yi D i h3]
   ((first|refine rG Γ hm ?_|refine rD Γ hm y_ ?_);(conv=>whnf);repeat((first|refine aF ?_|refine aT ?_);(first|refine rG Γ hm ?_|refine rD Γ hm y_ ?_);conv=>whnf))
   refine Cq (Bk Γ.toTy (bs:=D.reverse) q_ q_ q_ q_ q_ q_ q_ (.row q_)) q_ q_ ?_
   ((first|refine rG Γ hm ?_|refine rD Γ hm y_ ?_);(conv=>whnf);repeat((first|refine aF ?_|refine aT ?_);(first|refine rG Γ hm ?_|refine rD Γ hm y_ ?_);conv=>whnf))
   exact dN
end Go.Sy.YtgblchnfjbkipaaGreatDoor
namespace Go.Sy.YtgblchnfjbkipaaGreatDoor
open Go.Proofs
attribute [local irreducible] Go.Sy.G Go.Sy.DR
set_option maxRecDepth 20000
set_option maxHeartbeats 4000000
def Dq (n:Int):Prop:=-9223372036854775808≤n∧n<9223372036854775808
theorem Ag0 (m:Nat) (h:0<m):Al (-(m:Int))=⟨#[45]⟩++Al (m:Int):=by
 rw[Al,Zb m h,C4,List.reverse_append]
 exact(D4 [45] _).symm
theorem D3 {n:Int} (h:Dq n):(Al n).size≤22:=by
 have hs:∀ m:Nat,m<10 ^ 20→(Al (m:Int)).size≤21:=fun m hm2=>by
  rw[C4,Ax,List.length_reverse];exact Bw 20 m hm2
 unfold Dq at h
 by_cases h0:0≤n
 ·obtain ⟨m,rfl⟩:=Int.eq_ofNat_of_zero_le h0
  have:=hs m j_
  omega
 ·obtain ⟨m,hmn⟩:∃ m:Nat,n=-(m:Int):=⟨n.natAbs,by omega⟩
  subst hmn
  have:=hs m j_
  rw[Ag0 m j_,ByteArray.size_append]
  show 1+_≤22
  omega
theorem Bi (n:Int) (h:Dq n):Sy.Spec Tryz.prog 247 [Aa n] [] (Ab (Al n)) []:=by
 unfold Dq at h
 by_cases h0:0≤n
 ·obtain ⟨m,rfl⟩:=Int.eq_ofNat_of_zero_le h0
  exact Agz m j_
 ·obtain ⟨m,hmn⟩:∃ m:Nat,n=-(m:Int):=⟨n.natAbs,by omega⟩
  subst hmn
  exact Y7 m j_ j_
end Go.Sy.YtgblchnfjbkipaaGreatDoor
