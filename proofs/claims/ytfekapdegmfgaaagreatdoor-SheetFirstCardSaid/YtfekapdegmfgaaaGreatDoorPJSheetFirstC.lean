/- Parts of the proof of JSheetFirst: laws of walks, contracts of functions, plain models. No condition. -/
import Derived.Shelf.Strings.Builder1
import Derived.Shelf.Strings.Builder2
import Derived.Shelf.Strings.OnBuilder
import Derived.Shelf.Strings.Trim
import Derived.Shelf.Small.Utf8
import Derived.Shelf.Small.Bits
import Derived.Shelf.Small.Strs
import Derived.Shelf.Small.Wraps
import Derived.Shelf.Strings.BuilderF
import Derived.Shelf.Utf8.RuneCount
import Derived.Shelf.Strconv.Atoi
import Derived.Shelf.Strconv.Itoa0
import Derived.Shelf.Strconv.Itoa1
import Derived.Shelf.LaysM
import Derived.Shelf.Strconv.Itoa2
import Derived.Shelf.Strconv.Itoa3
import Derived.Shelf.Strconv.AtoiErrFast
import Derived.Shelf.Strconv.ParseIntEmpty
import Derived.Shelf.Strconv.AtoiFail
import Derived.Shelf.Strconv.Clone
import Derived.Shelf.Strconv.SyntaxError
import Derived.Shelf.LaysC
import Derived.Shelf.Strconv.ToError
import Derived.Shelf.Strconv.Lower
import Derived.Shelf.Strconv.ParseUint10
import Derived.Shelf.Strconv.ParseUint10Empty
import Derived.Shelf.Strconv.ParseUint10Any
import Derived.Shelf.Strconv.ParseInt10
import Derived.Shelf.Strconv.AtoiLong
import Derived.Shelf.Strconv.AtoiInnerAll
import Derived.Shelf.Strconv.RangeError
import Derived.Shelf.Strconv.ToErrorRange
import Derived.Shelf.Strconv.AtoiAll
import Derived.Shelf.Strconv.ErrVarAll
import Derived.Shelf.Strings.Search1
import Derived.Shelf.Strings.Search2
import Derived.Shelf.Strings.Search3
import Derived.Shelf.Strings.Cut
import Derived.Shelf.Strings.Count
import Derived.Shelf.Strings.Shaped
import Derived.Shelf.Strings.Prefix
import Derived.Shelf.Strings.Split
import Derived.Shelf.Strings.SplitShaped
import Derived.Shelf.Unicode.Decode
import Derived.Shelf.Strings.Runes
import Derived.Shelf.Strings.RuneCount
import Derived.Shelf.Strings.AsciiSet
import Derived.Shelf.Strings.Explode
import Derived.Shelf.Bits.Mul64
import Derived.Shelf.Strings.Repeat
import Derived.Shelf.Unicode.DecodeSlow
import Derived.Shelf.Unicode.DecodeAny
import Derived.Shelf.Unicode.DecodeLast
import Derived.Shelf.Strings.FieldsFuncAny
import Derived.Shelf.Slices.Turned
import Derived.Ground.Names2Prog
import Derived.Shelf.Slices.Clone
import Derived.Shelf.Slices.SearchI
import Derived.Ground.SlgnProg
import Derived.Shelf.SlicesE.Clone
import Derived.Test.YtfekapdegmfgaaaGreatDoorProg
import Derived.WalkKit
import Derived.RangeFuncNested
import Derived.IntWalk
import Derived.Lib.Strings
import Derived.Laws.Cells
import Derived.Laws.CopyRow
import Derived.Laws.OwnMore
import Derived.Laws.MakeOwn
import Derived.Great.BuildSlice
import Derived.Laws.StructEq
import Derived.Laws.CopyOwn
import Derived.Maps.Keyed
import Derived.Lib.ConvBytes
import Derived.Laws.BytesArg
import Derived.CallsIn
import Derived.Test.YtfekapdegmfgaaaGreatDoorPJSheetFirstB
set_option linter.unusedVariables false
set_option linter.unusedSimpArgs false
set_option linter.unnecessarySimpa false
set_option maxRecDepth 100000
section
namespace Go.Proofs
open Go.Shelf
def Tryz.lays156_ren:Go.Shelf.Ren:=⟨fun | 156=>50 | 165=>140 | 166=>141 | 169=>142 | 240=>202 | 241=>203 | 276=>252 | 277=>253 | n=>n,fun | 31=>55 | 9=>9 | 3=>3 | 4=>4 | 0=>0 | 20=>20 | 72=>235 | 76=>239 | 70=>233 | 37=>48 | 75=>238 | 127=>293 | 164=>323 | 5=>5 | 80=>241 | n=>n,fun | n=>n⟩
theorem Tryz.lays156:Go.Proofs.Lays.n156 Tryz.prog Tryz.lays156_ren:={
 mixed:=by kernel_rfl
 f156:=func50.trans (congrArg some (by kernel_rfl))
 f165:=func140.trans (congrArg some (by kernel_rfl))
 f166:=func141.trans (congrArg some (by kernel_rfl))
 f169:=func142.trans (congrArg some (by kernel_rfl))
 f240:=func202.trans (congrArg some (by kernel_rfl))
 f241:=func203.trans (congrArg some (by kernel_rfl))
 f276:=func252.trans (congrArg some (by kernel_rfl))
 f277:=func253.trans (congrArg some (by kernel_rfl))
 t0:=Tryz.underlying0
 a0:=Tryz.isAgg0
 z0:=Tryz.sizeOf0
 v0:=Tryz.zeroValue0
 t3:=Tryz.underlying3
 a3:=Tryz.isAgg3
 z3:=Tryz.sizeOf3
 v3:=Tryz.zeroValue3
 t4:=Tryz.underlying4
 a4:=Tryz.isAgg4
 z4:=Tryz.sizeOf4
 v4:=Tryz.zeroValue4
 t9:=Tryz.underlying9
 a9:=Tryz.isAgg9
 z9:=Tryz.sizeOf9
 v9:=Tryz.zeroValue9
 t20:=Tryz.underlying20
 a20:=Tryz.isAgg20
 z20:=Tryz.sizeOf20
 v20:=Tryz.zeroValue20
 t31:=Tryz.underlying55
 a31:=Tryz.isAgg55
 z31:=Tryz.sizeOf55
 v31:=Tryz.zeroValue55
 t37:=Tryz.underlying48
 a37:=Tryz.isAgg48
 z37:=Tryz.sizeOf48
 v37:=Tryz.zeroValue48
 t70:=Tryz.underlying233
 a70:=Tryz.isAgg233
 z70:=Tryz.sizeOf233
 v70:=Tryz.zeroValue233
 t72:=Tryz.underlying235
 a72:=Tryz.isAgg235
 z72:=Tryz.sizeOf235
 v72:=Tryz.zeroValue235
 t75:=Tryz.underlying238
 a75:=Tryz.isAgg238
 z75:=Tryz.sizeOf238
 v75:=Tryz.zeroValue238
 t76:=Tryz.underlying239
 a76:=Tryz.isAgg239
 z76:=Tryz.sizeOf239
 v76:=Tryz.zeroValue239
 t127:=Tryz.underlying293
 a127:=Tryz.isAgg293
 z127:=Tryz.sizeOf293
 v127:=Tryz.zeroValue293
 t164:=Tryz.underlying323
 a164:=Tryz.isAgg323
 z164:=Tryz.sizeOf323
 v164:=Tryz.zeroValue323 }
theorem Tryz.Builder_Extra_156:Builder.Extra Tryz.prog Tryz.lays156_ren:={
 sizeBuilder:=by kernel_rfl
 liesBuilder:=by kernel_rfl
 t5:=Tryz.underlying5
 a5:=Tryz.isAgg5
 z5:=Tryz.sizeOf5
 v5:=Tryz.zeroValue5
 infoByte:=by kernel_rfl
 cellsByte:=by kernel_rfl
 sizeByte:=by kernel_rfl
 neB5:=by decide }
open Go.RowKit in
theorem Tryz.strings_Join_none(a:Option Addr)(c:Nat)(sep:ByteArray)(w:World) :
  Calls Tryz.prog 50 #[.slice a 0 c,.string sep] w fun e w'=>e = .returned (.string ⟨#[]⟩)∧w'=w:=Any.strings_Join_none Tryz.lays156 Tryz.Builder_Extra_156 a c sep w
open Go.RowKit in
theorem Tryz.strings_Join(bk o c:Nat)(xs:List ByteArray)(sep:ByteArray)(w:World)(hcells:∀ (j:Nat) x,xs[j]? = some x→w.cell? ⟨bk,o+j,none⟩=some (.string x))(hbk:bk<w.heap.size)(hN:xs.length≤140737488355328)(hcap:xs.length≤c)(hlen:(Lib.join (xs.map (·.data.toList)) sep.data.toList).length≤140737488355328) :
  Calls Tryz.prog 50 #[.slice (some ⟨bk,o,none⟩) xs.length c,.string sep] w fun e w'=>e = .returned (.string ⟨(Lib.join (xs.map (·.data.toList)) sep.data.toList).toArray⟩)∧Below w.heap.size w w':=Any.strings_Join Tryz.lays156 Tryz.Builder_Extra_156 bk o c xs sep w hcells hbk hN hcap hlen
def Tryz.lays125_ren:Go.Shelf.Ren:=⟨fun | 125=>201 | 128=>250 | 129=>251 | n=>n,fun | 46=>264 | 3=>3 | 51=>203 | 53=>305 | 4=>4 | 5=>5 | 9=>9 | n=>n,fun | n=>n⟩
theorem Tryz.lays125:Go.Proofs.Lays.n125 Tryz.prog Tryz.lays125_ren:={
 mixed:=by kernel_rfl
 f125:=func201.trans (congrArg some (by kernel_rfl))
 f128:=func250.trans (congrArg some (by kernel_rfl))
 f129:=func251.trans (congrArg some (by kernel_rfl))
 t3:=Tryz.underlying3
 a3:=Tryz.isAgg3
 z3:=Tryz.sizeOf3
 v3:=Tryz.zeroValue3
 t4:=Tryz.underlying4
 a4:=Tryz.isAgg4
 z4:=Tryz.sizeOf4
 v4:=Tryz.zeroValue4
 t5:=Tryz.underlying5
 a5:=Tryz.isAgg5
 z5:=Tryz.sizeOf5
 v5:=Tryz.zeroValue5
 t9:=Tryz.underlying9
 a9:=Tryz.isAgg9
 z9:=Tryz.sizeOf9
 v9:=Tryz.zeroValue9
 t46:=Tryz.underlying264
 a46:=Tryz.isAgg264
 z46:=Tryz.sizeOf264
 v46:=Tryz.zeroValue264
 t51:=Tryz.underlying203
 a51:=Tryz.isAgg203
 z51:=Tryz.sizeOf203
 v51:=Tryz.zeroValue203
 t53:=Tryz.underlying305
 a53:=Tryz.isAgg305
 z53:=Tryz.sizeOf305
 v53:=Tryz.zeroValue305 }
theorem Tryz.bits_Len(x:Int)(w:World)(h0:0≤x)(h1:x≤18446744073709551615) :
  Calls Tryz.prog 201 #[.int .u64 x] w fun e w'=>e = .returned (.int .i64 (Lib.bitLen x.toNat))∧w'=w:=Any.bits_Len Tryz.lays125 x w h0 h1
def Tryz.laysM171_ren:Go.Shelf.Ren:=⟨fun | 171=>120 | 243=>186 | 246=>223 | 283=>274 | 284=>275 | 285=>276 | 286=>277 | 129=>251 | 317=>300 | 318=>301 | 319=>302 | 320=>303 | 337=>310 | 338=>311 | n=>n,fun | 3=>3 | 9=>9 | 2=>2 | 4=>4 | 171=>340 | 0=>0 | 53=>305 | 37=>48 | 5=>5 | 173=>342 | 212=>363 | 51=>203 | 20=>20 | 213=>364 | 46=>264 | 232=>383 | 233=>384 | n=>n,fun | 17=>1 | 18=>6 | 19=>7 | n=>n⟩
theorem Tryz.laysM171:Go.Proofs.LaysM.n171 Tryz.prog Tryz.laysM171_ren:={
 mixed:=by kernel_rfl
 f129:=func251.trans (congrArg some (by kernel_rfl))
 f171:=func120.trans (congrArg some (by kernel_rfl))
 f243:=func186.trans (congrArg some (by kernel_rfl))
 f246:=func223.trans (congrArg some (by kernel_rfl))
 f283:=func274.trans (congrArg some (by kernel_rfl))
 f284:=func275.trans (congrArg some (by kernel_rfl))
 f285:=func276.trans (congrArg some (by kernel_rfl))
 f286:=func277.trans (congrArg some (by kernel_rfl))
 f317:=func300.trans (congrArg some (by kernel_rfl))
 f318:=func301.trans (congrArg some (by kernel_rfl))
 f319:=func302.trans (congrArg some (by kernel_rfl))
 f320:=func303.trans (congrArg some (by kernel_rfl))
 f337:=func310.trans (congrArg some (by kernel_rfl))
 f338:=func311.trans (congrArg some (by kernel_rfl))
 t0:=Tryz.underlying0
 a0:=Tryz.isAgg0
 z0:=Tryz.sizeOf0
 v0:=Tryz.zeroValue0
 t2:=Tryz.underlying2
 a2:=Tryz.isAgg2
 z2:=Tryz.sizeOf2
 v2:=Tryz.zeroValue2
 t3:=Tryz.underlying3
 a3:=Tryz.isAgg3
 z3:=Tryz.sizeOf3
 v3:=Tryz.zeroValue3
 t4:=Tryz.underlying4
 a4:=Tryz.isAgg4
 z4:=Tryz.sizeOf4
 v4:=Tryz.zeroValue4
 t5:=Tryz.underlying5
 a5:=Tryz.isAgg5
 z5:=Tryz.sizeOf5
 v5:=Tryz.zeroValue5
 t9:=Tryz.underlying9
 a9:=Tryz.isAgg9
 z9:=Tryz.sizeOf9
 v9:=Tryz.zeroValue9
 t20:=Tryz.underlying20
 a20:=Tryz.isAgg20
 z20:=Tryz.sizeOf20
 v20:=Tryz.zeroValue20
 t37:=Tryz.underlying48
 a37:=Tryz.isAgg48
 z37:=Tryz.sizeOf48
 v37:=Tryz.zeroValue48
 t46:=Tryz.underlying264
 a46:=Tryz.isAgg264
 z46:=Tryz.sizeOf264
 v46:=Tryz.zeroValue264
 t51:=Tryz.underlying203
 a51:=Tryz.isAgg203
 z51:=Tryz.sizeOf203
 v51:=Tryz.zeroValue203
 t53:=Tryz.underlying305
 a53:=Tryz.isAgg305
 z53:=Tryz.sizeOf305
 v53:=Tryz.zeroValue305
 t171:=Tryz.underlying340
 a171:=Tryz.isAgg340
 z171:=Tryz.sizeOf340
 v171:=Tryz.zeroValue340
 t173:=Tryz.underlying342
 a173:=Tryz.isAgg342
 z173:=Tryz.sizeOf342
 v173:=Tryz.zeroValue342
 t212:=Tryz.underlying363
 a212:=Tryz.isAgg363
 z212:=Tryz.sizeOf363
 v212:=Tryz.zeroValue363
 t213:=Tryz.underlying364
 a213:=Tryz.isAgg364
 z213:=Tryz.sizeOf364
 t232:=Tryz.underlying383
 a232:=Tryz.isAgg383
 z232:=Tryz.sizeOf383
 v232:=Tryz.zeroValue383
 t233:=Tryz.underlying384
 a233:=Tryz.isAgg384
 z233:=Tryz.sizeOf384
 v233:=Tryz.zeroValue384
 g17:=by kernel_rfl
 g18:=by kernel_rfl
 g19:=by kernel_rfl
 i0:=by kernel_rfl
 i2:=by kernel_rfl
 i3:=by kernel_rfl
 i4:=by kernel_rfl
 i5:=by kernel_rfl
 i9:=by kernel_rfl
 i20:=by kernel_rfl
 i37:=by kernel_rfl
 i46:=by kernel_rfl
 i51:=by kernel_rfl
 i53:=by kernel_rfl
 i171:=by kernel_rfl
 i173:=by kernel_rfl
 i212:=by kernel_rfl
 i232:=by kernel_rfl
 i233:=by kernel_rfl
 m17:=by kernel_rfl
 m18:=by kernel_rfl
 m19:=by kernel_rfl }
open Go.RowKit Go.Sort Go.Lib in
theorem Tryz.strconv_Itoa(n : Int)(h0 : -9223372036854775808 ≤ n)(h1 : n ≤ 9223372036854775807)(w : World)(htab : Lib.TabIs Tryz.prog w "internal/strconv.uint64pow10" .u64 Lib.pow10Tab) :
  Calls Tryz.prog 120 #[.int .i64 n] w fun e w'=>e = .returned (.string ⟨(Lib.itoa n).toArray⟩)∧∃ k os,w'=grow (w.drewN k) os:=Any.strconv_Itoa Tryz.laysM171 n h0 h1 w htab
def Tryz.laysC172_ren:Go.Shelf.Ren:=⟨fun | 172=>198 | 244=>240 | 245=>241 | 247=>282 | 279=>283 | 280=>284 | 281=>285 | 282=>286 | 287=>304 | 316=>305 | 171=>120 | 205=>306 | 321=>312 | 322=>313 | 243=>186 | 246=>223 | 283=>274 | 284=>275 | 285=>276 | 286=>277 | 129=>251 | 317=>300 | 318=>301 | 319=>302 | 320=>303 | 337=>310 | 338=>311 | n=>n,fun | 9=>9 | 3=>3 | 75=>238 | 76=>239 | 4=>4 | 5=>5 | 167=>346 | 37=>48 | 0=>0 | 85=>347 | 2=>2 | 168=>349 | 53=>305 | 175=>369 | 46=>264 | 210=>372 | 127=>293 | 145=>382 | 143=>380 | 21=>21 | 171=>340 | 173=>342 | 212=>363 | 51=>203 | 20=>20 | 213=>364 | 232=>383 | 233=>384 | 80=>241 | n=>n,fun | 15=>4 | 16=>5 | 17=>1 | 18=>6 | 19=>7 | n=>n⟩
theorem Tryz.laysC172:Go.Proofs.LaysC.n172 Tryz.prog Tryz.laysC172_ren:={
 mixed:=by kernel_rfl
 f129:=func251.trans (congrArg some (by kernel_rfl))
 f171:=func120.trans (congrArg some (by kernel_rfl))
 f172:=func198.trans (congrArg some (by kernel_rfl))
 f205:=func306.trans (congrArg some (by kernel_rfl))
 f243:=func186.trans (congrArg some (by kernel_rfl))
 f244:=func240.trans (congrArg some (by kernel_rfl))
 f245:=func241.trans (congrArg some (by kernel_rfl))
 f246:=func223.trans (congrArg some (by kernel_rfl))
 f247:=func282.trans (congrArg some (by kernel_rfl))
 f279:=func283.trans (congrArg some (by kernel_rfl))
 f280:=func284.trans (congrArg some (by kernel_rfl))
 f281:=func285.trans (congrArg some (by kernel_rfl))
 f282:=func286.trans (congrArg some (by kernel_rfl))
 f283:=func274.trans (congrArg some (by kernel_rfl))
 f284:=func275.trans (congrArg some (by kernel_rfl))
 f285:=func276.trans (congrArg some (by kernel_rfl))
 f286:=func277.trans (congrArg some (by kernel_rfl))
 f287:=func304.trans (congrArg some (by kernel_rfl))
 f316:=func305.trans (congrArg some (by kernel_rfl))
 f317:=func300.trans (congrArg some (by kernel_rfl))
 f318:=func301.trans (congrArg some (by kernel_rfl))
 f319:=func302.trans (congrArg some (by kernel_rfl))
 f320:=func303.trans (congrArg some (by kernel_rfl))
 f321:=func312.trans (congrArg some (by kernel_rfl))
 f322:=func313.trans (congrArg some (by kernel_rfl))
 f337:=func310.trans (congrArg some (by kernel_rfl))
 f338:=func311.trans (congrArg some (by kernel_rfl))
 t0:=Tryz.underlying0
 a0:=Tryz.isAgg0
 z0:=Tryz.sizeOf0
 v0:=Tryz.zeroValue0
 t2:=Tryz.underlying2
 a2:=Tryz.isAgg2
 z2:=Tryz.sizeOf2
 v2:=Tryz.zeroValue2
 t3:=Tryz.underlying3
 a3:=Tryz.isAgg3
 z3:=Tryz.sizeOf3
 v3:=Tryz.zeroValue3
 t4:=Tryz.underlying4
 a4:=Tryz.isAgg4
 z4:=Tryz.sizeOf4
 v4:=Tryz.zeroValue4
 t5:=Tryz.underlying5
 a5:=Tryz.isAgg5
 z5:=Tryz.sizeOf5
 v5:=Tryz.zeroValue5
 t9:=Tryz.underlying9
 a9:=Tryz.isAgg9
 z9:=Tryz.sizeOf9
 v9:=Tryz.zeroValue9
 t20:=Tryz.underlying20
 a20:=Tryz.isAgg20
 z20:=Tryz.sizeOf20
 v20:=Tryz.zeroValue20
 t21:=Tryz.underlying21
 a21:=Tryz.isAgg21
 z21:=Tryz.sizeOf21
 v21:=Tryz.zeroValue21
 t37:=Tryz.underlying48
 a37:=Tryz.isAgg48
 z37:=Tryz.sizeOf48
 v37:=Tryz.zeroValue48
 t46:=Tryz.underlying264
 a46:=Tryz.isAgg264
 z46:=Tryz.sizeOf264
 v46:=Tryz.zeroValue264
 t51:=Tryz.underlying203
 a51:=Tryz.isAgg203
 z51:=Tryz.sizeOf203
 v51:=Tryz.zeroValue203
 t53:=Tryz.underlying305
 a53:=Tryz.isAgg305
 z53:=Tryz.sizeOf305
 v53:=Tryz.zeroValue305
 t75:=Tryz.underlying238
 a75:=Tryz.isAgg238
 z75:=Tryz.sizeOf238
 v75:=Tryz.zeroValue238
 t76:=Tryz.underlying239
 a76:=Tryz.isAgg239
 z76:=Tryz.sizeOf239
 v76:=Tryz.zeroValue239
 t85:=Tryz.underlying347
 a85:=Tryz.isAgg347
 z85:=Tryz.sizeOf347
 v85:=Tryz.zeroValue347
 t127:=Tryz.underlying293
 a127:=Tryz.isAgg293
 z127:=Tryz.sizeOf293
 v127:=Tryz.zeroValue293
 t143:=Tryz.underlying380
 a143:=Tryz.isAgg380
 z143:=Tryz.sizeOf380
 v143:=Tryz.zeroValue380
 t145:=Tryz.underlying382
 a145:=Tryz.isAgg382
 z145:=Tryz.sizeOf382
 v145:=Tryz.zeroValue382
 t167:=Tryz.underlying346
 a167:=Tryz.isAgg346
 z167:=Tryz.sizeOf346
 v167:=Tryz.zeroValue346
 t168:=Tryz.underlying349
 a168:=Tryz.isAgg349
 z168:=Tryz.sizeOf349
 v168:=Tryz.zeroValue349
 t171:=Tryz.underlying340
 a171:=Tryz.isAgg340
 z171:=Tryz.sizeOf340
 v171:=Tryz.zeroValue340
 t173:=Tryz.underlying342
 a173:=Tryz.isAgg342
 z173:=Tryz.sizeOf342
 v173:=Tryz.zeroValue342
 t175:=Tryz.underlying369
 a175:=Tryz.isAgg369
 z175:=Tryz.sizeOf369
 v175:=Tryz.zeroValue369
 t210:=Tryz.underlying372
 a210:=Tryz.isAgg372
 z210:=Tryz.sizeOf372
 v210:=Tryz.zeroValue372
 t212:=Tryz.underlying363
 a212:=Tryz.isAgg363
 z212:=Tryz.sizeOf363
 v212:=Tryz.zeroValue363
 t213:=Tryz.underlying364
 a213:=Tryz.isAgg364
 z213:=Tryz.sizeOf364
 t232:=Tryz.underlying383
 a232:=Tryz.isAgg383
 z232:=Tryz.sizeOf383
 v232:=Tryz.zeroValue383
 t233:=Tryz.underlying384
 a233:=Tryz.isAgg384
 z233:=Tryz.sizeOf384
 v233:=Tryz.zeroValue384
 g15:=by kernel_rfl
 g16:=by kernel_rfl
 g17:=by kernel_rfl
 g18:=by kernel_rfl
 g19:=by kernel_rfl
 t80:=Tryz.underlying241
 a80:=Tryz.isAgg241
 z80:=Tryz.sizeOf241
 v80:=Tryz.zeroValue241
 i0:=by kernel_rfl
 i2:=by kernel_rfl
 i3:=by kernel_rfl
 i4:=by kernel_rfl
 i5:=by kernel_rfl
 i9:=by kernel_rfl
 i20:=by kernel_rfl
 i21:=by kernel_rfl
 i37:=by kernel_rfl
 i46:=by kernel_rfl
 i51:=by kernel_rfl
 i53:=by kernel_rfl
 i75:=by kernel_rfl
 i76:=by kernel_rfl
 i80:=by kernel_rfl
 i85:=by kernel_rfl
 i127:=by kernel_rfl
 i143:=by kernel_rfl
 i145:=by kernel_rfl
 i167:=by kernel_rfl
 i168:=by kernel_rfl
 i171:=by kernel_rfl
 i173:=by kernel_rfl
 i175:=by kernel_rfl
 i210:=by kernel_rfl
 i212:=by kernel_rfl
 i232:=by kernel_rfl
 i233:=by kernel_rfl
 m15:=by kernel_rfl
 m16:=by kernel_rfl
 m17:=by kernel_rfl
 m18:=by kernel_rfl
 m19:=by kernel_rfl
 c0:=by kernel_rfl
 c2:=by kernel_rfl
 c3:=by kernel_rfl
 c4:=by kernel_rfl
 c5:=by kernel_rfl
 c9:=by kernel_rfl
 c20:=by kernel_rfl
 c21:=by kernel_rfl
 c37:=by kernel_rfl
 c46:=by kernel_rfl
 c51:=by kernel_rfl
 c53:=by kernel_rfl
 c75:=by kernel_rfl
 c76:=by kernel_rfl
 c80:=by kernel_rfl
 c85:=by kernel_rfl
 c127:=by kernel_rfl
 c143:=by kernel_rfl
 c145:=by kernel_rfl
 c167:=by kernel_rfl
 c168:=by kernel_rfl
 c171:=by kernel_rfl
 c173:=by kernel_rfl
 c175:=by kernel_rfl
 c210:=by kernel_rfl
 c212:=by kernel_rfl
 c213:=by kernel_rfl
 c232:=by kernel_rfl
 c233:=by kernel_rfl }
open Go.RowKit in
theorem Tryz.strconv_Atoi_ok(s:ByteArray)(hmax:s.size≤9223372036854775806)(v:Int)(h:Lib.atoiAll s.data.toList = .ok v)(w:World) :
  Calls Tryz.prog 198 #[.string s] w fun e w'=>e = .returned (.tuple #[.int .i64 v,.nilIface])∧(w'=w∨∃ t,w'=Lib.bytesWorld w 5 t):=Any.strconv_Atoi_ok Tryz.laysC172 s hmax v h w
def Tryz.lays145_ren:Go.Shelf.Ren:=⟨fun | 145=>130 | 220=>195 | 219=>194 | 217=>234 | 225=>235 | 224=>236 | 267=>237 | 266=>279 | 314=>280 | n=>n,fun | 9=>9 | 4=>4 | 59=>221 | 3=>3 | 5=>5 | 46=>264 | 146=>303 | 51=>203 | n=>n,fun | 1=>0 | n=>n⟩
theorem Tryz.lays145:Go.Proofs.Lays.n145 Tryz.prog Tryz.lays145_ren:={
 mixed:=by kernel_rfl
 f145:=func130.trans (congrArg some (by kernel_rfl))
 f217:=func234.trans (congrArg some (by kernel_rfl))
 f219:=func194.trans (congrArg some (by kernel_rfl))
 f220:=func195.trans (congrArg some (by kernel_rfl))
 f224:=func236.trans (congrArg some (by kernel_rfl))
 f225:=func235.trans (congrArg some (by kernel_rfl))
 f266:=func279.trans (congrArg some (by kernel_rfl))
 f267:=func237.trans (congrArg some (by kernel_rfl))
 f314:=func280.trans (congrArg some (by kernel_rfl))
 t3:=Tryz.underlying3
 a3:=Tryz.isAgg3
 z3:=Tryz.sizeOf3
 v3:=Tryz.zeroValue3
 t4:=Tryz.underlying4
 a4:=Tryz.isAgg4
 z4:=Tryz.sizeOf4
 v4:=Tryz.zeroValue4
 t5:=Tryz.underlying5
 a5:=Tryz.isAgg5
 z5:=Tryz.sizeOf5
 v5:=Tryz.zeroValue5
 t9:=Tryz.underlying9
 a9:=Tryz.isAgg9
 z9:=Tryz.sizeOf9
 v9:=Tryz.zeroValue9
 t46:=Tryz.underlying264
 a46:=Tryz.isAgg264
 z46:=Tryz.sizeOf264
 v46:=Tryz.zeroValue264
 t51:=Tryz.underlying203
 a51:=Tryz.isAgg203
 z51:=Tryz.sizeOf203
 v51:=Tryz.zeroValue203
 t59:=Tryz.underlying221
 a59:=Tryz.isAgg221
 z59:=Tryz.sizeOf221
 v59:=Tryz.zeroValue221
 t146:=Tryz.underlying303
 a146:=Tryz.isAgg303
 z146:=Tryz.sizeOf303
 v146:=Tryz.zeroValue303
 g1:=by kernel_rfl }
open Go.RowKit Go.Lib in
theorem Tryz.strings_Cut(s sep:ByteArray)(m:Int)(w:World)(hs:s.size<4294967281)(hm:w.cell? ⟨0,0,none⟩=some (.int .i64 m)) :
  Calls Tryz.prog 130 #[.string s,.string sep] w fun e w'=>e = .returned (.tuple #[.string ⟨(Lib.cut s.data.toList sep.data.toList).1.toArray⟩,.string ⟨(Lib.cut s.data.toList sep.data.toList).2.1.toArray⟩,.bool (Lib.cut s.data.toList sep.data.toList).2.2])∧∃ n,w'=w.drewN n:=Any.strings_Cut Tryz.lays145 s sep m w hs hm
def Tryz.lays99_ren:Go.Shelf.Ren:=⟨fun | 99=>32 | 206=>123 | n=>n,fun | 9=>9 | 4=>4 | 3=>3 | n=>n,fun | n=>n⟩
theorem Tryz.lays99:Go.Proofs.Lays.n99 Tryz.prog Tryz.lays99_ren:={
 mixed:=by kernel_rfl
 f99:=func32.trans (congrArg some (by kernel_rfl))
 f206:=func123.trans (congrArg some (by kernel_rfl))
 t3:=Tryz.underlying3
 a3:=Tryz.isAgg3
 z3:=Tryz.sizeOf3
 v3:=Tryz.zeroValue3
 t4:=Tryz.underlying4
 a4:=Tryz.isAgg4
 z4:=Tryz.sizeOf4
 v4:=Tryz.zeroValue4
 t9:=Tryz.underlying9
 a9:=Tryz.isAgg9
 z9:=Tryz.sizeOf9
 v9:=Tryz.zeroValue9 }
open Go.RowKit Go.Lib in
theorem Tryz.strings_HasPrefix(s p:ByteArray)(w:World) :
  Calls Tryz.prog 32 #[.string s,.string p] w fun e w'=>e = .returned (.bool (Lib.hasPrefix s.data.toList p.data.toList))∧w'=w:=Any.strings_HasPrefix Tryz.lays99 s p w
def Tryz.lays146_ren:Go.Shelf.Ren:=⟨fun | 146=>29 | 221=>122 | 268=>193 | 138=>33 | 143=>126 | 195=>124 | 197=>233 | 218=>125 | 219=>194 | 260=>278 | 217=>234 | 225=>235 | 224=>236 | 267=>237 | 266=>279 | 314=>280 | n=>n,fun | 9=>9 | 31=>55 | 3=>3 | 4=>4 | 0=>0 | 105=>308 | 21=>21 | 5=>5 | 46=>264 | 119=>365 | 139=>368 | 138=>367 | 146=>303 | 51=>203 | n=>n,fun | 1=>0 | 3=>2 | 4=>3 | n=>n⟩
theorem Tryz.lays146:Go.Proofs.Lays.n146 Tryz.prog Tryz.lays146_ren:={
 mixed:=by kernel_rfl
 f138:=func33.trans (congrArg some (by kernel_rfl))
 f143:=func126.trans (congrArg some (by kernel_rfl))
 f146:=func29.trans (congrArg some (by kernel_rfl))
 f195:=func124.trans (congrArg some (by kernel_rfl))
 f197:=func233.trans (congrArg some (by kernel_rfl))
 f217:=func234.trans (congrArg some (by kernel_rfl))
 f218:=func125.trans (congrArg some (by kernel_rfl))
 f219:=func194.trans (congrArg some (by kernel_rfl))
 f221:=func122.trans (congrArg some (by kernel_rfl))
 f224:=func236.trans (congrArg some (by kernel_rfl))
 f225:=func235.trans (congrArg some (by kernel_rfl))
 f260:=func278.trans (congrArg some (by kernel_rfl))
 f266:=func279.trans (congrArg some (by kernel_rfl))
 f267:=func237.trans (congrArg some (by kernel_rfl))
 f268:=func193.trans (congrArg some (by kernel_rfl))
 f314:=func280.trans (congrArg some (by kernel_rfl))
 t0:=Tryz.underlying0
 a0:=Tryz.isAgg0
 z0:=Tryz.sizeOf0
 v0:=Tryz.zeroValue0
 t3:=Tryz.underlying3
 a3:=Tryz.isAgg3
 z3:=Tryz.sizeOf3
 v3:=Tryz.zeroValue3
 t4:=Tryz.underlying4
 a4:=Tryz.isAgg4
 z4:=Tryz.sizeOf4
 v4:=Tryz.zeroValue4
 t5:=Tryz.underlying5
 a5:=Tryz.isAgg5
 z5:=Tryz.sizeOf5
 v5:=Tryz.zeroValue5
 t9:=Tryz.underlying9
 a9:=Tryz.isAgg9
 z9:=Tryz.sizeOf9
 v9:=Tryz.zeroValue9
 t21:=Tryz.underlying21
 a21:=Tryz.isAgg21
 z21:=Tryz.sizeOf21
 v21:=Tryz.zeroValue21
 t31:=Tryz.underlying55
 a31:=Tryz.isAgg55
 z31:=Tryz.sizeOf55
 v31:=Tryz.zeroValue55
 t46:=Tryz.underlying264
 a46:=Tryz.isAgg264
 z46:=Tryz.sizeOf264
 v46:=Tryz.zeroValue264
 t51:=Tryz.underlying203
 a51:=Tryz.isAgg203
 z51:=Tryz.sizeOf203
 v51:=Tryz.zeroValue203
 t105:=Tryz.underlying308
 a105:=Tryz.isAgg308
 z105:=Tryz.sizeOf308
 v105:=Tryz.zeroValue308
 t119:=Tryz.underlying365
 a119:=Tryz.isAgg365
 z119:=Tryz.sizeOf365
 t138:=Tryz.underlying367
 a138:=Tryz.isAgg367
 z138:=Tryz.sizeOf367
 v138:=Tryz.zeroValue367
 t139:=Tryz.underlying368
 a139:=Tryz.isAgg368
 z139:=Tryz.sizeOf368
 v139:=Tryz.zeroValue368
 t146:=Tryz.underlying303
 a146:=Tryz.isAgg303
 z146:=Tryz.sizeOf303
 v146:=Tryz.zeroValue303
 g1:=by kernel_rfl
 g3:=by kernel_rfl
 g4:=by kernel_rfl }
open Go.RowKit Go.Lib in
theorem Tryz.strings_Split(s sep:ByteArray)(m:Int)(w:World)(hs:s.size<4294967281)(hm:w.cell? ⟨0,0,none⟩=some (.int .i64 m))(h1:1≤sep.size) :
  Calls Tryz.prog 29 #[.string s,.string sep] w fun e w' =>
   e = .returned (.slice (some ⟨w.heap.size,0,none⟩) (Lib.countB s sep+1) (Lib.countB s sep+1))∧w'=w.alloc (.cells ((Lib.splitB sep 0 (Lib.countB s sep) s).map Value.string).toArray 9):=Any.strings_Split Tryz.lays146 (by kernel_rfl) s sep m w hs hm h1
def Tryz.lays151_ren:Go.Shelf.Ren:=⟨fun | 151=>216 | 152=>264 | 137=>295 | 119=>296 | 224=>236 | 225=>235 | 217=>234 | 266=>279 | n=>n,fun | 9=>9 | 21=>21 | 4=>4 | 3=>3 | 5=>5 | 0=>0 | 46=>264 | n=>n,fun | n=>n⟩
theorem Tryz.lays151:Go.Proofs.Lays.n151 Tryz.prog Tryz.lays151_ren:={
 mixed:=by kernel_rfl
 f119:=func296.trans (congrArg some (by kernel_rfl))
 f137:=func295.trans (congrArg some (by kernel_rfl))
 f151:=func216.trans (congrArg some (by kernel_rfl))
 f152:=func264.trans (congrArg some (by kernel_rfl))
 f217:=func234.trans (congrArg some (by kernel_rfl))
 f224:=func236.trans (congrArg some (by kernel_rfl))
 f225:=func235.trans (congrArg some (by kernel_rfl))
 f266:=func279.trans (congrArg some (by kernel_rfl))
 t0:=Tryz.underlying0
 a0:=Tryz.isAgg0
 z0:=Tryz.sizeOf0
 v0:=Tryz.zeroValue0
 t3:=Tryz.underlying3
 a3:=Tryz.isAgg3
 z3:=Tryz.sizeOf3
 v3:=Tryz.zeroValue3
 t4:=Tryz.underlying4
 a4:=Tryz.isAgg4
 z4:=Tryz.sizeOf4
 v4:=Tryz.zeroValue4
 t5:=Tryz.underlying5
 a5:=Tryz.isAgg5
 z5:=Tryz.sizeOf5
 v5:=Tryz.zeroValue5
 t9:=Tryz.underlying9
 a9:=Tryz.isAgg9
 z9:=Tryz.sizeOf9
 v9:=Tryz.zeroValue9
 t21:=Tryz.underlying21
 a21:=Tryz.isAgg21
 z21:=Tryz.sizeOf21
 v21:=Tryz.zeroValue21
 t46:=Tryz.underlying264
 a46:=Tryz.isAgg264
 z46:=Tryz.sizeOf264
 v46:=Tryz.zeroValue264 }
open Go.RowKit Go.Lib in
theorem Tryz.strings_ContainsRune_ascii(s:ByteArray)(r:Int)(w:World)(h0:0≤r)(h1:r<128) :
  Calls Tryz.prog 216 #[.string s,.int .i32 r] w fun e w'=>e = .returned (.bool (decide (0≤Lib.indexByte s.data.toList r.toNat.toUInt8)))∧w'=w:=Any.strings_ContainsRune_ascii Tryz.lays151 s r w h0 h1
def Tryz.laysNm215_ren:Go.Shelf.Ren:=⟨fun | 15=>108 | n=>n,fun | 22=>68 | 3=>3 | 4=>4 | n=>n,fun | n=>n⟩
theorem Tryz.laysNm215:Go.Proofs.Lays2.n15 Tryz.prog Tryz.laysNm215_ren:={
 mixed:=by kernel_rfl
 f15:=func108.trans (congrArg some (by kernel_rfl))
 t3:=Tryz.underlying3
 a3:=Tryz.isAgg3
 z3:=Tryz.sizeOf3
 v3:=Tryz.zeroValue3
 t4:=Tryz.underlying4
 a4:=Tryz.isAgg4
 z4:=Tryz.sizeOf4
 v4:=Tryz.zeroValue4
 t22:=Tryz.underlying68
 a22:=Tryz.isAgg68
 z22:=Tryz.sizeOf68
 v22:=Tryz.zeroValue68
 i3:=by kernel_rfl }
open Go.RowKit Go.Lib in
theorem Tryz.slices_Clone_int(b off n c:Nat)(zs:List Int)(w:World)(hz:n≤zs.length)(hbig:n*8≤140737488355328)(hc:∀ j,j<zs.length→w.cell? ⟨b,off+j,none⟩=some (.int .i64 (zs.getD j 0))) :
  Calls Tryz.prog 108 #[.slice (some ⟨b,off,none⟩) n c] w fun e w'=>∃ v',e = .returned v'∧w'.ownsRow w.heap.size 3 1 v' n ((zs.take n).map (Value.int .i64))∧v' ≠ .slice none 0 0∧Below w.heap.size w w':=Any.slices_Clone_int Tryz.laysNm215 b off n c zs w hz hbig hc
end Go.Proofs
end
namespace Go.Proofs
namespace KV
abbrev a7:List Nat:=[1,1,1,0,1,0,0,1,1,0,0,1,1,0,1,0,0,1,1,0,0,1,1,0,1,0,1,1,1,1,1,0,1,0,0]
abbrev a8:List Nat:=[1,1,1,0,1,0,0,1,1,0,0,1,1,0,1,0,0,1,1,0,0,1,1,0,1,0,1,1,1,1,1,1,1,0,0]
abbrev aa:List Nat:=[0,1,3,1,5,3,9,3,13,1,16,1,18,16,37,21,112,1]
abbrev ab:List Nat:=[0,2,3,1,16,1,22,13,36,8,46,1,70,22,169,1]
abbrev ad:List Nat:=[0,1,3,1,6,2,9,3,13,4,18,44,65,20,112,1]
abbrev ae:List Nat:=[0,3,4,1,9,3,13,1,17,2,20,1,27,38,68,10]
abbrev af:List Nat:=[0,3,4,2,9,3,13,1,16,3,20,5,27,53,83,34]
abbrev ah:List Nat:=[0,1,2,3,6,1,8,1,10,1,12,12,26,2,37,17]
abbrev ai:List Nat:=[0,1,2,2,6,1,8,1,10,1,12,12,26,2,37,17]
abbrev aj:List Nat:=[1,1,1,1,1,0,1,0,0,1,1,0,0,1,1,0,1,0,0]
abbrev al:List Nat:=[1,5,9,1,13,1,15,10,27,2,32,35,69,31]
abbrev am:List Nat:=[1,5,9,1,13,1,15,10,27,2,32,6,40,60]
abbrev an:List Nat:=[1,1,1,0,1,0,0,1,1,0,0,1,1,0,1,0,0]
abbrev ao:List Nat:=[1,1,1,1,1,1,1,1,1,1,1,1,1,0,1,0,0]
abbrev ap:List Nat:=[0,1,2,3,6,1,8,1,10,14,26,2,31,24]
abbrev aq:List Nat:=[0,2,4,1,7,1,9,1,12,1,14,24,47,18]
abbrev ar:List Nat:=[0,3,7,5,13,1,17,1,20,1,27,3,32,9]
abbrev av:List Nat:=[0,2,3,1,6,6,13,72,88,16,112,1]
abbrev aw:List Nat:=[0,2,4,1,7,1,9,4,14,24,41,29]
abbrev ax:List Nat:=[1,5,9,1,12,13,27,2,32,68]
abbrev ay:List Nat:=[0,1,3,1,6,2,10,13,26,11]
abbrev az:List Nat:=[0,11,12,7,20,197,220,41]
abbrev b6:List Nat:=[0,1,2,3,6,1,8,16,26,30]
abbrev b7:List Nat:=[0,2,3,1,6,1,8,36,47,18]
abbrev b8:List Nat:=[0,1,2,2,5,2,8,6,16,10]
abbrev b9:List Nat:=[3,5,9,1,12,14,28,36]
abbrev ba:List Nat:=[3,3,9,1,12,14,28,36]
abbrev bb:List Nat:=[1,1,1,1,1,1,0,1,0,0]
abbrev bc:List Nat:=[1,3,5,4,10,37,50,14]
abbrev be:List Nat:=[1,1,1,1,1,1,1,0,1,0]
abbrev bg:List Nat:=[0,2,8,4,13,5,21,22]
abbrev bi:List Nat:=[2,2,7,2,12,2,17,18]
abbrev bj:List Nat:=[1,0,0,1,0,0,1,0,0]
abbrev bl:List Nat:=[1,1,1,1,0,1,0,0]
abbrev bm:List Nat:=[3,3,10,3,14,49]
abbrev bp:List Nat:=[4,4,10,2,18,35]
abbrev bq:List Nat:=[1,1,1,0,1,0,0]
abbrev br:List Nat:=[2,2,5,7,14,12]
abbrev bt:List Nat:=[2,2,5,2,9,10]
abbrev bu:List Nat:=[0,1,2,2,5,52]
abbrev bv:List Nat:=[0,2,4,7,13,8]
abbrev bw:List Nat:=[1,1,0,1,0,0]
abbrev bz:List Nat:=[2,10,14,12]
abbrev c7:List Nat:=[2,10,14,13]
abbrev c8:List Nat:=[1,0,1,0,0]
abbrev ca:List Nat:=[2,7,12,19]
abbrev cb:List Nat:=[1,2,3,4,5]
abbrev ce:List Nat:=[0,1,2,3,4]
abbrev cf:List Nat:=[2,5,9,10]
abbrev cg:List Nat:=[4,4,9,44]
abbrev cj:List Nat:=[0,1,0,0]
abbrev cn:List Nat:=[2,3,0,1]
abbrev co:List Nat:=[0,1,2,3]
open Tryz
section
abbrev Bu:=@Array.getD_eq_getD_getElem?
abbrev Bw:=@List.getElem?_eq_getElem
abbrev B0:=@List.mem_of_getElem?
abbrev Ci:=@List.getElem?_eq_some_iff
abbrev Bv:=@List.length_append
abbrev Bt:=@Int.natCast_nonneg
abbrev B4:=@Bool.and_eq_true
abbrev Cn:=@List.mem_cons_of_mem
abbrev C7:=@Option.map_eq_some_iff
abbrev Cb:=@List.length_cons
abbrev dD:=@Nat.le_refl
abbrev mF:=@Array.getElem?_eq_some_iff
abbrev gL:=@List.getElem_map
abbrev jT:=@List.mem_cons_self
abbrev iC:=@List.getElem_mem
abbrev iD:=@List.all_eq_true
abbrev uO:=@List.eq_nil_of_length_eq_zero
abbrev rU:=@Array.getElem?_eq_getElem
abbrev uP:=@List.getD_eq_getElem?_getD
abbrev gS:=@List.map_cons
abbrev kI:=@List.length_map
abbrev iE:=@Nat.le_trans
abbrev iP:=@Nat.zero_add
abbrev jU:=@List.mem_cons
abbrev xX:=@List.getElem_append_left
abbrev nC:=@List.mem_append
abbrev pF:=@List.length_take
abbrev rV:=@List.getElem?_map
abbrev uQ:=@Nat.lt_of_lt_of_le
abbrev aGg:=@List.getElem?_append_left
abbrev rW:=@List.map_append
abbrev aJy:=@List.getElem?_append_right
abbrev vW:=@List.flatten_cons
abbrev aJz:=@List.getElem_append_right
abbrev aCi:=@List.mem_append_left
abbrev xY:=@List.length_drop
abbrev rX:=@List.mem_map
abbrev aCj:=@Bool.or_eq_true
abbrev aVt:=@List.take_append_drop
abbrev aVu:=@List.mem_append_right
abbrev aGh:=@List.length_set
abbrev aAk:=@List.map_map
abbrev aVv:=@List.mem_map_of_mem
abbrev bMb:=@List.mem_of_find?_eq_some
abbrev bMc:=@List.drop_eq_getElem_cons
abbrev bFq:=@List.map_congr_left
abbrev aVw:=@List.getElem_set
abbrev aVx:=@List.mem_range
abbrev bMd:=@List.flatten_append
abbrev aVy:=@Bool.true_and
abbrev aVz:=@Nat.sub_self
abbrev bMe:=@Nat.not_lt_zero
abbrev bMf:=@List.foldl_cons
abbrev aWa:=@Int.le_refl
abbrev Lqq:=List (List Int)
abbrev Lqb:=List (Int × Bool)

inductive PV where
 | v (x:Value)
 | sl (n:Nat) (cs:List PV)
 | agg (cs:List PV)
 | mp (es:List (Value × PV))
 | rp (cs:List PV) (off:Nat)
 | fn (f:FuncId) (first caps:List PV)
 deriving Inhabited

inductive PQ where
 | root
 | cell (j:Nat)
 | row (j:Nat)
 | elem (j i:Nat)
 deriving Inhabited

inductive AV where
 | p (x:PV)
 | own (id:Nat)
 | arr (id off n:Nat)
 | ptr (id off:Nat)
 | rp (cs:List PV) (off:Nat)
 | agg (cs:List AV)
 | tup (vs:List AV)
 | fn (f:FuncId) (first caps:List AV)
 | yld (l:Nat)
 | kb (b:Bool)
 | mp (id:Nat)
 | pa (id:Nat) (q:PQ)
 | any
 deriving Inhabited

inductive AO where
 | row (ty n:Nat) (cs:List PV)
 | box (ty:Nat) (cs:List AV)
 | mp (es:List (Value × PV)) (clock:Nat)
 | pk (tO ti sz:Nat) (L:List (Nat × List PV))
 | dead
 deriving Inhabited

def AO.live:AO→Bool
 | .dead=>false
 | _=>true

def AO.isPk:AO→Bool
 | .pk _ _ _ _=>true
 | _=>false

abbrev Mem:=List (Option AO)

def enc:List Nat→Nat
 | []=>0
 | a::l=>2 ^ a*(2*enc l+1)
open Classical in
noncomputable def dec(n:Nat):List Nat:=if h:∃ l,enc l=n then Classical.choose h else []
noncomputable def pkB(k:Nat):Nat:=(dec k).getD 0 0
noncomputable def pkN(k:Nat):Nat:=(dec k).getD 1 0
noncomputable def pkC(k:Nat):Nat:=(dec k).getD 2 0
noncomputable def rkB(k j:Nat):Nat:=(dec k).getD (3*j+3) 0
noncomputable def rkN(k j:Nat):Nat:=(dec k).getD (3*j+4) 0
noncomputable def rkC(k j:Nat):Nat:=(dec k).getD (3*j+5) 0
noncomputable def pqV(k:Nat):PQ→Value
 | .root=>if pkC k=0 then .slice none 0 0 else .slice (some ⟨pkB k,0,none⟩) (pkN k) (pkC k)
 | .cell j => .pointer (some ⟨pkB k,j,none⟩)
 | .row j => .slice (some ⟨rkB k j,0,none⟩) (rkN k j) (rkC k j)
 | .elem j i => .pointer (some ⟨rkB k j,i,none⟩)
structure St where
 t:List AV
 m:Mem
 deriving Inhabited

inductive cS (F:Nat→Prop) (w:World):PV→Value→Prop
 | v (x:Value):cS F w (.v x) x
 | sl (n:Nat) (cs:List PV) (p:Option Addr) (cap:Nat) (us:Nat→Value) (h1:n≤cap) (h2:cap≤maxLen)
   (h3:∀ i,i<cs.length→∃ b o,p=some ⟨b,o,none⟩∧F b∧w.cell? ⟨b,o+i,none⟩=some (us i))
   (h4:∀ i (h:i<cs.length),cS F w cs[i] (us i)) (h5:∀ i,i<cs.length→(us i).oneCell'=true):cS F w (.sl n cs) (.slice p n cap)
 | agg (cs:List PV) (vs:Array Value) (h0:∀ i,i<cs.length→(vs.getD i undef).oneCell'=true) (h1:vs.size=cs.length) (h2:∀ i (h:i<cs.length),cS F w cs[i] (vs.getD i undef)):cS F w (.agg cs) (.agg vs)
 | mp (es:List (Value × PV)) (b cl:Nat) (arr:Array MapEntry) (us:Nat→Value) (hb:F b) (h0:w.heap[b]? = some (.map arr cl)) (h1:arr.size=es.length)
   (h2:∀ j (h:j<es.length),∃ e,arr[j]? = some e∧e.key=es[j].1∧e.born<cl∧e.val=us j) (h3:∀ j (h:j<es.length),cS F w es[j].2 (us j)):cS F w (.mp es) (.map (some b))
 | rp (cs:List PV) (off b o:Nat) (us:Nat→Value) (h1:∀ i,i<cs.length→F b∧w.cell? ⟨b,o+i,none⟩=some (us i))
   (h2:∀ i (h:i<cs.length),cS F w cs[i] (us i)) (h3:∀ i,i<cs.length→(us i).oneCell'=true):cS F w (.rp cs off) (.pointer (some ⟨b,o+off,none⟩))
 | fn (f:FuncId) (cs ds:List PV) (us vs:Array Value) (h1:us.size=cs.length) (h2:vs.size=ds.length) (h3:∀ i (h:i<cs.length),cS F w cs[i] (us.getD i undef))
   (h4:∀ i (h:i<ds.length),cS F w ds[i] (vs.getD i undef)):cS F w (.fn f cs ds) (.func (.func f) us vs)

theorem gY{w w':World}{b:Nat}(h:w'.heap[b]? = w.heap[b]?)(o:Nat):w'.cell? ⟨b,o,none⟩=w.cell? ⟨b,o,none⟩:=by
 unfold World.cell?;simp only [h]
theorem cS.mono{F F':Nat→Prop}{w w':World}{x:PV}{u:Value}(h:cS F w x u)(hF:∀ b,F b→F' b)(hw:∀ b,F b→w'.heap[b]? = w.heap[b]?):cS F' w' x u:=by
 induction h with
 | v x=>exact .v x
 | sl n cs p cap us h1 h2 h3 _ h5 ih =>
  refine .sl n cs p cap us h1 h2 (fun i hi => ?_) ih h5
  obtain ⟨b,o,hp,hb,hc⟩:=h3 i hi;exact ⟨b,o,hp,hF b hb,(gY (hw b hb) _).trans hc⟩
 | agg cs vs h0 h1 _ ih=>exact .agg cs vs h0 h1 ih
 | mp es b cl arr us hb h0 h1 h2 _ ih=>exact .mp es b cl arr us (hF b hb) ((hw b hb).trans h0) h1 h2 ih
 | rp cs off b o us h1 _ h3 ih=>exact .rp cs off b o us (fun i hi=>⟨hF b (h1 i hi).1,(gY (hw b (h1 i hi).1) _).trans (h1 i hi).2⟩) ih h3
 | fn f cs ds us vs h1 h2 _ _ Gq Gr=>exact .fn f cs ds us vs h1 h2 Gq Gr

structure Cx where
 ι:Nat→Option Nat
 κ:Nat→Nat
 F:Nat→Prop
 /-- blocks that stand beside the memory,with what lies in them -/
 R:List (Nat × Obj):=[]

def Cx.with(C:Cx)(R:List (Nat × Obj)):Cx:={ ι:=C.ι,κ:=C.κ,F:=C.F,R:=R }

inductive Rep (C:Cx) (M:Mem) (w:World):AV→Value→Prop
 | p (x:PV) (u:Value) (h:cS C.F w x u):Rep C M w (.p x) u
 | any (u:Value):Rep C M w .any u
 | kb (b:Bool):Rep C M w (.kb b) (.bool b)
 | yld (l:Nat):Rep C M w (.yld l) (.func (.yield l) #[] #[])
 | own (id:Nat) (u:Value) (h0:u.oneCell'=true) (ha:∃ o:AO,M[id]? = some (some o))
   (h:∀ ty n cs,M[id]? = some (some (.row ty n cs))→(u = .slice none 0 0∧C.ι id=none∧n=0)∨∃ b,u = .slice (some ⟨b,0,none⟩) n (C.κ id)∧C.ι id=some b):Rep C M w (.own id) u
 | arr (id off n:Nat) (u:Value) (h0:u.oneCell'=true) (ha:∃ o:AO,M[id]? = some (some o))
   (h:∀ o:AO,M[id]? = some (some o)→o.live=true→(n=0∧∃ p cap,u = .slice p 0 cap∧cap≤maxLen)∨∃ b cap,u = .slice (some ⟨b,off,none⟩) n cap∧n≤cap∧cap≤maxLen∧C.ι id=some b):Rep C M w (.arr id off n) u
 | ptr (id off:Nat) (u:Value) (h0:u.oneCell'=true) (ha:∃ o:AO,M[id]? = some (some o))
   (h:∀ o:AO,M[id]? = some (some o)→o.live=true→∃ b,u = .pointer (some ⟨b,off,none⟩)∧C.ι id=some b) (hp:∃ b,u = .pointer (some ⟨b,off,none⟩)):Rep C M w (.ptr id off) u
 | mp (id:Nat) (u:Value) (h0:u.oneCell'=true) (ha:∃ o:AO,M[id]? = some (some o))
   (h:∀ o:AO,M[id]? = some (some o)→o.live=true→∃ b,u = .map (some b)∧C.ι id=some b):Rep C M w (.mp id) u
 | pa (id:Nat) (q:PQ) (u:Value) (h0:u.oneCell'=true) (ha:∃ o:AO,M[id]? = some (some o))
   (h:∀ o:AO,M[id]? = some (some o)→o.live=true→u=pqV (C.κ id) q):Rep C M w (.pa id q) u
 | rp (cs:List PV) (off b o:Nat) (us:Nat→Value) (h1:∀ i,i<cs.length→C.F b∧w.cell? ⟨b,o+i,none⟩=some (us i))
   (h2:∀ i (h:i<cs.length),cS C.F w cs[i] (us i)) (h3:∀ i,i<cs.length→(us i).oneCell'=true):Rep C M w (.rp cs off) (.pointer (some ⟨b,o+off,none⟩))
 | agg (cs:List AV) (vs:Array Value) (h0:∀ i,i<cs.length→(vs.getD i undef).oneCell'=true) (h1:vs.size=cs.length) (h2:∀ i (h:i<cs.length),Rep C M w cs[i] (vs.getD i undef)):Rep C M w (.agg cs) (.agg vs)
 | tup (cs:List AV) (vs:Array Value) (h1:vs.size=cs.length) (h2:∀ i (h:i<cs.length),Rep C M w cs[i] (vs.getD i undef)):Rep C M w (.tup cs) (.tuple vs)
 | fn (f:FuncId) (cs ds:List AV) (us vs:Array Value) (h1:us.size=cs.length) (h2:vs.size=ds.length) (h3:∀ i (h:i<cs.length),Rep C M w cs[i] (us.getD i undef))
   (h4:∀ i (h:i<ds.length),Rep C M w ds[i] (vs.getD i undef)):Rep C M w (.fn f cs ds) (.func (.func f) us vs)

structure Le (C C':Cx) (M M':Mem) (w w':World):Prop where
 ids:∀ (id:Nat) (o:AO),M[id]? = some (some o)→∃ o',M'[id]? = some (some o')
 row:∀ (id:Nat) (o:AO),M[id]? = some (some o)→∀ ty n cs,M'[id]? = some (some (.row ty n cs))→∃ Bg,M[id]? = some (some (.row ty n Bg))
 liv:∀ (id:Nat) (o:AO),M[id]? = some (some o)→∀ (o':AO),M'[id]? = some (some o')→o'.live=true→o.live=true∧C'.ι id=C.ι id∧C'.κ id=C.κ id
 F:∀ b,C.F b→C'.F b
 fz:∀ b,C.F b→w'.heap[b]? = w.heap[b]?

theorem Rep.mono{C C':Cx}{M M':Mem}{w w':World}(hL:Le C C' M M' w w'){x:AV}{u:Value}(h:Rep C M w x u):Rep C' M' w' x u:=by
 induction h with
 | p x u h=>exact .p x u (h.mono hL.F hL.fz)
 | any u=>exact .any u
 | kb b=>exact .kb b
 | yld l=>exact .yld l
 | own id u h0 ha h =>
  obtain ⟨o,ho⟩:=ha;refine .own id u h0 (hL.ids _ _ ho) (fun ty n cs hm => ?_)
  obtain ⟨Bg,hc⟩:=hL.row _ _ ho _ _ _ hm;obtain ⟨_,h2,h3⟩:=hL.liv _ _ ho _ hm rfl;rw [h2,h3];exact h ty n Bg hc
 | arr id off n u h0 ha h =>
  obtain ⟨o,ho⟩:=ha;refine .arr id off n u h0 (hL.ids _ _ ho) (fun o' hm hl => ?_)
  obtain ⟨h1,h2,h3⟩:=hL.liv _ _ ho _ hm hl;rw [h2];exact h o ho h1
 | ptr id off u h0 ha h hp =>
  obtain ⟨o,ho⟩:=ha;refine .ptr id off u h0 (hL.ids _ _ ho) (fun o' hm hl => ?_) hp
  obtain ⟨h1,h2,h3⟩:=hL.liv _ _ ho _ hm hl;rw [h2];exact h o ho h1
 | mp id u h0 ha h =>
  obtain ⟨o,ho⟩:=ha;refine .mp id u h0 (hL.ids _ _ ho) (fun o' hm hl => ?_)
  obtain ⟨h1,h2,h3⟩:=hL.liv _ _ ho _ hm hl;rw [h2];exact h o ho h1
 | pa id q u h0 ha h =>
  obtain ⟨o,ho⟩:=ha;refine .pa id q u h0 (hL.ids _ _ ho) (fun o' hm hl => ?_)
  obtain ⟨h1,h2,h3⟩:=hL.liv _ _ ho _ hm hl;rw [h3];exact h o ho h1
 | rp cs off b o us h1 h2 h3 =>
  exact .rp cs off b o us (fun i hi=>⟨hL.F _ (h1 i hi).1,(gY (hL.fz _ (h1 i hi).1) _).trans (h1 i hi).2⟩) (fun i hi=>(h2 i hi).mono hL.F hL.fz) h3
 | agg cs vs h0 h1 _ ih=>exact .agg cs vs h0 h1 ih
 | tup cs vs h1 _ ih=>exact .tup cs vs h1 ih
 | fn f cs ds us vs h1 h2 _ _ Gq Gr=>exact .fn f cs ds us vs h1 h2 Gq Gr

def bSx:List (Nat × (Array Value→Prop)):=[(0,fun cs=>∃ m,cs[0]? = some (.int .i64 m)),(1,fun cs=>cs=((List.range 20).map fun i=>Value.int .u64 ((10:Int) ^ i)).toArray)]
def vX(w:World)(b:Nat):Option (Array Value):=match w.heap[b]? with
 | some (.cells cs _ _)=>some cs
 | _=>none
def oY(C:Cx)(w:World):Prop:=∀ p∈bSx,C.F p.1∧∃ cs,vX w p.1=some cs∧p.2 cs
theorem oY.mono{C C':Cx}{w w':World}(h:oY C w)(hF:∀ b,C.F b→C'.F b)(hw:∀ b,C.F b→w'.heap[b]? = w.heap[b]?):oY C' w':=fun p hp=>by
 obtain ⟨h1,cs,h2,h3⟩:=h p hp;refine ⟨hF _ h1,cs,?_,h3⟩;unfold vX at h2 ⊢
 rw [hw _ h1];exact h2
theorem oY.le{C C':Cx}{M M':Mem}{w w':World}(h:oY C w)(hL:Le C C' M M' w w'):oY C' w':=h.mono hL.F hL.fz
structure aX (P:Program) (C:Cx) (M:Mem) (w:World):Prop where
 row:∀ (id ty n:Nat) (cs:List PV),M[id]? = some (some (.row ty n cs))→(C.ι id=none∧n=0∧cs=[]) ∨
  ∃ b arr i,C.ι id=some b∧w.heap[b]? = some (.cells arr ty (0,0))∧P.info? ty=some i∧arr.size=C.κ id*i.size∧cs.length=n*i.size∧n≤C.κ id∧C.κ id≤maxLen ∧
   (∀ j (h:j<cs.length),cS C.F w cs[j] (arr.getD j undef))∧∀ j,j<cs.length→(arr.getD j undef).oneCell'=true
 box:∀ (id ty:Nat) (cs:List AV),M[id]? = some (some (.box ty cs))→∃ b arr,C.ι id=some b∧w.heap[b]? = some (.cells arr ty (0,0))∧arr.size=cs.length∧(∀ j (h:j<cs.length),Rep C M w cs[j] (arr.getD j undef))∧∀ j,j<cs.length→(arr.getD j undef).oneCell'=true
 mp:∀ (id:Nat) (es:List (Value × PV)) (cl:Nat),M[id]? = some (some (.mp es cl))→∃ b arr,C.ι id=some b∧w.heap[b]? = some (.map arr cl)∧arr.size=es.length ∧
  ∀ j (h:j<es.length),∃ e,arr[j]? = some e∧e.key=es[j].1∧e.born<cl∧cS C.F w es[j].2 e.val
 inj:∀ (id Gy:Nat) (o o':AO) (b:Nat),M[id]? = some (some o)→o.live=true→M[Gy]? = some (some o')→o'.live=true→C.ι id=some b→C.ι Gy=some b→id=Gy
 nF:∀ (id:Nat) (o:AO) (b:Nat),M[id]? = some (some o)→o.live=true→C.ι id=some b→¬ C.F b
 Fs:∀ b,C.F b→b<w.heap.size
 lt:∀ (id:Nat) (o:AO) (b:Nat),M[id]? = some (some o)→o.live=true→C.ι id=some b→b<w.heap.size
 lib:oY C w

structure Fr (C0:Cx) (M0:Mem) (w0:World) (C:Cx) (M:Mem) (w:World):Prop where
 os:w.os=w0.os
 tape:w.tape=w0.tape
 out:w.output=w0.output
 size:w0.heap.size≤w.heap.size
 keep:∀ b,b<w0.heap.size→(∀ (id:Nat) (o:AO),M0[id]? = some (some o)→o.live=true→C0.ι id≠some b)→w.heap[b]? = w0.heap[b]?
 ids:∀ (id:Nat) (o:AO),M0[id]? = some (some o)→(∃ o',M[id]? = some (some o'))∧C.ι id=C0.ι id∧C.κ id=C0.κ id
 row:∀ (id:Nat) (o:AO),M0[id]? = some (some o)→∀ ty n cs,M[id]? = some (some (.row ty n cs))→∃ Bg,M0[id]? = some (some (.row ty n Bg))
 liv:∀ (id:Nat) (o:AO),M0[id]? = some (some o)→∀ (o':AO),M[id]? = some (some o')→o'.live=true→o.live=true
 new:∀ (id:Nat) (o:AO) (b:Nat),M[id]? = some (some o)→o.live=true→C.ι id=some b→w0.heap.size≤b∨∃ (Eh:Nat) (o0:AO),M0[Eh]? = some (some o0)∧o0.live=true∧C0.ι Eh=some b
 F1:∀ b,C0.F b→C.F b
 F2:∀ b,C.F b→C0.F b∨w0.heap.size≤b∨∃ (Eh:Nat) (o0:AO),M0[Eh]? = some (some o0)∧o0.live=true∧C0.ι Eh=some b

theorem Fr.refl(C:Cx)(M:Mem)(w:World):Fr C M w C M w :=
 ⟨rfl,rfl,rfl,dD _,fun _ _ _=>rfl,fun id o ho=>⟨⟨o,ho⟩,rfl,rfl⟩,fun _ _ _ ty n cs h=>⟨cs,h⟩,fun id o ho o' Cs hl=>by rw [ho] at Cs;cases Cs;exact hl,
  fun id o b ho hl hb => .inr ⟨id,o,ho,hl,hb⟩,fun _ h=>h,fun _ h => .inl h⟩

theorem Fr.based{C0 C:Cx}{M0 M:Mem}{w0 w:World}(R:List (Nat × Obj))(h:Fr C0 M0 w0 C M w):Fr (C0.with R) M0 w0 C M w :=
 ⟨h.os,h.tape,h.out,h.size,h.keep,h.ids,h.row,h.liv,h.new,h.F1,h.F2⟩
theorem Fr.unbased{C0 C:Cx}{M0 M:Mem}{w0 w:World}{R:List (Nat × Obj)}(h:Fr (C0.with R) M0 w0 C M w):Fr C0 M0 w0 C M w :=
 ⟨h.os,h.tape,h.out,h.size,h.keep,h.ids,h.row,h.liv,h.new,h.F1,h.F2⟩

theorem Fr.le{C0 C:Cx}{M0 M:Mem}{w0 w:World}(h:Fr C0 M0 w0 C M w)(hn:∀ (id:Nat) (o:AO) (b:Nat),M0[id]? = some (some o)→o.live=true→C0.ι id=some b→¬ C0.F b)(hs:∀ b,C0.F b→b<w0.heap.size):Le C0 C M0 M w0 w :=
 ⟨fun id o ho=>(h.ids id o ho).1,h.row,fun id o ho o' Cs hl=>⟨h.liv id o ho o' Cs hl,(h.ids id o ho).2⟩,h.F1,fun b hb=>h.keep b (hs b hb) (fun id o ho hl he=>hn id o b ho hl he hb)⟩

theorem Fr.trans{C0 C1 C:Cx}{M0 M1 M:Mem}{w0 w1 w:World}(h:Fr C0 M0 w0 C1 M1 w1)(k:Fr C1 M1 w1 C M w):Fr C0 M0 w0 C M w:=by
 refine ⟨k.os.trans h.os,k.tape.trans h.tape,k.out.trans h.out,iE h.size k.size,fun b hb hn => ?_,fun id o ho => ?_,fun id o ho ty n cs hm => ?_,fun id o ho o' Cs hl => ?_,fun id o b ho hl hb => ?_,fun b hb=>k.F1 b (h.F1 b hb),fun b hb => ?_⟩
 ·refine (k.keep b (uQ hb h.size) (fun id o ho hl he => ?_)).trans (h.keep b hb hn)
  rcases h.new id o b ho hl he with hnew | ⟨Eh,o0,h1,h2,h3⟩
  ·omega
  ·exact hn Eh o0 h1 h2 h3
 ·obtain ⟨⟨o1,h1⟩,h2,h3⟩:=h.ids id o ho
  obtain ⟨h4,h5,h6⟩:=k.ids id o1 h1;exact ⟨h4,h5.trans h2,h6.trans h3⟩
 ·obtain ⟨⟨o1,h1⟩,_⟩:=h.ids id o ho
  obtain ⟨Ei,h2⟩:=k.row id o1 h1 _ _ _ hm;exact h.row id o ho _ _ _ h2
 ·obtain ⟨⟨o1,h1⟩,_⟩:=h.ids id o ho
  exact h.liv id o ho o1 h1 (k.liv id o1 h1 o' Cs hl)
 ·rcases k.new id o b ho hl hb with h1 | ⟨Bq,o1,h1,h2,h3⟩
  ·exact .inl (iE h.size h1)
  ·exact h.new Bq o1 b h1 h2 h3
 ·rcases k.F2 b hb with h1 | h1 | ⟨Bq,o1,h1,h2,h3⟩
  ·exact h.F2 b h1
  ·exact .inr (.inl (iE h.size h1))
  ·rcases h.new Bq o1 b h1 h2 h3 with h4 | h4
   ·exact .inr (.inl h4)
   ·exact .inr (.inr h4)
end
section

inductive Ex where
 | normal | ret
 | exit (id:Nat)

structure Gh where
 fg:List Nat
 ids:List Nat
 fz:List Nat
 nl:List (Nat × Nat)

inductive OI where
 | b (d:Bool)
 | x (x:PV)
 | c (r:AV) (L:List (Nat × AO))
 | k (n:Nat) (g:Gh) (e:Ex) (st:St)
 | g (n:Nat) (g:Gh)
 | q
 deriving Inhabited

structure AS where
 auto:Bool
 o:List OI
 obs:List Prop

def bA(s:AS):Prop:=∀ p∈s.obs,p

def Ask(α:Type):=AS→Option (α × AS)
def Ask.bind{α β:Type}(m:Ask α)(f:α→Ask β):Ask β:=fun s=>match m s with
 | some (a,s')=>f a s'
 | none=>none
instance:Monad Ask where
 pure a:=fun s=>some (a,s)
 bind:=Ask.bind

def lift{α:Type}(o:Option α):Ask α:=fun s=>match o with
 | some a=>some (a,s)
 | none=>none
def fail{α:Type}:Ask α:=fun _=>none
def eM(p:Prop)[d:Decidable p]:Ask Unit:=fun s=>match s.auto with
 | true=>match d with
  | .isTrue _=>some ((),s)
  | .isFalse _=>none
 | false=>some ((),{ s with obs:=p::s.obs })
def aNw(b:Bool):Ask Bool:=fun s=>match s.auto with
 | true=>some (b,s)
 | false=>match s.o with
  | .b d::r=>some (d,{ s with o:=r,obs:=(b=d)::s.obs })
  | _=>none
def aJv(x:Option PV):Ask PV:=fun s=>match s.auto with
 | true=>match x with
  | some a=>some (a,s)
  | none=>none
 | false=>match s.o with
  | .x a::r=>some (a,{ s with o:=r,obs:=(x=some a)::s.obs })
  | _=>none

theorem aC{α β:Type}{m:Ask α}{f:α→Ask β}{s Oq:AS}{r:β}(h:(m >>= f) s=some (r,Oq)):∃ a s',m s=some (a,s')∧f a s'=some (r,Oq):=by
 change Ask.bind m f s=_ at h
 unfold Ask.bind at h
 cases hm:m s with
 | none=>rw [hm] at h;cases h
 | some x=>obtain ⟨a,s'⟩:=x;rw [hm] at h;exact ⟨a,s',rfl,h⟩
theorem aH{α:Type}{a r:α}{s s':AS}(h:(pure a:Ask α) s=some (r,s')):r=a∧s'=s:=by
 change some (a,s)=some (r,s') at h
 cases h;exact ⟨rfl,rfl⟩
theorem aE{α:Type}{o:Option α}{r:α}{s s':AS}(h:lift o s=some (r,s')):o=some r∧s'=s:=by
 unfold lift at h
 cases o with
 | none=>cases h
 | some a=>cases h;exact ⟨rfl,rfl⟩
theorem aU{α:Type}{r:α}{s s':AS}(h:(fail:Ask α) s=some (r,s')):False:=by cases h
theorem bA.tail{s:AS}{p:Prop}{o:List OI}{a:Bool}(h:bA { auto:=a,o:=o,obs:=p::s.obs }):p∧bA s:=⟨h p (jT ..),fun q hq=>h q (Cn _ hq)⟩
theorem dL{p:Prop}[d:Decidable p]{s s':AS}{u:Unit}(h:eM p s=some (u,s'))(g:bA s'):p∧bA s:=by
 unfold eM at h
 cases ha:s.auto with
 | true =>
  rw [ha] at h
  cases d with
  | isTrue hp=>cases h;exact ⟨hp,g⟩
  | isFalse hp=>cases h
 | false=>rw [ha] at h;cases h;exact g.tail
theorem aJw{b d:Bool}{s s':AS}(h:aNw b s=some (d,s'))(g:bA s'):b=d∧bA s:=by
 unfold aNw at h
 cases ha:s.auto with
 | true=>rw [ha] at h;cases h;exact ⟨rfl,g⟩
 | false =>
  rw [ha] at h
  dsimp only at h
  split at h
  ·cases h;exact g.tail
  ·cases h
theorem aRp{x:Option PV}{a:PV}{s s':AS}(h:aJv x s=some (a,s'))(g:bA s'):x=some a∧bA s:=by
 unfold aJv at h
 cases ha:s.auto with
 | true =>
  rw [ha] at h
  cases x with
  | none=>cases h
  | some y=>cases h;exact ⟨rfl,g⟩
 | false =>
  rw [ha] at h
  dsimp only at h
  split at h
  ·cases h;exact g.tail
  ·cases h

def inR(z:Int):Prop := -9223372036854775808≤z∧z≤9223372036854775807
abbrev cp(i:Nat):Prop:=inR ((i+1:Nat):Int)
instance (z:Int):Decidable (inR z):=by unfold inR;infer_instance

def wr(k:IntKind)(z:Int):Ask Value:=fun s=>match s.auto with
 | true=>some (.int k (k.wrap z),s)
 | false=>match k with
  | .i64=>some (.int .i64 z,{ s with obs:=inR z::s.obs })
  | k=>some (.int k (k.wrap z),s)
theorem tE{k:IntKind}{z:Int}{v:Value}{s s':AS}(h:wr k z s=some (v,s'))(g:bA s'):v = .int k (k.wrap z)∧bA s:=by
 unfold wr at h
 cases ha:s.auto with
 | true=>rw [ha] at h;cases h;exact ⟨rfl,g⟩
 | false =>
  rw [ha] at h
  dsimp only at h
  split at h
  ·cases h
   obtain ⟨h1,h2⟩:=g.tail;exact ⟨by rw [IntWalk.i64_in z h1],h2⟩
  ·cases h;exact ⟨rfl,g⟩

def bFn(op:BinOp)(k:IntKind)(x y:Int):Ask Value :=
 match op with
 | .add=>wr k (x+y)
 | .sub=>wr k (x-y)
 | .mul=>wr k (x*y)
 | .quo=>do eM (y≠0);wr k (x.tdiv y)
 | .rem=>do eM (y≠0);pure (.int k (x.tmod y))
 | .eql=>pure (.bool (x == y))
 | .neq=>pure (.bool (x != y))
 | .lss=>pure (.bool (x<y))
 | .leq=>pure (.bool (x≤y))
 | .gtr=>pure (.bool (x > y))
 | .geq=>pure (.bool (x ≥ y))
 | .and=>do eM (0≤x∧x≤9223372036854775807∧y=1∧k = .i64);pure (.int k (x % 2))
 | _=>fail

def aVr(op:BinOp)(a b:Value)(tb:Bool):Ask Value :=
 match a,b with
 | .int k x,.int k' y=>match op with
  | .shr=>do eM (0≤y);pure (.int k (x.fdiv (2 ^ min y.toNat k.bits)))
  | .shl=>do eM (0≤y∧y≤60∧k = .i64);wr k (x*2 ^ y.toNat)
  | op=>if k=k' then bFn op k x y else fail
 | .bool x,.bool y=>if tb then (match op with
  | .eql=>pure (.bool (x == y))
  | .neq=>pure (.bool (!(x == y)))
  | _=>fail) else fail
 | _,_=>fail

section
variable {P:Program} {w:World}

theorem aJx(E:Int)(h0:0≤E)(h1:E≤9223372036854775807):bits BinOp.and IntKind.i64 E 1=E % 2:=by
 obtain ⟨m,rfl⟩:∃ m:Nat,E=(m:Int):=⟨E.toNat,by omega⟩
 have hb:IntKind.i64.bits=64:=rfl;have e1:(BitVec.ofInt IntKind.i64.bits (m:Int) &&& BitVec.ofInt IntKind.i64.bits 1).toNat=m % 2:=by
  rw [BitVec.toNat_and];have q1:(BitVec.ofInt IntKind.i64.bits (m:Int)).toNat=m:=by
   rw [hb,BitVec.toNat_ofInt];omega
  have q2:(BitVec.ofInt IntKind.i64.bits 1).toNat=1:=rfl;rw [q1,q2,Nat.and_one_is_mod]
 show IntKind.i64.wrap (((BitVec.ofInt IntKind.i64.bits (m:Int) &&& BitVec.ofInt IntKind.i64.bits 1).toNat:Nat):Int)=_;rw [e1];have:m % 2=0∨m % 2=1:=by omega
 rcases this with h | h
 ·rw [h];have:((m:Int) % 2)=0:=by omega
  rw [this];rfl
 ·rw [h];have:((m:Int) % 2)=1:=by omega
  rw [this];rfl
theorem aNx{op:BinOp}{k:IntKind}{x y:Int}{t:TypeId}{v:Value}{s s':AS}(h:bFn op k x y s=some (v,s'))(g:bA s') :
  (Go.binOp op t (.int k x) (.int k y)).run P w = .ok v w∧bA s:=by
 cases op <;> simp only [bFn] at h <;> try exact (aU h).elim
 case add=>obtain ⟨rfl,g⟩:=tE h g;exact ⟨by simp [Go.binOp,Op.intArith],g⟩
 case sub=>obtain ⟨rfl,g⟩:=tE h g;exact ⟨by simp [Go.binOp,Op.intArith],g⟩
 case mul=>obtain ⟨rfl,g⟩:=tE h g;exact ⟨by simp [Go.binOp,Op.intArith],g⟩
 case quo =>
  obtain ⟨_,s1,h1,h2⟩:=aC h;obtain ⟨rfl,g⟩:=tE h2 g;obtain ⟨hy,g⟩:=dL h1 g;exact ⟨by simp [Go.binOp,Op.intDiv,hy],g⟩
 case rem =>
  obtain ⟨_,s1,h1,h2⟩:=aC h;obtain ⟨rfl,rfl⟩:=aH h2;obtain ⟨hy,g⟩:=dL h1 g;exact ⟨by simp [Go.binOp,Op.intDiv,hy],g⟩
 case and =>
  obtain ⟨_,s1,h1,h2⟩:=aC h;obtain ⟨rfl,rfl⟩:=aH h2;obtain ⟨⟨q0,q1,rfl,rfl⟩,g⟩:=dL h1 g;refine ⟨?_,g⟩;rw [binOp_and,intBits_and,aJx x q0 q1];rfl
 all_goals
  obtain ⟨rfl,rfl⟩:=aH h;exact ⟨by simp [Go.binOp,Op.intCmp],g⟩

theorem aVs(d:Nat){t:TypeId}(hu:P.underlying t=some .bool)(x y:Bool):(Op.equalIn (d+1) t (.bool x) (.bool y)).run P w = .ok (x == y) w:=by
 unfold Op.equalIn;simp [run_underlying hu]
theorem aAj{t:TypeId}(hu:P.underlying t=some .bool)(x y:Bool):(Op.equal t (.bool x) (.bool y)).run P w = .ok (x == y) w:=aVs 9999 hu x y
theorem bFo{t:TypeId}(hu:P.underlying t=some .bool)(x y:Bool):(Go.binOp .eql t (.bool x) (.bool y)).run P w = .ok (.bool (x == y)) w:=by
 show ((do pure (Value.bool (← Op.equal t (.bool x) (.bool y)))):Sem Value).run P w=_
 rw [Sem.run_bind,aAj hu];rfl
theorem bFp{t:TypeId}(hu:P.underlying t=some .bool)(x y:Bool):(Go.binOp .neq t (.bool x) (.bool y)).run P w = .ok (.bool (!(x == y))) w:=by
 show ((do pure (Value.bool (!(← Op.equal t (.bool x) (.bool y))))):Sem Value).run P w=_
 rw [Sem.run_bind,aAj hu];rfl

theorem aNy{op:BinOp}{a b v:Value}{t:TypeId}{tb:Bool}(ht:tb=true→P.underlying t=some .bool){s s':AS}(h:aVr op a b tb s=some (v,s'))(g:bA s') :
  (Go.binOp op t a b).run P w = .ok v w∧bA s:=by
 unfold aVr at h
 split at h
 ·split at h
  ·obtain ⟨_,s1,h1,k1⟩:=aC h
   obtain ⟨rfl,rfl⟩:=aH k1;obtain ⟨hy,g⟩:=dL h1 g;exact ⟨by simp [Go.binOp,Op.shift,Int.not_lt.2 hy],g⟩
  ·obtain ⟨_,s1,h1,k1⟩:=aC h
   obtain ⟨rfl,g⟩:=tE k1 g;obtain ⟨⟨q0,q1,rfl⟩,g⟩:=dL h1 g;refine ⟨?_,g⟩;have hb:IntKind.i64.bits=64:=rfl;rw [binOp_shl,shift_shl _ _ _ _ q0 (by rw [hb];omega)];rfl
  ·split at h
   ·rename_i hk;subst hk;exact aNx h g
   ·exact (aU h).elim
 ·split at h
  ·rename_i htb
   have hu:=ht htb
   split at h
   ·obtain ⟨rfl,rfl⟩:=aH h
    exact ⟨bFo hu _ _,g⟩
   ·obtain ⟨rfl,rfl⟩:=aH h
    exact ⟨bFp hu _ _,g⟩
   ·exact (aU h).elim
  ·exact (aU h).elim
 ·exact (aU h).elim
end
end
section

inductive TK where
 | int (k:IntKind)
 | bool
 | str
 | struct (fs:List (Nat × Nat × Bool))
 | array (len e:Nat)
 | slice (e:Nat)
 | ptr (e:Nat)
 | func
 | map (k e:Nat)
 | other
 deriving Inhabited

structure TI where
 k:TK
 size:Nat
 bytes:Nat
 zero:List Value
 plain:Bool
 deriving Inhabited

def jR:TypeDesc→TK
 | .int k => .int k
 | .bool => .bool
 | .string => .str
 | .struct fs => .struct (fs.toList.map fun f => (f.offset, f.type, f.name != "_"))
 | .array n e => .array n e
 | .slice e => .slice e
 | .pointer e => .ptr e
 | .func _ _ _ => .func
 | .map k e => .map k e
 | _ => .other

def cM(P:Program)(t:Nat):Option TI :=
 match P.info? t,P.underlying t with
 | some i,some d=>match i.zero with
  | some z=>some ⟨jR d,i.size,i.bytes,z.cells.toList,!P.eqGuardType P.depth t && !P.stoodInHeld t⟩
  | none=>none
 | _,_=>none

def TI.agg(i:TI):Bool:=match i.k with
 | .struct _ | .array _ _=>true
 | _=>false

theorem eG{P:Program}{t:Nat}{i:TI}(h:cM P t=some i):∃ inf d z,P.info? t=some inf∧P.underlying t=some d∧inf.zero=some z∧i.k=jR d∧i.size=inf.size∧i.bytes=inf.bytes∧i.zero=z.cells.toList ∧
  i.plain=(!P.eqGuardType P.depth t && !P.stoodInHeld t):=by
 unfold cM at h
 cases h1:P.info? t with
 | none=>rw [h1] at h;cases h
 | some inf =>
  cases h2:P.underlying t with
  | none=>rw [h1,h2] at h;cases h
  | some d =>
   cases h3:inf.zero with
   | none=>rw [h1,h2] at h;simp only [h3] at h;cases h
   | some z =>
    rw [h1,h2] at h;simp only [h3] at h
    cases h;exact ⟨inf,d,z,rfl,rfl,h3,rfl,rfl,rfl,rfl,rfl⟩

theorem bMa{d:TypeDesc}(h:jR d = .bool):d = .bool:=by cases d <;> simp [jR] at h ⊢
theorem aAi{d:TypeDesc}(h:jR d = .str):d = .string:=by cases d <;> simp [jR] at h ⊢
theorem aGf{d:TypeDesc}{k:IntKind}(h:jR d = .int k):d = .int k:=by cases d <;> simp [jR] at h ⊢;exact h
theorem mZ{d:TypeDesc}{e:Nat}(h:jR d = .slice e):d = .slice e:=by cases d <;> simp [jR] at h ⊢;exact h
theorem pV{d:TypeDesc}{n e:Nat}(h:jR d = .array n e):d = .array n e:=by cases d <;> simp [jR] at h ⊢;exact h
theorem bSw{d:TypeDesc}{e:Nat}(h:jR d = .ptr e):d = .pointer e:=by cases d <;> simp [jR] at h ⊢;exact h
theorem bFk{d:TypeDesc}{k e:Nat}(h:jR d = .map k e):d = .map k e:=by cases d <;> simp [jR] at h ⊢;exact h
theorem nA{d : TypeDesc}{fs : List (Nat × Nat × Bool)}(h : jR d = .struct fs) : ∃ aS, d = .struct aS ∧ fs = aS.toList.map fun f => (f.offset, f.type, f.name != "_") := by
 cases d <;> simp [jR] at h
 exact ⟨_,rfl,h.symm⟩

section
variable {P:Program} {w:World} {t:Nat} {i:TI}
theorem iN(h:cM P t=some i):(sizeOf t).run P w = .ok i.size w:=by
 obtain ⟨inf,d,z,h1,_,_,_,h2,_⟩:=eG h;simp [sizeOf,typeInfo,h1,h2,program,Sem.run]
theorem eC(h:cM P t=some i):∃ d,P.underlying t=some d∧i.k=jR d:=by
 obtain ⟨inf,d,z,_,h2,_,h3,_⟩:=eG h;exact ⟨d,h2,h3⟩
theorem nB(h:cM P t=some i):(isAgg t).run P w = .ok i.agg w:=by
 obtain ⟨d,h1,h2⟩:=eC h;unfold isAgg TI.agg;rw [Sem.run_bind,run_underlying h1,h2];cases d <;> rfl
theorem aRo(h:cM P t=some i):∃ z,(zeroValue t).run P w = .ok z w∧i.zero=z.cells.toList:=by
 obtain ⟨inf,d,z,h1,_,h2,_,_,_,h3,_⟩:=eG h;exact ⟨z,by simp [zeroValue,typeInfo,h1,h2,program,Sem.run],h3⟩
end

def cv:Value→PV
 | .agg cs=>if cs.toList.all (·.oneCell') then .agg (cs.toList.map .v) else .v (.agg cs)
 | v => .v v
theorem bFl(F:Nat→Prop)(w:World)(v:Value):cS F w (cv v) v:=by
 cases v <;> try exact .v _
 rename_i cs;simp only [cv]
 split
 ·rename_i h1
  rw [iD] at h1
  have hg:∀ i,i<cs.size→∃ h:i<cs.toList.length,cs.getD i undef=cs.toList[i]:=fun i hi=>⟨by simpa using hi,by simp [Bu,hi]⟩
  refine .agg _ _ (fun i hi => ?_) (by simp) (fun i hi => ?_)
  ·obtain ⟨h2,h3⟩:=hg i (by simpa using hi)
   rw [h3];exact h1 _ (iC h2)
  ·obtain ⟨h2,h3⟩:=hg i (by simpa using hi)
   simp only [gL];rw [h3];exact .v _
 ·exact .v _

def ev(st:St):Operand→Option AV
 | .tmp t=>st.t[t]?
 | .const (.bool b)=>some (.kb b)
 | .const v=>some (.p (cv v))
 | .func f=>some (.fn f [] [])
 | .global _=>none

structure cQ (C:Cx) (M:Mem) (w:World) (ts:List AV) (us:Array Value):Prop where
 size:us.size=ts.length
 rep:∀ i (h:i<ts.length),Rep C M w ts[i] (us.getD i undef)

theorem cQ.at{C:Cx}{M:Mem}{w:World}{ts:List AV}{us:Array Value}(h:cQ C M w ts us){i:Nat}{x:AV}(hx:ts[i]? = some x):Rep C M w x (us.getD i undef):=by
 obtain ⟨hi,rfl⟩:=Ci.1 hx;exact h.rep i hi

theorem cQ.ev{C:Cx}{st:St}{w:World}{a:Act}(h:cQ C st.m w st.t a.tmps){x:Operand}{v:AV}(hx:ev st x=some v):Rep C st.m w v (a.eval x):=by
 cases x with
 | tmp t=>exact h.at hx
 | const c=>cases c <;> (cases hx;first | exact .kb _ | exact .p _ _ (bFl _ _ _))
 | func f=>cases hx;exact .fn f [] [] #[] #[] rfl rfl (fun i h=>by simp at h) (fun i h=>by simp at h)
 | global g=>cases hx

def put(ts:List AV)(d:Option Tmp)(x:AV):List AV:=match d with
 | some i=>ts.set i x
 | none=>ts

theorem cQ.put{C:Cx}{M:Mem}{w:World}{ts:List AV}{a:Act}(h:cQ C M w ts a.tmps){d:Option Tmp}{x:AV}{v:Value}(hx:Rep C M w x v):cQ C M w (put ts d x) (a.put d v).tmps:=by
 cases d with
 | none=>exact h
 | some i =>
  refine ⟨by simp [KV.put,Act.put,h.size],fun j hj => ?_⟩
  simp only [KV.put,aGh] at hj
  simp only [KV.put,Act.put,Bu,Array.getElem?_setIfInBounds,aVw];have hs:=h.size
  by_cases hij:i=j
  ·subst hij
   simp [hs,hj];exact hx
  ·simp only [hij,if_false]
   have:=h.rep j hj
   rwa [Bu] at this

theorem cQ.le{C C':Cx}{M M':Mem}{w w':World}{ts:List AV}{us:Array Value}(h:cQ C M w ts us)(hL:Le C C' M M' w w'):cQ C' M' w' ts us:=⟨h.size,fun i hi=>(h.rep i hi).mono hL⟩

def un:AV→AV
 | .kb b => .p (.v (.bool b))
 | x=>x
theorem bFm{C:Cx}{M:Mem}{w:World}{x:AV}{u:Value}(h:Rep C M w x u):Rep C M w (un x) u:=by
 cases h <;> (try (constructor <;> assumption))
 exact .p _ _ (.v _)

def toV:AV→Option Value
 | .p (.v x)=>some x
 | .kb b=>some (.bool b)
 | _=>none
theorem lW{C:Cx}{M:Mem}{w:World}{x:AV}{u v:Value}(h:Rep C M w x u)(hv:toV x=some v):u=v:=by
 cases h with
 | p x u h=>cases h <;> simp [toV] at hv;exact hv
 | kb b=>simpa [toV] using hv
 | _=>simp [toV] at hv

def toI(x:AV):Option (IntKind × Int):=match toV x with
 | some (.int k n)=>some (k,n)
 | _=>none
theorem oJ{C:Cx}{M:Mem}{w:World}{x:AV}{u:Value}{k:IntKind}{n:Int}(h:Rep C M w x u)(hv:toI x=some (k,n)):u = .int k n:=by
 unfold toI at hv
 split at hv
 ·rename_i h2;cases hv;exact lW h h2
 ·cases hv

def cellsOf:AV→Option (List AV)
 | .p (.agg xs)=>some (xs.map .p)
 | .p (.v x)=>if x.oneCell' then some [.p (.v x)] else none
 | .agg cs=>some cs
 | .tup _=>none
 | .any=>none
 | x=>some [x]

def pvs:List AV→Option (List PV)
 | []=>some []
 | .p x::r=>(pvs r).map (x :: ·)
 | .kb b::r=>(pvs r).map (.v (.bool b) :: ·)
 | _=>none

def iO(cs:List AV):AV:=match pvs cs with
 | some xs => .p (.agg xs)
 | none => .agg cs

theorem yD{C:Cx}{M:Mem}{w:World}:∀ (cs:List AV) (xs:List PV),pvs cs=some xs→xs.length=cs.length∧∀ i (h:i<cs.length) (h':i<xs.length) (u:Value),Rep C M w cs[i] u→cS C.F w xs[i] u
 | [],xs,h=>by cases h;exact ⟨rfl,fun i h=>by simp at h⟩
 | x::r,xs,h=>by
  cases x <;> simp only [pvs] at h <;> (try cases h)
  ·rename_i x
   cases hr:pvs r with
   | none=>rw [hr] at h;cases h
   | some ys =>
    rw [hr] at h;cases h
    obtain ⟨h1,h2⟩:=yD r ys hr;refine ⟨by simp [h1],fun i hi C8 u hu => ?_⟩
    cases i with
    | zero=>cases hu with | p _ _ h=>exact h
    | succ i=>exact h2 i (by simpa using hi) (by simpa using C8) u hu
  ·rename_i b
   cases hr:pvs r with
   | none=>rw [hr] at h;cases h
   | some ys =>
    rw [hr] at h;cases h
    obtain ⟨h1,h2⟩:=yD r ys hr;refine ⟨by simp [h1],fun i hi C8 u hu => ?_⟩
    cases i with
    | zero=>cases hu;exact .v _
    | succ i=>exact h2 i (by simpa using hi) (by simpa using C8) u hu

theorem jS{C:Cx}{M:Mem}{w:World}{cs:List AV}{vs:Array Value}(h0:∀ i,i<cs.length→(vs.getD i undef).oneCell'=true)(h1:vs.size=cs.length)(h2:∀ i (h:i<cs.length),Rep C M w cs[i] (vs.getD i undef)):Rep C M w (iO cs) (.agg vs):=by
 unfold iO
 split
 ·rename_i xs hx
  obtain ⟨h3,h4⟩:=yD (C:=C) (M:=M) (w:=w) cs xs hx;exact .p _ _ (.agg _ _ (fun i hi=>h0 i (by omega)) (by omega) (fun i hi=>h4 i (by omega) hi _ (h2 i (by omega))))
 ·exact .agg _ _ h0 h1 h2

theorem aDr{v:Value}(h:v.oneCell'=true):v.cells = #[v]:=by cases v <;> first | rfl | (simp [Value.oneCell'] at h)
theorem fH{C:Cx}{M:Mem}{w:World}{x:AV}{u:Value}(h:Rep C M w x u)(h1:u.oneCell'=true):u.cells.size=[x].length∧(∀ i (hi:i<[x].length),Rep C M w [x][i] (u.cells.getD i undef))∧∀ i,i<[x].length→(u.cells.getD i undef).oneCell'=true:=by
 rw [aDr h1];refine ⟨rfl,fun i hi => ?_,fun i hi => ?_⟩
 ·obtain rfl:i=0:=by simpa using hi
  exact h
 ·obtain rfl:i=0:=by simpa using hi
  exact h1

theorem pW{C:Cx}{M:Mem}{w:World}{x:AV}{u:Value}(h:Rep C M w x u){cs:List AV}(hc:cellsOf x=some cs):u.cells.size=cs.length∧(∀ i (hi:i<cs.length),Rep C M w cs[i] (u.cells.getD i undef)) ∧
  ∀ i,i<cs.length→(u.cells.getD i undef).oneCell'=true:=by
 cases h with
 | p x u h =>
  cases h with
  | v y =>
   simp only [cellsOf] at hc
   split at hc
   ·rename_i h1;cases hc;exact fH (.p _ _ (.v _)) h1
   ·cases hc
  | sl n cs p cap us h1 h2 h3 h4 h5=>cases hc;exact fH (.p _ _ (.sl n cs p cap us h1 h2 h3 h4 h5)) rfl
  | agg xs vs h0 h1 h2 =>
   cases hc;refine ⟨by simpa [Value.cells] using h1,fun i hi => ?_,fun i hi=>h0 i (by simpa using hi)⟩
   simp only [gL];exact .p _ _ (h2 i (by simpa using hi))
  | mp es b cl arr us hb h0 h1 h2 h3=>cases hc;exact fH (.p _ _ (.mp es b cl arr us hb h0 h1 h2 h3)) rfl
  | rp cs off b o us h1 h2 h3=>cases hc;exact fH (.p _ _ (.rp cs off b o us h1 h2 h3)) rfl
  | fn f cs ds us vs h1 h2 h3 h4=>cases hc;exact fH (.p _ _ (.fn f cs ds us vs h1 h2 h3 h4)) rfl
 | any u=>cases hc
 | tup cs vs h1 h2=>cases hc
 | agg cs vs h0 h1 h2=>cases hc;exact ⟨h1,h2,h0⟩
 | kb b=>cases hc;exact fH (.kb b) rfl
 | yld l=>cases hc;exact fH (.yld l) rfl
 | own id u h0 ha h=>cases hc;exact fH (.own id u h0 ha h) h0
 | arr id off n u h0 ha h=>cases hc;exact fH (.arr id off n u h0 ha h) h0
 | ptr id off u h0 ha h hp=>cases hc;exact fH (.ptr id off u h0 ha h hp) h0
 | mp id u h0 ha h=>cases hc;exact fH (.mp id u h0 ha h) h0
 | pa id q u h0 ha h=>cases hc;exact fH (.pa id q u h0 ha h) h0
 | rp cs off b o us h1 h2 h3=>cases hc;exact fH (.rp cs off b o us h1 h2 h3) rfl
 | fn f cs ds us vs h1 h2 h3 h4=>cases hc;exact fH (.fn f cs ds us vs h1 h2 h3 h4) rfl
end
section

abbrev TT:=Nat→Option TI

def aNs(c:AV):Ask Bool:=match c with
 | .kb b=>pure b
 | .p (.v (.bool b))=>aNw b
 | _=>fail

theorem oI{C:Cx}{M:Mem}{w:World}{c:AV}{u:Value}(hc:Rep C M w c u){d:Bool}{s s':AS}(h:aNs c s=some (d,s'))(g:bA s'):u = .bool d∧bA s:=by
 unfold aNs at h
 split at h
 ·obtain ⟨rfl,rfl⟩:=aH h;cases hc;exact ⟨rfl,g⟩
 ·obtain ⟨rfl,g⟩:=aJw h g
  cases hc with | p _ _ h=>cases h;exact ⟨rfl,g⟩
 ·exact (aU h).elim

def bQi:AV→Bool
 | .p (.v (.slice none 0 0))=>true
 | .p (.v (.pointer none))=>true
 | .p (.v .nilFunc)=>true
 | .p (.v (.map none))=>true
 | _=>false

def bU(m:Mem)(id:Nat):Option AO:=match m[id]? with
 | some (some o)=>some o
 | _=>none
theorem dU{m:Mem}{id:Nat}{o:AO}(h:bU m id=some o):m[id]? = some (some o):=by
 unfold bU at h;split at h
 ·cases h;assumption
 ·cases h
theorem bI{m:Mem}{id:Nat}{o:AO}:bU m id=some o↔m[id]? = some (some o):=⟨dU,fun h=>by unfold bU;rw [h]⟩
def eZ(m:Mem)(id:Nat):Option (Nat × Nat × List PV):=match bU m id with
 | some (.row ty n cs)=>some (ty,n,cs)
 | _=>none
def dX(m:Mem)(id:Nat):Bool:=match bU m id with
 | some o=>o.live
 | _=>false
theorem dG{m:Mem}{id:Nat}{r:Nat × Nat × List PV}(h:eZ m id=some r):m[id]? = some (some (.row r.1 r.2.1 r.2.2)):=by
 unfold eZ at h;split at h
 ·cases h;exact dU (by assumption)
 ·cases h
theorem dJ{m:Mem}{id:Nat}(h:dX m id=true):∃ o,m[id]? = some (some o)∧o.live=true:=by
 unfold dX at h;split at h
 ·exact ⟨_,dU (by assumption),h⟩
 ·cases h
theorem gR{m:Mem}{id:Nat}{o:AO}(h:m[id]? = some (some o))(hl:o.live=true):dX m id=true:=by
 unfold dX;rw [bI.2 h];exact hl

def aRn(T:TT)(t:Nat):Bool:=match T t with
 | some i=>match i.k with | .bool=>true | _=>false
 | none=>false

def bLx(op:BinOp)(a b:ByteArray):Ask Value:=match op with
 | .add=>do eM (a.data.toList.length+b.data.toList.length≤4611686018427387904);pure (.string ⟨(a.data.toList++b.data.toList).toArray⟩)
 | .eql=>pure (.bool (decide (a.data.toList=b.data.toList)))
 | .neq=>pure (.bool (!decide (a.data.toList=b.data.toList)))
 | _=>fail
def bLy(T:TT)(op:BinOp)(t:Nat)(x y:Value):Ask Value:=match x,y with
 | .string a,.string b=>bLx op a b
 | x,y=>aVr op x y (aRn T t)
def bLz(T:TT)(op:BinOp)(t:Nat)(a b:AV):Ask AV:=do
 let x ← lift (toV a)
 let y ← lift (toV b)
 let v ← bLy T op t x y
 pure (.p (.v v))

def vun(op:UnOp)(x:AV):Ask AV:=match toV x with
 | some (.bool b)=>match op with
  | .not=>pure (.p (.v (.bool (!b))))
  | _=>fail
 | some (.int k n)=>match op with
  | .neg=>do let v ← wr k (0-n);pure (.p (.v v))
  | _=>fail
 | _=>fail

def vconv(T:TT)(src dst:Nat)(x:AV):Ask AV:=do
 let _ ← lift (T src)
 let i ← lift (T dst)
 match i.k,toV x with
 | .int k,some (.int _ n)=>do let v ← wr k n;pure (.p (.v v))
 | .str,some (.int _ n)=>do eM (0≤n∧n<128);pure (.p (.v (.string ⟨[UInt8.ofNat n.toNat].toArray⟩)))
 | .str,some (.string s)=>pure (.p (.v (.string s)))
 | _,_=>fail

def vext(x:AV)(ix:Nat):Ask AV:=match x with
 | .tup vs=>lift vs[ix]?
 | _=>fail

variable {P:Program} {T:TT} {C:Cx} {M:Mem} {w:World}

theorem uN{op:BinOp}{t:Nat}{x y:Operand}{a b:Value}(h:∀ cs,a ≠ .agg cs)(h2:a ≠ .nilIface):(eqGuard op t x y a b).run P w = .ok () w:=by
 unfold eqGuard
 split <;> (cases a <;> first | rfl | exact absurd rfl h2 | exact absurd rfl (h _))

theorem bFj(a b:ByteArray):a++b=⟨(a.data.toList++b.data.toList).toArray⟩:=by
 apply ByteArray.ext;apply Array.toList_inj.1;simp
theorem aNt{op:BinOp}{a b:ByteArray}{t:Nat}{v:Value}{s s':AS}(h:bLx op a b s=some (v,s'))(g:bA s'):(Go.binOp op t (.string a) (.string b)).run P w = .ok v w∧bA s:=by
 have e:(a.toList == b.toList)=decide (a.data.toList=b.data.toList):=by rw [Lib.toList_data,Lib.toList_data,Bool.eq_iff_iff,beq_iff_eq,decide_eq_true_iff]
 unfold bLx at h
 split at h
 ·obtain ⟨_,s1,h1,k1⟩:=aC h
  obtain ⟨rfl,rfl⟩:=aH k1;obtain ⟨hp,g⟩:=dL h1 g;refine ⟨?_,g⟩;have hm:¬ ((a.size+b.size:Nat):Int) > IntKind.i64.max:=by
   rw [Lib.size_eq,Lib.size_eq,show IntKind.i64.max=9223372036854775807 from rfl];omega
  show (Op.stringOp .add a b).run P w=_;unfold Op.stringOp;dsimp only;rw [if_neg hm,bFj];rfl
 ·obtain ⟨rfl,rfl⟩:=aH h
  refine ⟨?_,g⟩;show (Op.stringOp .eql a b).run P w=_;unfold Op.stringOp;dsimp only;rw [e];rfl
 ·obtain ⟨rfl,rfl⟩:=aH h
  refine ⟨?_,g⟩;show (Op.stringOp .neq a b).run P w=_;unfold Op.stringOp;dsimp only;rw [e];rfl
 ·exact (aU h).elim
theorem aNu(hT:∀ t i,T t=some i→cM P t=some i){op:BinOp}{t:Nat}{a b x:AV}{u v:Value}{s s':AS}(ha:Rep C M w a u)(hb:Rep C M w b v)(h:bLz T op t a b s=some (x,s'))(g:bA s') :
  bA s∧∃ r,(Go.binOp op t u v).run P w = .ok r w∧Rep C M w x r∧(∀ cs,u ≠ .agg cs)∧u ≠ .nilIface:=by
 unfold bLz at h
 obtain ⟨p,s1,h1,k1⟩:=aC h;obtain ⟨e1,rfl⟩:=aE h1;obtain ⟨q,s2,h2,k2⟩:=aC k1;obtain ⟨e2,rfl⟩:=aE h2;obtain ⟨r,s3,h3,k3⟩:=aC k2;obtain ⟨rfl,rfl⟩:=aH k3;obtain rfl:=lW ha e1;obtain rfl:=lW hb e2;unfold bLy at h3
 split at h3
 ·obtain ⟨h4,g⟩:=aNt (P:=P) (w:=w) (t:=t) h3 g
  exact ⟨g,r,h4,.p _ _ (.v _),nofun,nofun⟩
 have hk:(∀ cs,u ≠ .agg cs)∧u ≠ .nilIface:=by
  unfold aVr at h3
  split at h3
  ·exact ⟨nofun,nofun⟩
  ·exact ⟨nofun,nofun⟩
  ·exact (aU h3).elim
 obtain ⟨h4,g⟩:=aNy (P:=P) (w:=w) (t:=t) (fun hb=>by
  unfold aRn at hb
  split at hb
  ·rename_i i hi
   obtain ⟨d,hd,hk⟩:=eC (hT _ _ hi)
   split at hb
   ·rename_i Cv;rw [Cv] at hk;rw [bMa hk.symm] at hd;exact hd
   ·cases hb
  ·cases hb) h3 g
 exact ⟨g,r,h4,.p _ _ (.v _),hk⟩

theorem aVp{op:UnOp}{a x:AV}{u:Value}{s s':AS}(ha:Rep C M w a u)(h:vun op a s=some (x,s'))(g:bA s'):bA s∧∃ r,(Op.unary op u).run P w = .ok r w∧Rep C M w x r:=by
 unfold vun at h
 generalize hv:toV a=q at h
 split at h
 ·rename_i b
  obtain rfl:=lW ha hv
  split at h
  ·obtain ⟨rfl,rfl⟩:=aH h
   exact ⟨g,_,rfl,.p _ _ (.v _)⟩
  ·exact (aU h).elim
 ·rename_i k n
  obtain rfl:=lW ha hv
  split at h
  ·obtain ⟨r,s1,h1,k1⟩:=aC h
   obtain ⟨rfl,rfl⟩:=aH k1;obtain ⟨rfl,g⟩:=tE h1 g;exact ⟨g,_,rfl,.p _ _ (.v _)⟩
  ·exact (aU h).elim
 ·exact (aU h).elim

theorem aVq{n:Int}(h0:0≤n)(h1:n<128):Utf8.encode n=⟨[UInt8.ofNat n.toNat].toArray⟩:=by
 have hv:Utf8.valid n=true:=by
  unfold Utf8.valid;simp only [aCj,B4,decide_eq_true_eq];exact .inl ⟨h0,by omega⟩
 unfold Utf8.encode;simp only [hv,if_true];rw [if_pos (by omega)]
theorem aJu(hT:∀ t i,T t=some i→cM P t=some i){src dst:Nat}{a x:AV}{u:Value}{s s':AS}(ha:Rep C M w a u)(h:vconv T src dst a s=some (x,s'))(g:bA s'):bA s∧∃ r,(Go.convert src dst u).run P w = .ok r w∧Rep C M w x r:=by
 unfold vconv at h
 obtain ⟨i1,s1,h1,k1⟩:=aC h;obtain ⟨e1,rfl⟩:=aE h1;obtain ⟨i2,s2,h2,k2⟩:=aC k1;obtain ⟨e2,rfl⟩:=aE h2;clear h k1;obtain ⟨d1,H0,_⟩:=eC (hT _ _ e1);obtain ⟨d2,Fp,Cv⟩:=eC (hT _ _ e2);generalize hv:toV a=q at k2
 generalize hk:i2.k=q2 at k2
 split at k2
 ·rename_i k kk n
  obtain rfl:=lW ha hv;obtain ⟨r,s1,h3,k3⟩:=aC k2;obtain ⟨rfl,rfl⟩:=aH k3;obtain ⟨rfl,g⟩:=tE h3 g;rw [hk] at Cv
  have:=aGf Cv.symm;subst this;refine ⟨g,_,?_,.p _ _ (.v _)⟩;simp [Go.convert,run_underlying H0,run_underlying Fp,Conv.intToInt]
 ·obtain rfl:=lW ha hv
  obtain ⟨_,s1,h3,k3⟩:=aC k2;obtain ⟨rfl,rfl⟩:=aH k3;obtain ⟨hp,g⟩:=dL h3 g;rw [hk] at Cv
  obtain rfl:=aAi Cv.symm;refine ⟨g,_,?_,.p _ _ (.v _)⟩;rename_i n;simp [Go.convert,run_underlying H0,run_underlying Fp,Conv.intToString,aVq hp.1 hp.2]
 ·obtain rfl:=lW ha hv
  obtain ⟨rfl,rfl⟩:=aH k2;rw [hk] at Cv
  obtain rfl:=aAi Cv.symm;refine ⟨g,_,?_,.p _ _ (.v _)⟩;simp [Go.convert,run_underlying H0,run_underlying Fp]
 ·exact (aU k2).elim

theorem aNv{a x:AV}{ix:Nat}{u:Value}{s s':AS}(ha:Rep C M w a u)(h:vext a ix s=some (x,s'))(g:bA s'):bA s∧∃ r,(Instr.extract u ix).run P w = .ok r w∧Rep C M w x r:=by
 unfold vext at h
 split at h
 ·obtain ⟨e1,rfl⟩:=aE h
  cases ha with
  | tup cs vs h2 h3 =>
   obtain ⟨hi,rfl⟩:=Ci.1 e1;have C8:ix<vs.size:=by omega
   have h4:=h3 ix hi;rw [Bu,rU C8] at h4
   exact ⟨g,_,by simp [Instr.extract,rU C8],h4⟩
 ·exact (aU h).elim
end
section

def oG(T:TT)(m:Mem)(t:Nat)(x:AV)(f:Nat):Ask AV:=do
 let i ← lift (T t)
 let fs ← lift (match i.k with | .struct fs=>some fs | _=>none)
 let fd ← lift fs[f]?
 let j ← lift (T fd.2.1)
 lift (if j.size=0 then none else match x with
  | .ptr id off=>some (.ptr id (off+fd.1))
  | .rp cs off=>some (.rp cs (off+fd.1))
  | _=>none)

def eQ(T:TT)(m:Mem)(t:Nat)(x ix:AV):Ask AV:=do
 let i ← lift (T t)
 let kn ← lift (toI ix)
 match i.k with
 | .slice e=>do
  let j ← lift (T e)
  match x with
  | .own id=>do
   let r ← lift (eZ m id)
   eM (0≤kn.2∧kn.2<(r.2.1:Int))
   pure (.ptr id (kn.2.toNat*j.size))
  | .arr id off l=>do
   lift (if dX m id then some () else none)
   eM (0≤kn.2∧kn.2<(l:Int))
   pure (.ptr id (off+kn.2.toNat*j.size))
  | .p (.sl l cs)=>do
   eM (0≤kn.2∧kn.2<(l:Int)∧kn.2.toNat*j.size<cs.length)
   pure (.rp cs (kn.2.toNat*j.size))
  | _=>fail
 | .array len e=>do
  let j ← lift (T e)
  match x with
  | .ptr id off=>do
   eM (0≤kn.2∧kn.2<(len:Int))
   pure (.ptr id (off+kn.2.toNat*j.size))
  | .rp cs off=>do
   eM (0≤kn.2∧kn.2<(len:Int))
   pure (.rp cs (off+kn.2.toNat*j.size))
  | _=>fail
 | _=>fail

def vS(i:TI)(cs:List PV)(off:Nat):Ask AV:=match i.agg with
 | true=>do eM (off+i.size≤cs.length);let x ← aJv (some (.agg ((cs.drop off).take i.size)));pure (.p x)
 | false=>do let x ← aJv cs[off]?;pure (.p x)
def vT(i:TI)(cs:List AV)(off:Nat):Ask AV:=match i.agg with
 | true=>lift (if off+i.size≤cs.length then some (iO ((cs.drop off).take i.size)) else none)
 | false=>lift cs[off]?

def vload(T:TT)(m:Mem)(t:Nat)(x:AV):Ask AV:=do
 let i ← lift (T t)
 match x with
 | .ptr id off=>do
  let o ← lift (bU m id)
  match o with
  | .box _ cs=>vT i cs off
  | .row _ _ cs=>vS i cs off
  | _=>fail
 | .rp cs off=>vS i cs off
 | _=>fail

def vpart(T:TT)(t:Nat)(x:AV)(off:Nat):Ask AV:=do
 let j ← lift (T t)
 match x with
 | .p (.agg xs)=>match j.agg with
  | true=>do eM (off+j.size≤xs.length);pure (.p (.agg ((xs.drop off).take j.size)))
  | false=>do let y ← lift xs[off]?;pure (.p y)
 | .agg cs=>vT j cs off
 | _=>fail

def vfield(T:TT)(t:Nat)(x:AV)(f:Nat):Ask AV:=do
 let i ← lift (T t)
 let fs ← lift (match i.k with | .struct fs=>some fs | _=>none)
 let fd ← lift fs[f]?
 vpart T fd.2.1 x fd.1

def vindex(T:TT)(t:Nat)(x ix:AV):Ask AV:=do
 let i ← lift (T t)
 let kn ← lift (toI ix)
 match i.k with
 | .array len e=>do
  let j ← lift (T e)
  eM (0≤kn.2∧kn.2<(len:Int))
  vpart T e x (kn.2.toNat*j.size)
 | .str=>match x with
  | .p (.v (.string s))=>do
   eM (0≤kn.2)
   let y ← aJv ((s.data.toList[kn.2.toNat]?).map fun b => .v (.int .u8 (b.toNat:Int)))
   pure (.p y)
  | _=>fail
 | _=>fail

variable {P:Program} {T:TT} {C:Cx} {M:Mem} {w:World}

theorem oH{i:TI}{fs:List (Nat × Nat × Bool)}(h:(match i.k with | .struct fs=>some fs | _=>none)=some fs):i.k = .struct fs:=by
 split at h
 ·cases h;assumption
 ·cases h

theorem aDp{aS : Array Field}{f : Nat}{fd : Nat × Nat × Bool}(h : (aS.toList.map fun f => (f.offset, f.type, f.name != "_"))[f]? = some fd) : ∃ fl, aS[f]? = some fl ∧ fl.offset = fd.1 ∧ fl.type = fd.2.1 := by
 rw [rV,C7] at h
 obtain ⟨fl,h1,rfl⟩:=h;exact ⟨fl,by simpa using h1,rfl,rfl⟩

theorem fM{id off:Nat}{u:Value}(h:Rep C M w (.ptr id off) u)(hl:dX M id=true):∃ b,u = .pointer (some ⟨b,off,none⟩)∧C.ι id=some b:=by
 cases h with
 | ptr id off u h0 ha h hp =>
  obtain ⟨o,ho,hl⟩:=dJ hl;exact h o ho hl
theorem aDq{id off:Nat}{u:Value}(h:Rep C M w (.ptr id off) u):∃ b,u = .pointer (some ⟨b,off,none⟩)∧∀ k,Rep C M w (.ptr id (off+k)) (.pointer (some ⟨b,off+k,none⟩)):=by
 cases h with
 | ptr id off u h0 ha h hp =>
  obtain ⟨b,rfl⟩:=hp;refine ⟨b,rfl,fun k => .ptr _ _ _ rfl ha (fun o ho hl => ?_) ⟨b,rfl⟩⟩
  obtain ⟨b',h1,h2⟩:=h o ho hl;cases h1;exact ⟨b,rfl,h2⟩

theorem aRm{id off b:Nat}(hl:dX M id=true)(hb:C.ι id=some b):Rep C M w (.ptr id off) (.pointer (some ⟨b,off,none⟩)):=by
 obtain ⟨o,ho,_⟩:=dJ hl;exact .ptr id off _ rfl ⟨o,ho⟩ (fun _ _ _=>⟨b,rfl,hb⟩) ⟨b,rfl⟩

theorem aJt{id:Nat}{r:Nat × Nat × List PV}(h:eZ M id=some r):dX M id=true:=by
 exact gR (dG h) rfl

theorem bX{α:Type}{c:Prop}[Decidable c]{x y:α}(h:(if c then some x else none)=some y):c∧x=y:=by
 split at h
 ·cases h;exact ⟨by assumption,rfl⟩
 ·cases h

theorem aAh{f:Field}{j:TI}(hj:cM P f.type=some j)(h0:j.size≠0)(b off:Nat):(fieldPlace ⟨b,off,none⟩ f).run P w = .ok ⟨b,off+f.offset,none⟩ w:=by
 unfold fieldPlace;rw [Sem.run_bind,iN hj,Result.andThen_ok,if_neg h0,Addr.add_lit];rfl

theorem vU(hT:∀ t i,T t=some i→cM P t=some i){t f:Nat}{a x:AV}{u:Value}{s s':AS}(ha:Rep C M w a u)(h:oG T M t a f s=some (x,s'))(g:bA s') :
  bA s∧∃ r,(Instr.fieldAt t u f).run P w = .ok r w∧Rep C M w x r:=by
 unfold oG at h
 obtain ⟨i,s1,h1,k1⟩:=aC h;obtain ⟨e1,rfl⟩:=aE h1;obtain ⟨fs,s2,h2,k2⟩:=aC k1;obtain ⟨e2,rfl⟩:=aE h2;obtain ⟨fd,s3,h3,k3⟩:=aC k2;obtain ⟨e3,rfl⟩:=aE h3;obtain ⟨j,s4,h4,k4⟩:=aC k3;obtain ⟨e4,rfl⟩:=aE h4;obtain ⟨e5,rfl⟩:=aE k4;clear h1 h2 h3 h4 k1 k2 k3 k4 h;obtain ⟨d,hd,hk⟩:=eC (hT _ _ e1);rw [oH e2] at hk
 obtain ⟨aS,rfl,rfl⟩:=nA hk.symm;obtain ⟨fl,hf,ho,ht⟩:=aDp e3
 split at e5
 ·cases e5
 rename_i h0;refine ⟨g,?_⟩;have hj:cM P fl.type=some j:=by rw [ht];exact hT _ _ e4
 have hrun:∀ b off,u = .pointer (some ⟨b,off,none⟩)→(Instr.fieldAt t u f).run P w = .ok (.pointer (some ⟨b,off+fd.1,none⟩)) w:=by
  rintro b off rfl;unfold Instr.fieldAt;rw [Sem.run_bind,run_underlying hd,Result.andThen_ok];simp only [hf];rw [Sem.run_bind];show ((pure (⟨b,off,none⟩:Addr):Sem Addr).run P w).andThen _=_;rw [Sem.run_pure,Result.andThen_ok,Sem.run_bind,aAh hj h0,Result.andThen_ok,ho];rfl
 split at e5
 ·rename_i id off
  cases e5;obtain ⟨b,hu,hb⟩:=aDq ha;exact ⟨_,hrun b off hu,hb _⟩
 ·rename_i cs off
  cases e5;cases ha with
  | rp cs off b o us h1 h2 h3 =>
   refine ⟨_,hrun b (o+off) rfl,?_⟩;rw [Nat.add_assoc];exact .rp cs _ b o us h1 h2 h3
 ·cases e5

theorem iM{t e:Nat}{j:TI}(hu:P.underlying t=some (.slice e))(hj:cM P e=some j){b off n cap:Nat}{k:IntKind}{i:Int}(h0:0≤i)(h1:i<n) :
  (Instr.indexAt t (.slice (some ⟨b,off,none⟩) n cap) (.int k i)).run P w = .ok (.pointer (some ⟨b,off+i.toNat*j.size,none⟩)) w:=by
 unfold Instr.indexAt;simp [asIntOf,run_underlying hu,iN hj,h0,h1,Addr.add_lit]
theorem lV{t e len:Nat}{j:TI}(hu:P.underlying t=some (.array len e))(hj:cM P e=some j){b off:Nat}{k:IntKind}{i:Int}(h0:0≤i)(h1:i<len) :
  (Instr.indexAt t (.pointer (some ⟨b,off,none⟩)) (.int k i)).run P w = .ok (.pointer (some ⟨b,off+i.toNat*j.size,none⟩)) w:=by
 unfold Instr.indexAt;simp [asIntOf,run_underlying hu,iN hj,h0,h1,Addr.add_lit,Instr.sureAddr]

theorem vV(hT:∀ t i,T t=some i→cM P t=some i){t:Nat}{a b x:AV}{u v:Value}{s s':AS}(ha:Rep C M w a u)(hb:Rep C M w b v)(h:eQ T M t a b s=some (x,s'))(g:bA s') :
  bA s∧∃ r,(Instr.indexAt t u v).run P w = .ok r w∧Rep C M w x r:=by
 unfold eQ at h
 obtain ⟨i,s1,h1,k1⟩:=aC h;obtain ⟨e1,rfl⟩:=aE h1;obtain ⟨⟨kd,n⟩,s2,h2,k2⟩:=aC k1;obtain ⟨e2,rfl⟩:=aE h2;clear h1 h2 k1 h;obtain rfl:=oJ hb e2;obtain ⟨d,hd,hk⟩:=eC (hT _ _ e1);generalize hik:i.k=ik at k2
 split at k2
 ·rename_i e
  rw [hik] at hk
  obtain rfl:=mZ hk.symm;obtain ⟨j,s3,h3,k3⟩:=aC k2;obtain ⟨e3,rfl⟩:=aE h3;clear k2 h3
  split at k3
  ·rename_i id
   obtain ⟨r,s4,h4,k4⟩:=aC k3;obtain ⟨e4,rfl⟩:=aE h4;obtain ⟨_,s5,h5,k5⟩:=aC k4;obtain ⟨rfl,rfl⟩:=aH k5;obtain ⟨⟨h6,h7⟩,g⟩:=dL h5 g;refine ⟨g,?_⟩;cases ha with
   | own id u h0 ha h =>
    rcases h _ _ _ (dG e4) with ⟨_,_,hn⟩ | ⟨b,rfl,hb⟩
    ·dsimp only at h6 h7 hn;omega
    ·refine ⟨_,iM hd (hT _ _ e3) h6 h7,?_⟩
     rw [iP];exact aRm (aJt e4) hb
  ·rename_i id off l
   obtain ⟨_,s4,h4,k4⟩:=aC k3;obtain ⟨e4,rfl⟩:=aE h4;obtain ⟨hl,_⟩:=bX e4;obtain ⟨_,s5,h5,k5⟩:=aC k4;obtain ⟨rfl,rfl⟩:=aH k5;obtain ⟨⟨h6,h7⟩,g⟩:=dL h5 g;refine ⟨g,?_⟩;cases ha with
   | arr id off l u h0 ha h =>
    obtain ⟨o,ho,hlo⟩:=dJ hl
    rcases h o ho hlo with ⟨hn,_⟩ | ⟨b,cap,rfl,_,_,hb⟩
    ·dsimp only at h6 h7;omega
    ·exact ⟨_,iM hd (hT _ _ e3) h6 h7,aRm hl hb⟩
  ·rename_i l cs
   obtain ⟨_,s5,h5,k5⟩:=aC k3;obtain ⟨rfl,rfl⟩:=aH k5;obtain ⟨⟨h6,h7,h8⟩,g⟩:=dL h5 g;refine ⟨g,?_⟩;cases ha with
   | p x u hp =>
    cases hp with
    | sl n cs p cap us Hz Lw Lx Kh H7 =>
     obtain ⟨b,o,rfl,_,_⟩:=Lx _ h8;refine ⟨_,iM hd (hT _ _ e3) h6 h7,.rp cs _ b o us (fun i hi => ?_) Kh H7⟩
     obtain ⟨b',o',hp,hF,hc⟩:=Lx i hi;cases hp;exact ⟨hF,hc⟩
  ·exact (aU k3).elim
 ·rename_i len e
  rw [hik] at hk
  obtain rfl:=pV hk.symm;obtain ⟨j,s3,h3,k3⟩:=aC k2;obtain ⟨e3,rfl⟩:=aE h3;clear k2 h3
  split at k3
  ·rename_i id off
   obtain ⟨_,s5,h5,k5⟩:=aC k3;obtain ⟨rfl,rfl⟩:=aH k5;obtain ⟨⟨h6,h7⟩,g⟩:=dL h5 g;obtain ⟨b,rfl,hb⟩:=aDq ha;exact ⟨g,_,lV hd (hT _ _ e3) h6 h7,hb _⟩
  ·rename_i cs off
   obtain ⟨_,s5,h5,k5⟩:=aC k3;obtain ⟨rfl,rfl⟩:=aH k5;obtain ⟨⟨h6,h7⟩,g⟩:=dL h5 g;cases ha with
   | rp cs off b o us h1 h2 h3 =>
    refine ⟨g,_,lV hd (hT _ _ e3) h6 h7,?_⟩;rw [Nat.add_assoc];exact .rp cs _ b o us h1 h2 h3
  ·exact (aU k3).elim
 ·exact (aU k2).elim
end
section
variable {P:Program} {T:TT} {C:Cx} {M:Mem} {w:World}

theorem aRl{vs:Array Value}{i:Nat}(h:i<vs.size):vs[i]? = some (vs.getD i undef):=by
 rw [Bu,rU h];rfl

theorem rJ(k:Nat)(f:Nat→Value)(j:Nat)(h:j<k):(((List.range k).map f).toArray).getD j undef=f j:=by
 simp [Bu,h]

theorem aDn{F:Nat→Prop}{cs:List PV}{off k:Nat}{f:Nat→Value}(hl:off+k≤cs.length)(h:∀ j (hj:off+j<cs.length),j<k→cS F w cs[off+j] (f j))(h0:∀ j,j<k→(f j).oneCell'=true) :
  cS F w (.agg ((cs.drop off).take k)) (.agg ((List.range k).map f).toArray):=by
 refine .agg _ _ (fun i hi=>by
  have C8:i<k:=by simp at hi;omega
  rw [rJ k f i C8];exact h0 i C8) (by simp;omega) (fun i hi => ?_)
 have C8:i<k:=by simp at hi;omega
 rw [rJ k f i C8];simp only [List.getElem_take,List.getElem_drop];exact h i (by omega) C8
theorem aJs{cs:List AV}{off k:Nat}{f:Nat→Value}(hl:off+k≤cs.length)(h:∀ j (hj:off+j<cs.length),j<k→Rep C M w cs[off+j] (f j))(h0:∀ j,j<k→(f j).oneCell'=true) :
  Rep C M w (iO ((cs.drop off).take k)) (.agg ((List.range k).map f).toArray):=by
 refine jS (fun i hi=>by
  have C8:i<k:=by simp at hi;omega
  rw [rJ k f i C8];exact h0 i C8) (by simp;omega) (fun i hi => ?_)
 have C8:i<k:=by simp at hi;omega
 rw [rJ k f i C8];simp only [List.getElem_take,List.getElem_drop];exact h i (by omega) C8

theorem oW{t:Nat}{i:TI}(hi:cM P t=some i)(ha:i.agg=true){b o:Nat}{f:Nat→Value}(h:∀ j,j<i.size→w.cell? ⟨b,o+j,none⟩=some (f j)) :
  (loadVar t ⟨b,o,none⟩).run P w = .ok (.agg ((List.range i.size).map f).toArray) w:=by
 unfold loadVar;rw [Sem.run_bind,nB hi,Result.andThen_ok,if_pos ha,Sem.run_bind,iN hi,Result.andThen_ok,Sem.run_bind,run_loadCells w ⟨b,o,none⟩ i.size f (fun j hj=>by rw [Addr.add_lit];exact h j hj)]
 rfl
theorem oX{t:Nat}{i:TI}(hi:cM P t=some i)(ha:i.agg=false){b o:Nat}{v:Value}(h:w.cell? ⟨b,o,none⟩=some v) :
  (loadVar t ⟨b,o,none⟩).run P w = .ok v w:=by
 unfold loadVar;rw [Sem.run_bind,nB hi,Result.andThen_ok,if_neg (by simp [ha]),run_load,h]

theorem uM{t:Nat}{i:TI}(hi:cM P t=some i){cs:List PV}{off b o:Nat}{us:Nat→Value}(hc:∀ j,j<cs.length→w.cell? ⟨b,o+j,none⟩=some (us j))(hr:∀ j (h:j<cs.length),cS C.F w cs[j] (us j))(ho:∀ j,j<cs.length→(us j).oneCell'=true)
  {x:AV} {s s':AS} (h:vS i cs off s=some (x,s')) (g:bA s'):bA s∧∃ r,(loadVar t ⟨b,o+off,none⟩).run P w = .ok r w∧Rep C M w x r:=by
 unfold vS at h
 generalize ha:i.agg=ag at h
 split at h
 ·obtain ⟨_,s1,h1,k1⟩:=aC h
  obtain ⟨y,s2,h2,k2⟩:=aC k1;obtain ⟨rfl,rfl⟩:=aH k2;obtain ⟨hy,g⟩:=aRp h2 g;cases hy;obtain ⟨hl,g⟩:=dL h1 g;refine ⟨g,_,oW hi ha (f:=fun j=>us (off+j)) (fun j hj => ?_),.p _ _ (aDn hl (fun j hj _=>hr _ hj) (fun j hj=>ho _ (by omega)))⟩
  rw [Nat.add_assoc];exact hc _ (by omega)
 ·obtain ⟨y,s1,h1,k1⟩:=aC h
  obtain ⟨rfl,rfl⟩:=aH k1;obtain ⟨hl,g⟩:=aRp h1 g;obtain ⟨hj,rfl⟩:=Ci.1 hl;exact ⟨g,_,oX hi ha (hc off hj),.p _ _ (hr off hj)⟩

theorem aDo{i:TI}{cs:List AV}{off:Nat}{x:AV}{s s':AS}(h:vT i cs off s=some (x,s')):s'=s∧((i.agg=true∧off+i.size≤cs.length∧x=iO ((cs.drop off).take i.size))∨(i.agg=false∧cs[off]? = some x)):=by
 unfold vT at h
 generalize ha:i.agg=ag at h
 split at h
 ·obtain ⟨e1,rfl⟩:=aE h
  obtain ⟨h1,rfl⟩:=bX e1;exact ⟨rfl,.inl ⟨rfl,h1,rfl⟩⟩
 ·obtain ⟨e1,rfl⟩:=aE h
  exact ⟨rfl,.inr ⟨rfl,e1⟩⟩

theorem cW{b:Nat}{arr:Array Value}{ty:TypeId}{fr:Nat × Nat}(h:w.heap[b]? = some (.cells arr ty fr)){j:Nat}(hj:j<arr.size):w.cell? ⟨b,j,none⟩=some (arr.getD j undef):=by
 unfold World.cell?;simp only [h];exact aRl hj

theorem xJ(hT:∀ t i,T t=some i→cM P t=some i)(hM:aX P C M w){t:Nat}{a x:AV}{u:Value}{s s':AS}(ha:Rep C M w a u)(h:vload T M t a s=some (x,s'))(g:bA s') :
  bA s∧∃ r,(Instr.loadAt t u).run P w = .ok r w∧Rep C M w x r:=by
 unfold vload at h
 obtain ⟨i,s1,h1,k1⟩:=aC h;obtain ⟨e1,rfl⟩:=aE h1;clear h h1;have hi:=hT _ _ e1;have hrun:∀ b off r,u = .pointer (some ⟨b,off,none⟩)→(loadVar t ⟨b,off,none⟩).run P w = .ok r w→(Instr.loadAt t u).run P w = .ok r w:=by
  rintro b off r rfl h;unfold Instr.loadAt;rw [Sem.run_bind];show ((pure (⟨b,off,none⟩:Addr):Sem Addr).run P w).andThen _=_;rw [Sem.run_pure,Result.andThen_ok,h]
 split at k1
 ·rename_i id off
  obtain ⟨o,s2,h2,k2⟩:=aC k1;obtain ⟨e2,rfl⟩:=aE h2;clear k1 h2
  replace e2:=dU e2
  split at k2
  ·rename_i ty cs
   obtain ⟨b,hu,hb⟩:=fM ha (gR e2 rfl);obtain ⟨b',arr,Aq,hh,hsz,hr,hone⟩:=hM.box _ _ _ e2;rw [hb] at Aq;cases Aq
   obtain ⟨rfl,⟨hag,hl,rfl⟩ | ⟨hag,hx⟩⟩:=aDo k2
   ·refine ⟨g,_,hrun _ _ _ hu (oW hi hag (f:=fun j=>arr.getD (off+j) undef) (fun j hj=>cW hh (by omega))),aJs hl (fun j hj _=>hr _ hj) (fun j hj=>hone _ (by omega))⟩
   ·obtain ⟨hj,rfl⟩:=Ci.1 hx
    exact ⟨g,_,hrun _ _ _ hu (oX hi hag (cW hh (by omega))),hr _ hj⟩
  ·rename_i ty n cs
   obtain ⟨b,hu,hb⟩:=fM ha (gR e2 rfl)
   rcases hM.row _ _ _ _ e2 with ⟨hn,_⟩ | ⟨b',arr,inf,Aq,hh,_,hsz,hcl,hle,_,hr,hone⟩
   ·rw [hb] at hn;cases hn
   ·rw [hb] at Aq;cases Aq
    have Mx:cs.length≤arr.size:=by rw [hsz,hcl];exact Nat.mul_le_mul_right _ hle
    obtain ⟨g,r,h3,h4⟩:=uM (C:=C) (M:=M) hi (cs:=cs) (b:=b) (o:=0) (us:=fun j=>arr.getD j undef) (fun j hj=>by rw [iP];exact cW hh (by omega)) hr hone k2 g
    rw [iP] at h3
    exact ⟨g,r,hrun _ _ _ hu h3,h4⟩
  ·exact (aU k2).elim
 ·rename_i cs off
  cases ha with
  | rp cs off b o us h1 h2 h5 =>
   obtain ⟨g,r,h3,h4⟩:=uM (C:=C) (M:=M) hi (us:=us) (fun j hj=>(h1 j hj).2) h2 h5 k1 g
   exact ⟨g,r,hrun _ _ _ rfl h3,h4⟩
 ·exact (aU k1).elim

theorem aCh(vs:Array Value)(off k:Nat)(h:off+k≤vs.size):vs.extract off (off+k)=((List.range k).map fun j=>vs.getD (off+j) undef).toArray:=by
 apply Array.ext
 ·simp;omega
 ·intro i h1 h2
  simp at h2
  simp [Bu,show off+i<vs.size by omega]

theorem xK(hT:∀ t i,T t=some i→cM P t=some i){t off:Nat}{a x:AV}{u:Value}{s s':AS}(ha:Rep C M w a u)(h:vpart T t a off s=some (x,s'))(g:bA s') :
  bA s∧∃ vs r,u = .agg vs∧(part t vs off).run P w = .ok r w∧Rep C M w x r:=by
 unfold vpart at h
 obtain ⟨j,s1,h1,k1⟩:=aC h;obtain ⟨e1,rfl⟩:=aE h1;clear h h1;have hj:=hT _ _ e1;have hagg:∀ (vs:Array Value),j.agg=true→off+j.size≤vs.size→(part t vs off).run P w = .ok (.agg ((List.range j.size).map fun i=>vs.getD (off+i) undef).toArray) w:=by
  intro vs h1 h2;unfold part;rw [Sem.run_bind,nB hj,Result.andThen_ok,if_pos h1,Sem.run_bind,iN hj,Result.andThen_ok,aCh vs off _ h2];rfl
 have hone:∀ (vs:Array Value),j.agg=false→off<vs.size→(part t vs off).run P w = .ok (vs.getD off undef) w:=by
  intro vs h1 h2;unfold part;rw [Sem.run_bind,nB hj,Result.andThen_ok,if_neg (by simp [h1])]
  simp only [aRl h2];rfl
 split at k1
 ·rename_i xs
  cases ha with
  | p x u hp =>
   cases hp with
   | agg xs vs h0 h2 h3 =>
    generalize hag:j.agg=ag at k1
    split at k1
    ·obtain ⟨_,s1,h1,k2⟩:=aC k1
     obtain ⟨rfl,rfl⟩:=aH k2;obtain ⟨hl,g⟩:=dL h1 g;exact ⟨g,vs,_,rfl,hagg vs hag (by omega),.p _ _ (aDn hl (fun j hj _=>h3 _ hj) (fun j hj=>h0 _ (by omega)))⟩
    ·obtain ⟨y,s1,h1,k2⟩:=aC k1
     obtain ⟨e2,rfl⟩:=aE h1;obtain ⟨rfl,rfl⟩:=aH k2;obtain ⟨hj,rfl⟩:=Ci.1 e2;exact ⟨g,vs,_,rfl,hone vs hag (by omega),.p _ _ (h3 _ hj)⟩
 ·rename_i cs
  cases ha with
  | agg cs vs h0 h2 h3 =>
   obtain ⟨rfl,⟨hag,hl,rfl⟩ | ⟨hag,hx⟩⟩:=aDo k1
   ·exact ⟨g,vs,_,rfl,hagg vs hag (by omega),aJs hl (fun j hj _=>h3 _ hj) (fun j hj=>h0 _ (by omega))⟩
   ·obtain ⟨hj,rfl⟩:=Ci.1 hx
    exact ⟨g,vs,_,rfl,hone vs hag (by omega),h3 _ hj⟩
 ·exact (aU k1).elim

theorem aGd(hT:∀ t i,T t=some i→cM P t=some i){t f:Nat}{a x:AV}{u:Value}{s s':AS}(ha:Rep C M w a u)(h:vfield T t a f s=some (x,s'))(g:bA s') :
  bA s∧∃ r,(Instr.field t u f).run P w = .ok r w∧Rep C M w x r:=by
 unfold vfield at h
 obtain ⟨i,s1,h1,k1⟩:=aC h;obtain ⟨e1,rfl⟩:=aE h1;obtain ⟨fs,s2,h2,k2⟩:=aC k1;obtain ⟨e2,rfl⟩:=aE h2;obtain ⟨fd,s3,h3,k3⟩:=aC k2;obtain ⟨e3,rfl⟩:=aE h3;clear h1 h2 h3 k1 k2 h;obtain ⟨d,hd,hk⟩:=eC (hT _ _ e1);rw [oH e2] at hk
 obtain ⟨aS,rfl,rfl⟩:=nA hk.symm;obtain ⟨fl,hf,ho,ht⟩:=aDp e3;obtain ⟨g,vs,r,rfl,hr,hx⟩:=xK (P:=P) hT ha k3 g;refine ⟨g,r,?_,hx⟩;unfold Instr.field;rw [Sem.run_bind,run_underlying hd,Result.andThen_ok];simp only [hf];rw [ho,ht,Sem.run_bind];show ((pure vs:Sem (Array Value)).run P w).andThen _=_;rw [Sem.run_pure,Result.andThen_ok,hr]

theorem aGe(hT:∀ t i,T t=some i→cM P t=some i){t:Nat}{a b x:AV}{u v:Value}{s s':AS}(ha:Rep C M w a u)(hb:Rep C M w b v)(h:vindex T t a b s=some (x,s'))(g:bA s') :
  bA s∧∃ r,(Instr.index t u v).run P w = .ok r w∧Rep C M w x r:=by
 unfold vindex at h
 obtain ⟨i,s1,h1,k1⟩:=aC h;obtain ⟨e1,rfl⟩:=aE h1;obtain ⟨⟨kd,n⟩,s2,h2,k2⟩:=aC k1;obtain ⟨e2,rfl⟩:=aE h2;clear h1 h2 k1 h;obtain rfl:=oJ hb e2;obtain ⟨d,hd,hk⟩:=eC (hT _ _ e1);generalize hik:i.k=ik at k2
 split at k2
 ·rename_i len e
  rw [hik] at hk
  obtain rfl:=pV hk.symm;obtain ⟨j,s3,h3,k3⟩:=aC k2;obtain ⟨e3,rfl⟩:=aE h3;obtain ⟨_,s4,h4,k4⟩:=aC k3;clear k2 h3 k3;obtain ⟨g,vs,r,rfl,hr,hx⟩:=xK (P:=P) hT ha k4 g;obtain ⟨⟨h6,h7⟩,g⟩:=dL h4 g;refine ⟨g,r,?_,hx⟩;dsimp only at h6 h7 hr
  unfold Instr.index;simp [asIntOf,run_underlying hd,h6,h7,iN (hT _ _ e3),hr]
 ·rw [hik] at hk
  have hds:d = .string:=by cases d <;> simp [jR] at hk ⊢
  subst hds
  split at k2
  ·rename_i str
   obtain ⟨_,s4,h4,k4⟩:=aC k2;obtain ⟨y,s5,h5,k5⟩:=aC k4;obtain ⟨rfl,rfl⟩:=aH k5;obtain ⟨e5,g⟩:=aRp h5 g;obtain ⟨h6,g⟩:=dL h4 g;rw [C7] at e5
   obtain ⟨b,e3,rfl⟩:=e5;dsimp only at e3
   cases ha with | p _ _ ha=>cases ha with | v _ =>
   have Gv:str[n.toNat]? = some b:=by
    obtain ⟨hl,Pw⟩:=Ci.1 e3;have Bl:n.toNat<str.size:=by rw [Array.length_toList] at hl;exact hl
    rw [getElem?_pos str n.toNat Bl];refine congrArg some ?_;rw [← Pw];exact (Array.getElem_toList _).symm
   refine ⟨g,_,?_,.p _ _ (.v _)⟩;unfold Instr.index;dsimp only at h6
   simp [asIntOf,run_underlying hd,h6,Gv]
  ·exact (aU k2).elim
 ·exact (aU k2).elim
end
section

def bd(x:Option AV)(d:Nat):Option Int:=match x with
 | none=>some (d:Int)
 | some a=>match toI a with
  | some (_,n)=>some n
  | none=>none

def piece(cs:List PV)(k:Nat)(lo hi:Option AV)(l h:Int):List PV:=match lo,hi with
 | none,none=>cs
 | none,some _=>cs.take (h.toNat*k)
 | some _,_=>(cs.drop (l.toNat*k)).take ((h.toNat-l.toNat)*k)

def aGa(cs:List UInt8)(lo hi:Option AV)(l h:Int):List UInt8:=match lo,hi with
 | none,none=>cs
 | none,some _=>cs.take h.toNat
 | some _,none=>cs.drop l.toNat
 | some _,some _=>(cs.drop l.toNat).take (h.toNat-l.toNat)

def vslice(T:TT)(m:Mem)(t:Nat)(x:AV)(lo hi:Option AV):Ask AV:=do
 let i ← lift (T t)
 match i.k with
 | .slice e=>do
  let j ← lift (T e)
  let l ← lift (bd lo 0)
  match x with
  | .own id=>do
   let r ← lift (eZ m id)
   let h ← lift (bd hi r.2.1)
   eM (0≤l∧l≤h∧h≤(r.2.1:Int))
   pure (.arr id (l.toNat*j.size) (h.toNat-l.toNat))
  | .arr id off n=>do
   lift (if dX m id then some () else none)
   let h ← lift (bd hi n)
   eM (0≤l∧l≤h∧h≤(n:Int))
   pure (.arr id (off+l.toNat*j.size) (h.toNat-l.toNat))
  | .p (.sl n cs)=>do
   let h ← lift (bd hi n)
   eM (0≤l∧l≤h∧h≤(n:Int)∧cs.length=n*j.size)
   pure (.p (.sl (h.toNat-l.toNat) (piece cs j.size lo hi l h)))
  | .p (.v (.slice none 0 0))=>do
   let h ← lift (bd hi 0)
   eM (l=0∧h=0)
   pure (.p (.v (.slice none 0 0)))
  | _=>fail
 | .str=>do
  let l ← lift (bd lo 0)
  match x with
  | .p (.v (.string s))=>do
   let h ← lift (bd hi s.data.toList.length)
   eM (0≤l∧l≤h∧h≤(s.data.toList.length:Int))
   pure (.p (.v (.string ⟨(aGa s.data.toList lo hi l h).toArray⟩)))
  | _=>fail
 | .array n e=>do
  let j ← lift (T e)
  let l ← lift (bd lo 0)
  match x with
  | .ptr id off=>do
   lift (if dX m id then some () else none)
   let h ← lift (bd hi n)
   eM (0≤l∧l≤h∧h≤(n:Int)∧n≤maxLen)
   pure (.arr id (off+l.toNat*j.size) (h.toNat-l.toNat))
  | _=>fail
 | _=>fail

def vlen(T:TT)(m:Mem)(t:Nat)(x:AV):Ask AV:=do
 let i ← lift (T t)
 let n ← lift (match i.k with
  | .slice _=>match x with
   | .own id=>(eZ m id).map (·.2.1)
   | .arr id _ n=>if dX m id then some n else none
   | .p (.sl n _)=>some n
   | .p (.v (.slice _ n _))=>some n
   | _=>none
  | .array n _=>some n
  | .str=>match x with
   | .p (.v (.string s))=>some s.size
   | _=>none
  | .map _ _=>match x with
   | .mp id=>match bU m id with
    | some (.mp es _)=>some es.length
    | _=>none
   | _=>none
  | _=>none)
 pure (.p (.v (.int .i64 (n:Int))))

def vmin(big:Bool):IntKind→Int→List AV→Option AV
 | k,x,[]=>some (.p (.v (.int k x)))
 | k,x,a::r=>match toI a with
  | some (_,y)=>vmin big k (match big with | true=>if y > x then y else x | false=>if y<x then y else x) r
  | none=>none
def vminmax(big:Bool)(l:List AV):Ask AV:=match l with
 | []=>fail
 | a::r=>do
  let kx ← lift (toI a)
  lift (vmin big kx.1 kx.2 r)

variable {P:Program} {T:TT} {C:Cx} {M:Mem} {w:World}

def Bds(C:Cx)(M:Mem)(w:World)(x:Option AV)(v:Option Value):Prop:=match x,v with
 | none,none=>True
 | some a,some u=>Rep C M w a u
 | _,_=>False

theorem lF{x:Option AV}{v:Option Value}(h:Bds C M w x v){d:Nat}{n:Int}(hb:bd x d=some n):(v=none∧n=d)∨∃ k,v=some (.int k n):=by
 cases x with
 | none=>cases v with
  | none=>cases hb;exact .inl ⟨rfl,rfl⟩
  | some u=>exact h.elim
 | some a=>cases v with
  | none=>exact h.elim
  | some u =>
   unfold bd at hb
   simp only at hb
   split at hb
   ·rename_i k m hm
    cases hb;exact .inr ⟨k,by rw [oJ h hm]⟩
   ·cases hb

theorem kH{q:Bool}{lo hi:Option Value}{l h:Int}{n cap:Nat}(hl:(lo=none∧l=0)∨∃ k,lo=some (.int k l))(hh:(hi=none∧h=n)∨∃ k,hi=some (.int k h))(h0:0≤l)(h1:l≤h)(h2:h≤n)(h3:n≤cap) :
  (Instr.sliceBounds q n cap lo hi none).run P w = .ok (l.toNat,h.toNat,cap) w:=by
 have hb:∀ (k:IntKind) (i:Int) (y:Nat) (c:BoundsCode),0≤i→i≤y→(Instr.sliceBound (.int k i) y c).run P w = .ok i.toNat w:=by
  intro k i y c h4 h5;unfold Instr.sliceBound;simp [asIntOf,h4,h5]
 unfold Instr.sliceBounds
 rcases hl with ⟨rfl,rfl⟩ | ⟨k,rfl⟩ <;> rcases hh with ⟨rfl,rfl⟩ | ⟨k',rfl⟩ <;> simp
 ·rw [hb _ _ _ _ (by omega) (by omega)];simp
 ·rw [hb _ _ _ _ h0 (by omega)];simp
 ·rw [hb _ _ _ _ (by omega) (by omega)]
  simp only [Result.andThen_ok];rw [hb _ _ _ _ h0 (by omega)];simp

theorem gX{t e:Nat}{j:TI}(hu:P.underlying t=some (.slice e))(hj:cM P e=some j){lo hi:Option Value}{l h:Int}{n cap:Nat}{p:Option Addr}
  (hl:(lo=none∧l=0)∨∃ k,lo=some (.int k l)) (hh:(hi=none∧h=n)∨∃ k,hi=some (.int k h)) (h0:0≤l) (h1:l≤h) (h2:h≤n) (h3:n≤cap) :
  (Instr.sliceAt t (.slice p n cap) lo hi none).run P w = .ok (.slice (if cap=l.toNat then p else p.map (·.add (l.toNat*j.size))) (h.toNat-l.toNat) (cap-l.toNat)) w:=by
 unfold Instr.sliceAt;rw [Sem.run_bind,run_underlying hu,Result.andThen_ok];unfold Instr.slice;simp only [Sem.run_bind,run_underlying hu,Result.andThen_ok,kH (P:=P) (w:=w) hl hh h0 h1 h2 h3,iN hj];rfl

theorem aGb{t e m:Nat}{j:TI}(hu:P.underlying t=some (.array m e))(hj:cM P e=some j){lo hi:Option Value}{l h:Int}{a:Addr}
  (hl:(lo=none∧l=0)∨∃ k,lo=some (.int k l)) (hh:(hi=none∧h=m)∨∃ k,hi=some (.int k h)) (h0:0≤l) (h1:l≤h) (h2:h≤m) :
  (Instr.sliceAt t (.pointer (some a)) lo hi none).run P w = .ok (.slice (some (if m=l.toNat then a else a.add (l.toNat*j.size))) (h.toNat-l.toNat) (m-l.toNat)) w:=by
 unfold Instr.sliceAt Instr.sureAddr;rw [Sem.run_bind,run_underlying hu,Result.andThen_ok];simp only [Sem.run_bind,Sem.run_pure,Result.andThen_ok,kH (P:=P) (w:=w) (q:=false) hl hh h0 h1 h2 (dD m),iN hj]

theorem aVo{cs:List UInt8}{lo hi:Option AV}{l h:Int}(h1:bd lo 0=some l)(h2:bd hi cs.length=some h):aGa cs lo hi l h=(cs.drop l.toNat).take (h.toNat-l.toNat):=by
 cases lo with
 | none =>
  cases h1;cases hi with
  | none=>cases h2;simp [aGa]
  | some b=>simp [aGa]
 | some a=>cases hi with
  | none =>
   cases h2;show cs.drop l.toNat=_;rw [List.take_of_length_le (by rw [xY];omega)]
  | some b=>rfl
theorem aGc{t:Nat}(hu:P.underlying t=some .string){str:ByteArray}{lo hi:Option Value}{l h:Int}
  (hl:(lo=none∧l=0)∨∃ k,lo=some (.int k l)) (hh:(hi=none∧h=str.size)∨∃ k,hi=some (.int k h)) (h0:0≤l) (h1:l≤h) (h2:h≤str.size) :
  (Instr.sliceAt t (.string str) lo hi none).run P w = .ok (.string (str.extract l.toNat h.toNat)) w:=by
 unfold Instr.sliceAt;rw [Sem.run_bind,run_underlying hu,Result.andThen_ok];have e:=kH (P:=P) (w:=w) (q:=false) hl hh h0 h1 h2 (dD str.size);unfold Instr.slice;simp [run_underlying hu,e]
theorem kV(hT:∀ t i,T t=some i→cM P t=some i)(hM:aX P C M w){t:Nat}{a x:AV}{u:Value}{lo hi:Option AV}{vl vh:Option Value}{s s':AS}(ha:Rep C M w a u)(hlo:Bds C M w lo vl)(hhi:Bds C M w hi vh)
  (h:vslice T M t a lo hi s=some (x,s')) (g:bA s'):bA s∧∃ r,(Instr.sliceAt t u vl vh none).run P w = .ok r w∧Rep C M w x r:=by
 unfold vslice at h
 obtain ⟨i,s1,h1,k1⟩:=aC h;obtain ⟨e1,rfl⟩:=aE h1;clear h h1;obtain ⟨d,hd,hk⟩:=eC (hT _ _ e1);generalize hik:i.k=ik at k1
 split at k1
 rotate_left
 ·rw [hik] at hk
  obtain rfl:=aAi hk.symm;obtain ⟨l,s3,h3,k3⟩:=aC k1;obtain ⟨e3,rfl⟩:=aE h3
  split at k3
  ·rename_i str
   obtain ⟨h,s5,h5,k5⟩:=aC k3;obtain ⟨e5,rfl⟩:=aE h5;obtain ⟨_,s6,h6,k6⟩:=aC k5;obtain ⟨rfl,rfl⟩:=aH k6;obtain ⟨⟨q1,q2,q3⟩,g⟩:=dL h6 g;cases ha with | p _ _ ha=>cases ha with | v _ =>
   refine ⟨g,_,aGc hd (lF hlo e3) (by have:=lF hhi e5;rwa [← Lib.size_eq] at this) q1 q2 (by rw [Lib.size_eq];exact q3),?_⟩
   rw [Lib.extract_eq,← aVo e3 e5];exact .p _ _ (.v _)
  ·exact (aU k3).elim
 ·rename_i n e
  rw [hik] at hk
  obtain rfl:=pV hk.symm;obtain ⟨j,s2,h2,k2⟩:=aC k1;obtain ⟨e2,rfl⟩:=aE h2;obtain ⟨l,s3,h3,k3⟩:=aC k2;obtain ⟨e3,rfl⟩:=aE h3;have hj:=hT _ _ e2;have hl:=lF hlo e3
  split at k3
  ·rename_i id off
   obtain ⟨_,s4,h4,k4⟩:=aC k3;obtain ⟨e4,rfl⟩:=aE h4;obtain ⟨hlv,_⟩:=bX e4;obtain ⟨h,s5,h5,k5⟩:=aC k4;obtain ⟨e5,rfl⟩:=aE h5;obtain ⟨_,s6,h6,k6⟩:=aC k5;obtain ⟨rfl,rfl⟩:=aH k6;obtain ⟨⟨q1,q2,q3,q4⟩,g⟩:=dL h6 g;refine ⟨g,?_⟩;cases ha with
   | ptr id off u h0 ha hrow hp =>
    obtain ⟨o,ho,I5⟩:=dJ hlv;obtain ⟨b,rfl,hb⟩:=hrow o ho I5;refine ⟨_,aGb hd hj hl (lF hhi e5) q1 q2 q3,.arr _ _ _ _ rfl ⟨o,ho⟩ (fun _ _ _ => ?_)⟩
    by_cases hz:h.toNat-l.toNat=0
    ·left
     exact ⟨hz,_,_,by rw [hz],by omega⟩
    ·right
     rw [if_neg (by omega)]
     exact ⟨b,_,by rw [Addr.add_lit],by omega,by omega,hb⟩
  ·exact (aU k3).elim
 ·exact (aU k1).elim
 rename_i e;rw [hik] at hk
 obtain rfl:=mZ hk.symm;obtain ⟨j,s2,h2,k2⟩:=aC k1;obtain ⟨e2,rfl⟩:=aE h2;obtain ⟨l,s3,h3,k3⟩:=aC k2;obtain ⟨e3,rfl⟩:=aE h3;clear k1 h2 k2 h3;have hj:=hT _ _ e2;have hl:=lF hlo e3;have harr:∀ (id off n:Nat) (b cap:Nat) (h:Int),dX M id=true→C.ι id=some b→0≤l→l≤h→h≤n→n≤cap→cap≤maxLen →
   Rep C M w (.arr id (off+l.toNat*j.size) (h.toNat-l.toNat)) (.slice (if cap=l.toNat then some ⟨b,off,none⟩ else (some (⟨b,off,none⟩:Addr)).map (·.add (l.toNat*j.size))) (h.toNat-l.toNat) (cap-l.toNat)):=by
  intro id off n b cap h hlv hb q1 q2 q3 q4 q5;obtain ⟨o,ho,_⟩:=dJ hlv;refine .arr _ _ _ _ rfl ⟨o,ho⟩ (fun _ _ _ => ?_)
  by_cases hz:h.toNat-l.toNat=0
  ·left
   exact ⟨hz,_,_,by rw [hz],by omega⟩
  ·right
   rw [if_neg (by omega)]
   exact ⟨b,_,by rw [Option.map_some,Addr.add_lit],by omega,by omega,hb⟩
 split at k3
 ·rename_i id
  obtain ⟨r,s4,h4,k4⟩:=aC k3;obtain ⟨e4,rfl⟩:=aE h4;obtain ⟨h,s5,h5,k5⟩:=aC k4;obtain ⟨e5,rfl⟩:=aE h5;obtain ⟨_,s6,h6,k6⟩:=aC k5;obtain ⟨rfl,rfl⟩:=aH k6;obtain ⟨⟨q1,q2,q3⟩,g⟩:=dL h6 g;refine ⟨g,?_⟩;have hro:=dG e4;cases ha with
  | own id u h0 ha hrow =>
   rcases hrow _ _ _ hro with ⟨rfl,hn,hz⟩ | ⟨b,rfl,hb⟩
   ·obtain rfl:h=0:=by omega
    obtain rfl:l=0:=by omega
    refine ⟨_,gX hd hj hl (by have:=lF hhi e5;rwa [hz] at this) (by omega) (by omega) (by simp) (dD _),?_⟩
    obtain ⟨o,ho⟩:=ha;exact .arr _ _ _ _ rfl ⟨o,ho⟩ (fun _ _ _ => .inl ⟨rfl,_,_,rfl,by simp [maxLen]⟩)
   ·rcases hM.row _ _ _ _ hro with ⟨hn,_⟩ | ⟨b',arr,inf,Aq,_,_,_,_,hle,hcap,_⟩
    ·rw [hb] at hn;cases hn
    ·refine ⟨_,gX hd hj hl (lF hhi e5) q1 q2 q3 hle,?_⟩
     have:=harr id 0 r.2.1 b (C.κ id) h (aJt e4) hb q1 q2 q3 hle hcap
     rwa [iP] at this
 ·rename_i id off n
  obtain ⟨_,s4,h4,k4⟩:=aC k3;obtain ⟨e4,rfl⟩:=aE h4;obtain ⟨hlv,_⟩:=bX e4;obtain ⟨h,s5,h5,k5⟩:=aC k4;obtain ⟨e5,rfl⟩:=aE h5;obtain ⟨_,s6,h6,k6⟩:=aC k5;obtain ⟨rfl,rfl⟩:=aH k6;obtain ⟨⟨q1,q2,q3⟩,g⟩:=dL h6 g;refine ⟨g,?_⟩;cases ha with
  | arr id off n u h0 ha hrow =>
   obtain ⟨o,ho,I5⟩:=dJ hlv
   rcases hrow o ho I5 with ⟨rfl,p,cap,rfl,hcap⟩ | ⟨b,cap,rfl,hle,hcap,hb⟩
   ·obtain rfl:h=0:=by omega
    obtain rfl:l=0:=by omega
    refine ⟨_,gX hd hj hl (lF hhi e5) (by omega) (by omega) (by simp) (Nat.zero_le _),?_⟩
    exact .arr _ _ _ _ rfl ⟨o,ho⟩ (fun _ _ _ => .inl ⟨rfl,_,_,rfl,by simpa using hcap⟩)
   ·exact ⟨_,gX hd hj hl (lF hhi e5) q1 q2 q3 hle,harr id off n b cap h hlv hb q1 q2 q3 hle hcap⟩
 ·rename_i n cs
  obtain ⟨h,s5,h5,k5⟩:=aC k3;obtain ⟨e5,rfl⟩:=aE h5;obtain ⟨_,s6,h6,k6⟩:=aC k5;obtain ⟨rfl,rfl⟩:=aH k6;obtain ⟨⟨q1,q2,q3,q4⟩,g⟩:=dL h6 g;refine ⟨g,?_⟩;cases ha with
  | p x u hp =>
   cases hp with
   | sl n cs p cap us Hz Lw Lx Kh H7 =>
    refine ⟨_,gX hd hj hl (lF hhi e5) q1 q2 q3 Hz,.p _ _ ?_⟩;have hpc:piece cs j.size lo hi l h=(cs.drop (l.toNat*j.size)).take ((h.toNat-l.toNat)*j.size):=by
     unfold piece;cases lo with
     | none =>
      cases e3;cases hi with
      | none=>cases e5;simp [← q4]
      | some _=>simp
     | some _=>rfl
    rw [hpc];have hlen:((cs.drop (l.toNat*j.size)).take ((h.toNat-l.toNat)*j.size)).length≤(h.toNat-l.toNat)*j.size:=List.length_take_le _ _;have Fp:((cs.drop (l.toNat*j.size)).take ((h.toNat-l.toNat)*j.size)).length≤cs.length-l.toNat*j.size:=by
     rw [pF,xY];exact Nat.min_le_right _ _
    refine .sl _ _ _ _ (fun i=>us (l.toNat*j.size+i)) (by omega) (by omega) (fun i hi => ?_) (fun i hi => ?_) (fun i hi=>H7 _ (by omega))
    ·obtain ⟨b,o,rfl,hF,hc⟩:=Lx (l.toNat*j.size+i) (by omega)
     have hne:cap≠l.toNat:=by
      intro e;have h9:(h.toNat-l.toNat)=0:=by omega
      have A9:(h.toNat-l.toNat)*j.size=0:=by rw [h9,Nat.zero_mul]
      omega
     rw [if_neg hne];exact ⟨b,o+l.toNat*j.size,by rw [Option.map_some,Addr.add_lit],hF,by rw [Nat.add_assoc];exact hc⟩
    ·simp only [List.getElem_take,List.getElem_drop]
     exact Kh _ _
 ·obtain ⟨h,s5,h5,k5⟩:=aC k3
  obtain ⟨e5,rfl⟩:=aE h5;obtain ⟨_,s6,h6,k6⟩:=aC k5;obtain ⟨rfl,rfl⟩:=aH k6;obtain ⟨⟨rfl,rfl⟩,g⟩:=dL h6 g;refine ⟨g,?_⟩;cases ha with
  | p x u hp =>
   cases hp;exact ⟨_,gX hd hj hl (lF hhi e5) (by omega) (by omega) (by simp) (dD _),.p _ _ (.v _)⟩
 ·exact (aU k3).elim
end
section
variable {P:Program} {T:TT} {C:Cx} {M:Mem} {w:World}

theorem aNr(hT:∀ t i,T t=some i→cM P t=some i)(hM:aX P C M w){t:Nat}{ts:Array TypeId}{ty:TypeId}(ht:ts[0]? = some t){a x:AV}{u:Value}{s s':AS}(ha:Rep C M w a u)
  (h:vlen T M t a s=some (x,s')) (g:bA s'):bA s∧∃ r,(Builtin.len_ ts ty #[u]).run P w = .ok r w∧Rep C M w x r:=by
 unfold vlen at h
 obtain ⟨i,s1,h1,k1⟩:=aC h;obtain ⟨e1,rfl⟩:=aE h1;obtain ⟨n,s2,h2,k2⟩:=aC k1;obtain ⟨e2,rfl⟩:=aE h2;obtain ⟨rfl,rfl⟩:=aH k2;clear h h1 k1 h2 k2;obtain ⟨d,hd,hk⟩:=eC (hT _ _ e1);refine ⟨g,.int .i64 n,?_,.p _ _ (.v _)⟩;unfold Builtin.len_;simp only [ht];refine (Sem.run_bind ..).trans ?_;rw [run_underlying hd,Result.andThen_ok];generalize hik:i.k=ik at e2
 rw [hik] at hk
 split at e2
 ·obtain rfl:=mZ hk.symm
  split at e2
  ·rename_i id
   rw [C7] at e2
   obtain ⟨r,hr,rfl⟩:=e2;cases ha with
   | own id u h0 ha hrow =>
    rcases hrow _ _ _ (dG hr) with ⟨rfl,_,hn⟩ | ⟨b,rfl,_⟩
    ·simp [goInt,hn]
    ·rfl
  ·rename_i id off n'
   obtain ⟨hl,rfl⟩:=bX e2;cases ha with
   | arr id off n u h0 ha hrow =>
    obtain ⟨o,ho,hlo⟩:=dJ hl
    rcases hrow o ho hlo with ⟨rfl,p,cap,rfl,_⟩ | ⟨b,cap,rfl,_⟩
    ·rfl
    ·rfl
  ·cases e2
   cases ha with
   | p x u hp=>cases hp;rfl
  ·cases e2
   cases ha with
   | p x u hp=>cases hp;rfl
  ·cases e2
 ·cases e2
  obtain rfl:=pV hk.symm;rfl
 ·split at e2
  ·cases e2
   cases ha with
   | p x u hp =>
    cases hp;cases d <;> simp [jR] at hk
    rfl
  ·cases e2
 ·split at e2
  ·rename_i id
   split at e2
   ·rename_i es cl ho
    cases e2;obtain ⟨b,arr,hb,hh,hsz,_⟩:=hM.mp _ _ _ (dU ho);cases ha with
    | mp id u h0 ha hrow =>
     obtain ⟨b',rfl,Aq⟩:=hrow _ (dU ho) rfl;rw [hb] at Aq;cases Aq
     obtain rfl:=bFk hk.symm;simp [getObj,Sem.run,hh,goInt,hsz]
   ·cases e2
  ·cases e2
 ·cases e2

theorem aAg:∀ (l:List AV) (us:List Value) (big:Bool) (k:IntKind) (y:Int) (x:AV),us.length=l.length→(∀ i (h:i<l.length),Rep C M w l[i] (us.getD i undef))→vmin big k y l=some x →
  ∃ r,(us.foldlM (if big then Builtin.max2 else Builtin.min2) (.int k y)).run P w = .ok r w∧Rep C M w x r
 | [],us,big,k,y,x,hl,_,h=>by
  obtain rfl:us=[]:=uO hl;cases h;exact ⟨_,rfl,.p _ _ (.v _)⟩
 | a::l,us,big,k,y,x,hl,hr,h=>by
  cases us with
  | nil=>cases hl
  | cons u us =>
   unfold vmin at h
   cases ht:toI a with
   | none=>rw [ht] at h;cases h
   | some kn =>
    obtain ⟨k',n⟩:=kn;rw [ht] at h
    have h0:=hr 0 (by simp)
    have:=oJ h0 ht;simp only [List.getD_cons_zero] at this
    subst this;obtain ⟨r,h1,h2⟩:=aAg l us big k _ x (by simpa using hl) (fun i hi=>by have:=hr (i+1) (by simpa using hi);simpa using this) h
    refine ⟨r,?_,h2⟩;rw [List.foldlM_cons,Sem.run_bind];cases big
    ·exact h1
    ·exact h1

theorem sE{big:Bool}{l:List AV}{us:Array Value}{x:AV}{s s':AS}(hl:us.size=l.length)(hr:∀ i (h:i<l.length),Rep C M w l[i] (us.getD i undef))(h:vminmax big l s=some (x,s'))(g:bA s'){ts:Array TypeId}{ty:TypeId} :
  bA s∧∃ r,(if big then Builtin.max_ ts ty us else Builtin.min_ ts ty us).run P w = .ok r w∧Rep C M w x r:=by
 unfold vminmax at h
 split at h
 ·exact (aU h).elim
 ·rename_i a l
  obtain ⟨kx,s1,h1,k1⟩:=aC h;obtain ⟨e1,rfl⟩:=aE h1;obtain ⟨e2,rfl⟩:=aE k1;refine ⟨g,?_⟩;obtain ⟨us⟩:=us;cases us with
  | nil=>simp at hl
  | cons u us =>
   have h0:=hr 0 (by simp)
   have:=oJ h0 e1;simp [Bu] at this
   subst this;obtain ⟨r,h3,h4⟩:=aAg (P:=P) l us big kx.1 kx.2 x (by simpa using hl) (fun i hi=>by
    have:=hr (i+1) (by simpa using hi)
    simpa [Bu,uP] using this) e2
   refine ⟨r,?_,h4⟩;cases big
   ·simpa [Builtin.min_] using h3
   ·simpa [Builtin.max_] using h3
end
section

def aAd(pl:Nat→Option (Nat × Nat)):List AV→List (Nat × AV)→Option (List AV)
 | cells,[]=>some cells
 | cells,(i,v)::r=>match pl i with
  | some (off,size)=>match cellsOf v with
   | some cs=>if cs.length=size∧off+size≤cells.length then aAd pl (cells.take off++cs++cells.drop (off+size)) r else none
   | none=>none
  | none=>none

def uK(T:TT)(i:TI)(k:Nat):Option (Nat × Nat):=match i.k with
 | .struct fs=>match fs[k]? with
  | some fd=>match T fd.2.1 with
   | some j=>some (fd.1,j.size)
   | none=>none
  | none=>none
 | .array _ e=>match T e with
  | some j=>some (k*j.size,j.size)
  | none=>none
 | _=>none
def aRk(T:TT)(i:TI):Bool:=match i.k with
 | .struct fs=>fs.all fun fd=>(T fd.2.1).isSome
 | .array _ e=>(T e).isSome
 | _=>false

def evs(st:St):List Operand→Option (List AV)
 | []=>some []
 | x::r=>match ev st x,evs st r with
  | some a,some l=>some (a::l)
  | _,_=>none

def vbuild(T:TT)(t:Nat)(parts:List (Nat × AV)):Ask AV:=do
 let i ← lift (T t)
 lift (if aRk T i && i.zero.all (·.oneCell') then some () else none)
 let cs ← lift (aAd (uK T i) (i.zero.map fun v => .p (.v v)) parts)
 pure (iO cs)

variable {P:Program} {T:TT} {C:Cx} {M:Mem} {w:World}

theorem aAe(off:Nat):∀ (l:List Value) (s:Nat) (cells:Array Value),off+s+l.length≤cells.size →
  ((l.zipIdx s).foldl (fun (cs:Array Value) (x:Value × Nat)=>cs.setIfInBounds (off+x.2) x.1) cells).size=cells.size ∧
  ∀ k,((l.zipIdx s).foldl (fun (cs:Array Value) (x:Value × Nat)=>cs.setIfInBounds (off+x.2) x.1) cells)[k]? = if off+s≤k∧k<off+s+l.length then l[k-(off+s)]? else cells[k]?
 | [],s,cells,_=>⟨rfl,fun k=>by rw [if_neg (by simp only [List.length_nil];omega)];rfl⟩
 | v::l,s,cells,h=>by
  rw [List.zipIdx_cons,bMf];simp only [Cb] at h
  obtain ⟨h1,h2⟩:=aAe off l (s+1) (cells.setIfInBounds (off+s) v) (by simp;omega)
  refine ⟨by rw [h1];simp,fun k => ?_⟩
  rw [h2]
  by_cases hk:off+(s+1)≤k∧k<off+(s+1)+l.length
  ·rw [if_pos hk,if_pos (by simp;omega),show k-(off+s)=(k-(off+(s+1)))+1 by omega,List.getElem?_cons_succ]
  ·rw [if_neg hk]
   by_cases Cv:k=off+s
   ·subst Cv
    rw [if_pos (by simp only [Cb];omega),aVz,Array.getElem?_setIfInBounds_self_of_lt (by omega)];rfl
   ·rw [if_neg (by simp;omega),Array.getElem?_setIfInBounds_ne (by omega)]

theorem uL(off:Nat)(c cells:Array Value):c.zipIdx.foldl (fun cs (x:Value × Nat)=>cs.setIfInBounds (off+x.2) x.1) cells=(c.toList.zipIdx 0).foldl (fun (cs:Array Value) (x:Value × Nat)=>cs.setIfInBounds (off+x.2) x.1) cells:=by
 rw [← Array.foldl_toList,Array.toList_zipIdx]

inductive eF (C:Cx) (M:Mem) (w:World):List (Nat × AV)→List (Nat × Value)→Prop
 | nil:eF C M w [] []
 | cons (i:Nat) (v:AV) (u:Value) (l:List (Nat × AV)) (k:List (Nat × Value)) (h:Rep C M w v u) (hr:eF C M w l k):eF C M w ((i,v)::l) ((i,u)::k)

theorem tD{pl:Nat→Option (Nat × Nat)}:∀ {l:List (Nat × AV)} {k:List (Nat × Value)} {cs Bg:List AV} {us:Array Value},eF C M w l k→us.size=cs.length→(∀ i (h:i<cs.length),Rep C M w cs[i] (us.getD i undef))→(∀ i,i<cs.length→(us.getD i undef).oneCell'=true) →
  aAd pl cs l=some Bg→∃ H6,Instr.fill pl us k=some H6∧H6.size=Bg.length∧(∀ i (h:i<Bg.length),Rep C M w Bg[i] (H6.getD i undef))∧∀ i,i<Bg.length→(H6.getD i undef).oneCell'=true
 | [],_,cs,Bg,us,.nil,h1,h2,h0,h=>by cases h;exact ⟨us,rfl,h1,h2,h0⟩
 | _,_,cs,Bg,us,.cons i v u l k hv hr,h1,h2,h0,h=>by
  unfold aAd at h
  split at h
  ·rename_i off size hp
   split at h
   ·rename_i xs hx
    obtain ⟨h3,h4,Pt⟩:=pW hv hx
    split at h
    ·rename_i hc
     obtain ⟨Ls,hc2⟩:=hc;obtain ⟨q1,q2⟩:=aAe off u.cells.toList 0 us (by simp;omega)
     have hsz:(cs.take off++xs++cs.drop (off+size)).length=cs.length:=by simp;omega
     obtain ⟨H6,h5,h6,h7,h8⟩:=tD (pl:=pl) (us:=u.cells.zipIdx.foldl (fun cs (x:Value × Nat)=>cs.setIfInBounds (off+x.2) x.1) us) hr (by rw [uL,q1,hsz,h1]) (fun j hj=>by
      have Ca:j<cs.length:=by omega
      rw [uL,Bu,q2]
      by_cases hjo:j<off
      ·rw [if_neg (by omega),xX (by simp;omega),xX (by simp;omega),List.getElem_take]
       have:=h2 j Ca
       rwa [Bu] at this
      ·by_cases hjs:j<off+size
       ·rw [if_pos (by simp;omega),xX (by simp;omega),aJz (by simp;omega)]
        have hlen:(cs.take off).length=off:=by simp;omega
        have:=h4 (j-off) (by omega)
        rw [Bu] at this
        simp only [hlen,Nat.add_zero,Array.getElem?_toList];exact this
       ·rw [if_neg (by simp;omega),aJz (by simp;omega),List.getElem_drop]
        have:=h2 j Ca;rw [Bu] at this
        have e:off+size+(j-(cs.take off++xs).length)=j:=by simp;omega
        simp only [e];exact this) (fun j hj=>by
      have Ca:j<cs.length:=by omega
      rw [uL,Bu,q2]
      by_cases hjs:off≤j∧j<off+size
      ·rw [if_pos (by simp;omega)]
       have:=Pt (j-off) (by omega)
       rw [Bu] at this
       simp only [Nat.add_zero,Array.getElem?_toList];exact this
      ·rw [if_neg (by simp;omega)]
       have:=h0 j Ca
       rwa [Bu] at this) h
     refine ⟨H6,?_,h6,h7,h8⟩;unfold Instr.fill;simp only [hp];rw [if_neg (by simp;omega)]
     exact h5
    ·cases h
   ·cases h
  ·cases h

theorem bFi{α β:Type}(f:α→Sem β)(g:α→β)(l:List α)(h:∀ x∈l,(f x).run P w = .ok (g x) w):(l.mapM f).run P w = .ok (l.map g) w:=by
 induction l with
 | nil=>rfl
 | cons x r ih =>
  rw [List.mapM_cons,Sem.run_bind,h x (by simp),Result.andThen_ok,Sem.run_bind,ih (fun y hy=>h y (by simp [hy]))];rfl

theorem aAf{p q:Nat→Option (Nat × Nat)}(h:p=q)(us:Array Value)(k:List (Nat × Value)):Instr.fill p us k=Instr.fill q us k:=by rw [h]

theorem aFz(hT:∀ t i,T t=some i→cM P t=some i){t:Nat}{parts:List (Nat × AV)}{ps:Array (Nat × Value)}(hp:eF C M w parts ps.toList){x:AV}{s s':AS}(h:vbuild T t parts s=some (x,s'))(g:bA s') :
  bA s∧∃ r,(Instr.build t ps).run P w = .ok r w∧Rep C M w x r:=by
 unfold vbuild at h
 obtain ⟨i,s1,h1,k1⟩:=aC h;obtain ⟨e1,rfl⟩:=aE h1;obtain ⟨_,s2,h2,k2⟩:=aC k1;obtain ⟨e2,rfl⟩:=aE h2;obtain ⟨Kg,_⟩:=bX e2;rw [B4] at Kg
 obtain ⟨hok,hzo⟩:=Kg;rw [iD] at hzo
 obtain ⟨cs,s3,h3,k3⟩:=aC k2;obtain ⟨e3,rfl⟩:=aE h3;obtain ⟨rfl,rfl⟩:=aH k3;clear h h1 k1 h2 k2 h3 k3 e2;refine ⟨g,?_⟩;have hi:=hT _ _ e1;obtain ⟨z,hz,hzc⟩:=aRo (w:=w) hi;obtain ⟨d,hd,hk⟩:=eC hi;have Pu:z.cells.size=(i.zero.map fun v=>AV.p (.v v)).length:=by rw [hzc];simp
 have Oo:∀ j (h:j<(i.zero.map fun v=>AV.p (.v v)).length),Rep C M w (i.zero.map fun v=>AV.p (.v v))[j] (z.cells.getD j undef):=by
  intro j hj;rw [gL];have Ca:j<z.cells.size:=by omega
  have:z.cells.getD j undef=i.zero[j]'(by simpa using hj):=by
   simp only [hzc,Bu,rU Ca];simp
  rw [this];exact .p _ _ (.v _)
 have Pv:∀ j,j<(i.zero.map fun v=>AV.p (.v v)).length→(z.cells.getD j undef).oneCell'=true:=by
  intro j hj;have Ca:j<z.cells.size:=by omega
  have G6:j<i.zero.length:=by simpa using hj
  have:z.cells.getD j undef=i.zero[j]:=by
   simp only [hzc,Bu,rU Ca];simp
  rw [this];exact hzo _ (iC G6)
 obtain ⟨H6,hf,Db,Df,Fo⟩:=tD hp Pu Oo Pv e3;refine ⟨.agg H6,?_,jS Fo Db Df⟩;unfold Instr.build;rw [Sem.run_bind,hz,Result.andThen_ok,Sem.run_bind,run_underlying hd,Result.andThen_ok];unfold aRk at hok
 generalize hik:i.k=ik at hok
 rw [hik] at hk
 split at hok
 ·rename_i fs
  obtain ⟨aS,rfl,rfl⟩:=nA hk.symm;simp only;rw [iD] at hok
  have hm:(aS.mapM fun f=>(do pure (f.offset,← sizeOf f.type):Sem (Nat × Nat))).run P w = .ok ((aS.toList.map fun f=>(f.offset,((T f.type).map (·.size)).getD 0)).toArray) w:=by
   rw [Array.mapM_eq_mapM_toList,Sem.run_map,bFi (g:=fun f=>(f.offset,((T f.type).map (·.size)).getD 0)) _ _ (fun f hf => ?_)]
   ·rfl
   ·have:=hok _ (aVv hf)
    obtain ⟨j,hj⟩:=Option.isSome_iff_exists.1 this;simp only at hj
    rw [Sem.run_bind,iN (hT _ _ hj),hj];rfl
  rw [Sem.run_bind,hm,Result.andThen_ok];have:(fun k=>((aS.toList.map fun f=>(f.offset,((T f.type).map (·.size)).getD 0)).toArray)[k]?)=uK T i:=by
   funext k;unfold uK;rw [hik]
   simp only [List.getElem?_toArray,rV];cases hf:aS.toList[k]? with
   | none=>rfl
   | some f =>
    simp only [Option.map_some];have:=hok _ (aVv (B0 hf));obtain ⟨j,hj⟩:=Option.isSome_iff_exists.1 this;simp only at hj
    simp [hj]
  rw [aAf this,hf];rfl
 ·rename_i len e
  obtain rfl:=pV hk.symm;obtain ⟨j,hj⟩:=Option.isSome_iff_exists.1 hok;simp only;rw [Sem.run_bind,iN (hT _ _ hj),Result.andThen_ok];have:(fun k=>some (k*j.size,j.size))=uK T i:=by
   funext k;unfold uK;rw [hik];simp only [hj]
  rw [aAf this,hf];rfl
 ·cases hok
end
section

def aZ:Mem→Nat→Option AO→Mem
 | [],0,x=>[x]
 | [],n+1,x=>none::aZ [] n x
 | _::l,0,x=>x::l
 | y::l,n+1,x=>y::aZ l n x

theorem aY:∀ (m:Mem) (i:Nat) (x:Option AO),(aZ m i x)[i]? = some x
 | [],0,x=>rfl
 | [],n+1,x=>by simp only [aZ,List.getElem?_cons_succ];exact aY [] n x
 | _::l,0,x=>rfl
 | y::l,n+1,x=>by simp only [aZ,List.getElem?_cons_succ];exact aY l n x
theorem aP:∀ (m:Mem) (i j:Nat) (x:Option AO) (o:AO),i≠j→((aZ m i x)[j]? = some (some o)↔m[j]? = some (some o))
 | [],0,j,x,o,h=>by cases j with
  | zero=>exact absurd rfl h
  | succ j=>simp [aZ]
 | [],n+1,j,x,o,h=>by cases j with
  | zero=>simp [aZ]
  | succ j=>simp only [aZ,List.getElem?_cons_succ];rw [aP [] n j x o (by omega)];simp
 | y::l,0,j,x,o,h=>by cases j with
  | zero=>exact absurd rfl h
  | succ j=>simp [aZ]
 | y::l,n+1,j,x,o,h=>by cases j with
  | zero=>simp [aZ]
  | succ j=>simp only [aZ,List.getElem?_cons_succ];exact aP l n j x o (by omega)

abbrev Upd:=List (Nat × AO)
def upds:Mem→Upd→Mem
 | m,[]=>m
 | m,(i,o)::l=>upds (aZ m i (some o)) l

def xW(m:Mem)(id:Nat):Prop:=∀ o,m[id]? ≠ some (some o)
def fG(m:Mem)(id:Nat):Bool:=(bU m id).isNone
theorem cV{m:Mem}{id:Nat}(h:fG m id=true):xW m id:=fun o ho=>by
 unfold fG at h;rw [bI.2 ho] at h;cases h

variable {P:Program} {T:TT} {C:Cx} {M:Mem} {w:World}

theorem aX.le(hM:aX P C M w){C':Cx}{M':Mem}{w':World}(h:Fr C M w C' M' w'):Le C C' M M' w w':=h.le hM.nF hM.Fs

def Cx.grow(C:Cx)(id b k:Nat):Cx:={ ι:=fun i=>if i=id then some b else C.ι i,κ:=fun i=>if i=id then k else C.κ i,F:=C.F }

theorem aDm(w:World)(o:Obj):(w.alloc o).heap.size=w.heap.size+1∧(w.alloc o).heap[w.heap.size]? = some o∧∀ b,b<w.heap.size→(w.alloc o).heap[b]? = w.heap[b]? := by
 refine ⟨by simp,heap_alloc_new w o,fun b hb=>(World.grownBy_alloc w o none).block b hb (by simp)⟩

theorem tC{id k:Nat}(hf:xW M id)(o:AO)(obj:Obj):Fr C M w (C.grow id w.heap.size k) (aZ M id (some o)) (w.alloc obj):=by
 obtain ⟨h1,h2,h3⟩:=aDm w obj;have hne:∀ (i:Nat) (o':AO),M[i]? = some (some o')→i≠id:=fun i o' h e=>hf o' (e ▸ h)
 refine ⟨rfl,rfl,rfl,by omega,fun b hb _=>h3 b hb,fun i o' h => ?_,fun i o' h ty n cs hm => ?_,fun i o' h o2 hm hl => ?_,fun i o' b hm hl hb => ?_,fun b h=>h,fun b h => .inl h⟩
 ·have:=hne i o' h
  exact ⟨⟨o',(aP M id i _ o' (fun e=>this e.symm)).2 h⟩,by simp [Cx.grow,this],by simp [Cx.grow,this]⟩
 ·have:=hne i o' h
  exact ⟨cs,(aP M id i _ _ (fun e=>this e.symm)).1 hm⟩
 ·have:=hne i o' h
  have h4:=(aP M id i _ _ (fun e=>this e.symm)).1 hm
  rw [h] at h4;cases h4;exact hl
 ·by_cases e:i=id
  ·subst e
   simp only [Cx.grow,if_true] at hb
   cases hb;exact .inl (dD _)
  ·simp only [Cx.grow,e,if_false] at hb
   exact .inr ⟨i,o',(aP M id i _ _ (fun e'=>e e'.symm)).1 hm,hl,hb⟩

theorem oF(hM:aX P C M w){id k:Nat}(hf:xW M id)(o:AO)(obj:Obj)
  (hrow:∀ ty n cs,o = .row ty n cs→∃ arr i,obj = .cells arr ty (0,0)∧P.info? ty=some i∧arr.size=k*i.size∧cs.length=n*i.size∧n≤k∧k≤maxLen∧(∀ j (h:j<cs.length),cS C.F w cs[j] (arr.getD j undef))∧∀ j,j<cs.length→(arr.getD j undef).oneCell'=true)
  (hbox:∀ ty cs,o = .box ty cs→∃ arr,obj = .cells arr ty (0,0)∧arr.size=cs.length∧(∀ j (h:j<cs.length),Rep C M w cs[j] (arr.getD j undef))∧∀ j,j<cs.length→(arr.getD j undef).oneCell'=true)
  (hmp:∀ es cl,o = .mp es cl→es=[]∧obj = .map #[] cl):aX P (C.grow id w.heap.size k) (aZ M id (some o)) (w.alloc obj):=by
 have hFr:=tC (C:=C) (w:=w) hf o obj (k:=k);have hL:=hM.le hFr;obtain ⟨h1,h2,h3⟩:=aDm w obj;have hold:∀ (i:Nat) (o':AO),i≠id→(aZ M id (some o))[i]? = some (some o')→M[i]? = some (some o'):=fun i o' h=>(aP M id i _ o' (fun e=>h e.symm)).1
 have hnew:∀ (o':AO),(aZ M id (some o))[id]? = some (some o')→o'=o:=fun o' h=>by rw [aY] at h;cases h;rfl
 have hι:∀ i,i≠id→(C.grow id w.heap.size k).ι i=C.ι i:=fun i h=>by simp [Cx.grow,h]
 have hκ:∀ i,i≠id→(C.grow id w.heap.size k).κ i=C.κ i:=fun i h=>by simp [Cx.grow,h]
 have hιs:(C.grow id w.heap.size k).ι id=some w.heap.size:=by simp [Cx.grow]
 have hκs:(C.grow id w.heap.size k).κ id=k:=by simp [Cx.grow]
 refine ⟨fun i ty n cs hm => ?_,fun i ty cs hm => ?_,fun i es cl hm => ?_,fun i i' o1 o2 b hm hl Cq De hb Aq => ?_,fun i o' b hm hl hb => ?_,fun b hb => ?_,fun i o' b hm hl hb => ?_,hM.lib.le hL⟩
 ·by_cases e:i=id
  ·subst e
   obtain ⟨arr,inf,rfl,q1,q2,q3,q4,q5,q6,q7⟩:=hrow _ _ _ (hnew _ hm).symm
   right
   refine ⟨_,arr,inf,hιs,h2,q1,by rw [hκs];exact q2,q3,by rw [hκs];exact q4,by rw [hκs];exact q5,fun j hj=>(q6 j hj).mono hL.F hL.fz,q7⟩
  ·rw [hι i e,hκ i e]
   rcases hM.row _ _ _ _ (hold i _ e hm) with h4 | ⟨b,arr,inf,q0,q1,q2,q3,q4,q5,q6,q7,q8⟩
   ·exact .inl h4
   ·exact .inr ⟨b,arr,inf,q0,(h3 b (hM.lt _ _ _ (hold i _ e hm) rfl q0)).trans q1,q2,q3,q4,q5,q6,fun j hj=>(q7 j hj).mono hL.F hL.fz,q8⟩
 ·by_cases e:i=id
  ·subst e
   obtain ⟨arr,rfl,q1,q2,q3⟩:=hbox _ _ (hnew _ hm).symm;exact ⟨_,arr,hιs,h2,q1,fun j hj=>(q2 j hj).mono hL,q3⟩
  ·rw [hι i e]
   obtain ⟨b,arr,q0,q1,q2,q3,q4⟩:=hM.box _ _ _ (hold i _ e hm);exact ⟨b,arr,q0,(h3 b (hM.lt _ _ _ (hold i _ e hm) rfl q0)).trans q1,q2,fun j hj=>(q3 j hj).mono hL,q4⟩
 ·by_cases e:i=id
  ·subst e
   obtain ⟨rfl,rfl⟩:=hmp _ _ (hnew _ hm).symm;exact ⟨_,#[],hιs,h2,rfl,fun j hj=>by simp at hj⟩
  ·rw [hι i e]
   obtain ⟨b,arr,q0,q1,q2,q3⟩:=hM.mp _ _ _ (hold i _ e hm);refine ⟨b,arr,q0,(h3 b (hM.lt _ _ _ (hold i _ e hm) rfl q0)).trans q1,q2,fun j hj => ?_⟩
   obtain ⟨en,r1,r2,r3,r4⟩:=q3 j hj;exact ⟨en,r1,r2,r3,r4.mono hL.F hL.fz⟩
 ·by_cases e:i=id
  ·by_cases e':i'=id
   ·rw [e,e']
   ·subst e
    rw [hιs] at hb;cases hb
    rw [hι i' e'] at Aq
    have:=hM.lt _ _ _ (hold i' _ e' Cq) De Aq;omega
  ·by_cases e':i'=id
   ·subst e'
    rw [hιs] at Aq;cases Aq
    rw [hι i e] at hb
    have:=hM.lt _ _ _ (hold i _ e hm) hl hb;omega
   ·rw [hι i e] at hb;rw [hι i' e'] at Aq
    exact hM.inj _ _ _ _ _ (hold i _ e hm) hl (hold i' _ e' Cq) De hb Aq
 ·by_cases e:i=id
  ·subst e
   rw [hιs] at hb;cases hb
   intro hF;have:=hM.Fs _ hF;omega
  ·rw [hι i e] at hb
   exact hM.nF _ _ _ (hold i _ e hm) hl hb
 ·have:=hM.Fs b hb
  omega
 ·by_cases e:i=id
  ·subst e
   rw [hιs] at hb;cases hb;omega
  ·rw [hι i e] at hb
   have:=hM.lt _ _ _ (hold i _ e hm) hl hb;omega
end
section
variable {P:Program} {T:TT} {C:Cx} {M:Mem} {w:World}

structure But (w w':World) (b:Nat):Prop where
 os:w'.os=w.os
 tape:w'.tape=w.tape
 out:w'.output=w.output
 size:w'.heap.size=w.heap.size
 heap:∀ k,k≠b→w'.heap[k]? = w.heap[k]?

theorem aAc{id b:Nat}{o o':AO}{w':World}(ho:M[id]? = some (some o))(hl:o.live=true)(hb:C.ι id=some b)(hw:But w w' b)
  (hrow:∀ ty n cs,o' = .row ty n cs→∃ Bg,o = .row ty n Bg):Fr C M w C (aZ M id (some o')) w':=by
 refine ⟨hw.os,hw.tape,hw.out,by rw [hw.size];exact dD _,fun k hk hn => ?_,fun i o1 h => ?_,fun i o1 h ty n cs hm => ?_,fun i o1 h o2 hm Bl => ?_,fun i o1 k hm An hk => ?_,fun k h=>h,fun k h => .inl h⟩
 ·exact hw.heap k (fun e=>hn id o ho hl (e ▸ hb))
 ·by_cases e:i=id
  ·subst e;exact ⟨⟨o',aY ..⟩,rfl,rfl⟩
  ·exact ⟨⟨o1,(aP M id i _ o1 (fun e'=>e e'.symm)).2 h⟩,rfl,rfl⟩
 ·by_cases e:i=id
  ·subst e
   rw [aY] at hm
   injection hm with hm;injection hm with hm
   obtain ⟨Bg,h2⟩:=hrow _ _ _ hm;exact ⟨Bg,by rw [ho,h2]⟩
  ·exact ⟨cs,(aP M id i _ _ (fun e'=>e e'.symm)).1 hm⟩
 ·by_cases e:i=id
  ·subst e;rw [ho] at h;cases h;exact hl
  ·have:=(aP M id i _ _ (fun e'=>e e'.symm)).1 hm
   rw [h] at this;cases this;exact Bl
 ·right
  by_cases e:i=id
  ·subst e;exact ⟨i,o,ho,hl,hk⟩
  ·exact ⟨i,o1,(aP M id i _ _ (fun e'=>e e'.symm)).1 hm,An,hk⟩

theorem yC(hM:aX P C M w){id b:Nat}{o o':AO}{w':World}(ho:M[id]? = some (some o))(hl:o.live=true)(hb:C.ι id=some b)(hw:But w w' b)
  (Dz:∀ ty n cs,o' = .row ty n cs→∃ Bg,o = .row ty n Bg)
  (hrow:∀ ty n cs,o' = .row ty n cs→∃ arr i,w'.heap[b]? = some (.cells arr ty (0,0))∧P.info? ty=some i∧arr.size=C.κ id*i.size∧cs.length=n*i.size∧n≤C.κ id∧C.κ id≤maxLen∧(∀ j (h:j<cs.length),cS C.F w cs[j] (arr.getD j undef))∧∀ j,j<cs.length→(arr.getD j undef).oneCell'=true)
  (hbox:∀ ty cs,o' = .box ty cs→∃ arr,w'.heap[b]? = some (.cells arr ty (0,0))∧arr.size=cs.length∧(∀ j (h:j<cs.length),Rep C M w cs[j] (arr.getD j undef))∧∀ j,j<cs.length→(arr.getD j undef).oneCell'=true)
  (hmp:∀ es cl,o' = .mp es cl→∃ arr,w'.heap[b]? = some (.map arr cl)∧arr.size=es.length∧∀ j (h:j<es.length),∃ e,arr[j]? = some e∧e.key=es[j].1∧e.born<cl∧cS C.F w es[j].2 e.val) :
  aX P C (aZ M id (some o')) w':=by
 have hFr:=aAc (C:=C) ho hl hb hw Dz;have hL:=hM.le hFr;have hold:∀ (i:Nat) (o1:AO),i≠id→(aZ M id (some o'))[i]? = some (some o1)→M[i]? = some (some o1):=fun i o1 h=>(aP M id i _ o1 (fun e=>h e.symm)).1
 have hnew:∀ (o1:AO),(aZ M id (some o'))[id]? = some (some o1)→o1=o':=fun o1 h=>by rw [aY] at h;cases h;rfl
 have hne:∀ (i:Nat) (o1:AO) (k:Nat),i≠id→M[i]? = some (some o1)→o1.live=true→C.ι i=some k→k≠b:=fun i o1 k h hm An hk e=>h (hM.inj i id o1 o b hm An ho hl (e ▸ hk) hb)
 refine ⟨fun i ty n cs hm => ?_,fun i ty cs hm => ?_,fun i es cl hm => ?_,fun i i' o1 o2 k hm An Cq De hk Gf => ?_,fun i o1 k hm An hk => ?_,fun k hk => ?_,fun i o1 k hm An hk => ?_,hM.lib.le hL⟩
 ·by_cases e:i=id
  ·subst e
   obtain ⟨arr,inf,q0,q1,q2,q3,q4,q5,q6,q7⟩:=hrow _ _ _ (hnew _ hm).symm;exact .inr ⟨b,arr,inf,hb,q0,q1,q2,q3,q4,q5,fun j hj=>(q6 j hj).mono hL.F hL.fz,q7⟩
  ·have Co:=hold i _ e hm
   rcases hM.row _ _ _ _ Co with h4 | ⟨k,arr,inf,q0,q1,q2,q3,q4,q5,q6,q7,q8⟩
   ·exact .inl h4
   ·exact .inr ⟨k,arr,inf,q0,(hw.heap k (hne i _ k e Co rfl q0)).trans q1,q2,q3,q4,q5,q6,fun j hj=>(q7 j hj).mono hL.F hL.fz,q8⟩
 ·by_cases e:i=id
  ·subst e
   obtain ⟨arr,q0,q1,q2,q3⟩:=hbox _ _ (hnew _ hm).symm;exact ⟨b,arr,hb,q0,q1,fun j hj=>(q2 j hj).mono hL,q3⟩
  ·have Co:=hold i _ e hm
   obtain ⟨k,arr,q0,q1,q2,q3,q4⟩:=hM.box _ _ _ Co;exact ⟨k,arr,q0,(hw.heap k (hne i _ k e Co rfl q0)).trans q1,q2,fun j hj=>(q3 j hj).mono hL,q4⟩
 ·by_cases e:i=id
  ·subst e
   obtain ⟨arr,q0,q1,q2⟩:=hmp _ _ (hnew _ hm).symm;refine ⟨b,arr,hb,q0,q1,fun j hj => ?_⟩
   obtain ⟨en,r1,r2,r3,r4⟩:=q2 j hj;exact ⟨en,r1,r2,r3,r4.mono hL.F hL.fz⟩
  ·have Co:=hold i _ e hm
   obtain ⟨k,arr,q0,q1,q2,q3⟩:=hM.mp _ _ _ Co;refine ⟨k,arr,q0,(hw.heap k (hne i _ k e Co rfl q0)).trans q1,q2,fun j hj => ?_⟩
   obtain ⟨en,r1,r2,r3,r4⟩:=q3 j hj;exact ⟨en,r1,r2,r3,r4.mono hL.F hL.fz⟩
 ·have h1:∃ o1,M[i]? = some (some o1)∧o1.live=true:=by
   by_cases e:i=id
   ·subst e;exact ⟨o,ho,hl⟩
   ·exact ⟨_,hold i _ e hm,An⟩
  have h2:∃ o1,M[i']? = some (some o1)∧o1.live=true:=by
   by_cases e:i'=id
   ·subst e;exact ⟨o,ho,hl⟩
   ·exact ⟨_,hold i' _ e Cq,De⟩
  obtain ⟨x1,h3,h4⟩:=h1;obtain ⟨x2,h5,h6⟩:=h2;exact hM.inj _ _ _ _ _ h3 h4 h5 h6 hk Gf
 ·by_cases e:i=id
  ·subst e;exact hM.nF _ _ _ ho hl hk
  ·exact hM.nF _ _ _ (hold i _ e hm) An hk
 ·have:=hM.Fs k hk
  rw [hw.size];exact this
 ·rw [hw.size]
  by_cases e:i=id
  ·subst e;exact hM.lt _ _ _ ho hl hk
  ·exact hM.lt _ _ _ (hold i _ e hm) An hk

def Cx.close(C:Cx)(id:Nat)(f:Bool):Cx:={ ι:=C.ι,κ:=C.κ,F:=fun b=>C.F b∨(f=true∧C.ι id=some b) }

theorem cU{id:Nat}{o:AO}(f:Bool)(ho:M[id]? = some (some o))(hl:o.live=true):Fr C M w (C.close id f) (aZ M id (some .dead)) w:=by
 refine ⟨rfl,rfl,rfl,dD _,fun k hk hn=>rfl,fun i o1 h => ?_,fun i o1 h ty n cs hm => ?_,fun i o1 h o2 hm Bl => ?_,fun i o1 k hm An hk => ?_,fun k h => .inl h,fun k h => ?_⟩
 ·by_cases e:i=id
  ·subst e;exact ⟨⟨.dead,aY ..⟩,rfl,rfl⟩
  ·exact ⟨⟨o1,(aP M id i _ o1 (fun e'=>e e'.symm)).2 h⟩,rfl,rfl⟩
 ·by_cases e:i=id
  ·subst e;rw [aY] at hm;cases hm
  ·exact ⟨cs,(aP M id i _ _ (fun e'=>e e'.symm)).1 hm⟩
 ·by_cases e:i=id
  ·subst e;rw [aY] at hm;cases hm;cases Bl
  ·have:=(aP M id i _ _ (fun e'=>e e'.symm)).1 hm
   rw [h] at this;cases this;exact Bl
 ·by_cases e:i=id
  ·subst e;rw [aY] at hm;cases hm;cases An
  ·exact .inr ⟨i,o1,(aP M id i _ _ (fun e'=>e e'.symm)).1 hm,An,hk⟩
 ·rcases h with h | ⟨_,h⟩
  ·exact .inl h
  ·exact .inr (.inr ⟨id,o,ho,hl,h⟩)

theorem lE(hM:aX P C M w){id:Nat}{o:AO}(f:Bool)(ho:M[id]? = some (some o))(hl:o.live=true):aX P (C.close id f) (aZ M id (some .dead)) w:=by
 have hL:=hM.le (cU (C:=C) (w:=w) f ho hl);have hold:∀ (i:Nat) (o1:AO),o1.live=true→(aZ M id (some .dead))[i]? = some (some o1)→i≠id∧M[i]? = some (some o1):=fun i o1 An h=>by
  by_cases e:i=id
  ·subst e;rw [aY] at h;cases h;cases An
  ·exact ⟨e,(aP M id i _ o1 (fun e'=>e e'.symm)).1 h⟩
 refine ⟨fun i ty n cs hm => ?_,fun i ty cs hm => ?_,fun i es cl hm => ?_,fun i i' o1 o2 k hm An Cq De hk Gf => ?_,fun i o1 k hm An hk => ?_,fun k hk => ?_,fun i o1 k hm An hk => ?_,hM.lib.le hL⟩
 ·rcases hM.row _ _ _ _ (hold i _ rfl hm).2 with h4 | ⟨k,arr,inf,q0,q1,q2,q3,q4,q5,q6,q7,q8⟩
  ·exact .inl h4
  ·exact .inr ⟨k,arr,inf,q0,q1,q2,q3,q4,q5,q6,fun j hj=>(q7 j hj).mono hL.F hL.fz,q8⟩
 ·obtain ⟨k,arr,q0,q1,q2,q3,q4⟩:=hM.box _ _ _ (hold i _ rfl hm).2
  exact ⟨k,arr,q0,q1,q2,fun j hj=>(q3 j hj).mono hL,q4⟩
 ·obtain ⟨k,arr,q0,q1,q2,q3⟩:=hM.mp _ _ _ (hold i _ rfl hm).2
  refine ⟨k,arr,q0,q1,q2,fun j hj => ?_⟩
  obtain ⟨en,r1,r2,r3,r4⟩:=q3 j hj;exact ⟨en,r1,r2,r3,r4.mono hL.F hL.fz⟩
 ·exact hM.inj _ _ _ _ _ (hold i _ An hm).2 An (hold i' _ De Cq).2 De hk Gf
 ·obtain ⟨hne,Co⟩:=hold i _ An hm
  rintro (h | ⟨_,h⟩)
  ·exact hM.nF _ _ _ Co An hk h
  ·exact hne (hM.inj _ _ _ _ _ Co An ho hl hk h)
 ·rcases hk with h | ⟨_,h⟩
  ·exact hM.Fs k h
  ·exact hM.lt _ _ _ ho hl h
 ·exact hM.lt _ _ _ (hold i _ An hm).2 An hk

theorem tB(hM:aX P C M w){id ty n:Nat}{cs:List PV}(ho:M[id]? = some (some (.row ty n cs))){u:Value}(h:Rep C M w (.own id) u):cS (C.close id true).F w (.sl n cs) u:=by
 cases h with
 | own id u h0 ha h =>
  rcases h _ _ _ ho with ⟨rfl,hn,hz⟩ | ⟨b,rfl,hb⟩
  ·rcases hM.row _ _ _ _ ho with ⟨_,_,rfl⟩ | ⟨b,_,_,hb,_⟩
   ·subst hz
    exact .sl 0 [] none 0 (fun _=>undef) (dD _) (by simp [maxLen]) (fun i h=>by simp at h) (fun i h=>by simp at h) (fun i h=>by simp at h)
   ·rw [hn] at hb;cases hb
  ·rcases hM.row _ _ _ _ ho with ⟨hn,_⟩ | ⟨b',arr,inf,Aq,q1,q2,q3,q4,q5,q6,q7,q8⟩
   ·rw [hb] at hn;cases hn
   ·rw [hb] at Aq;cases Aq
    have hle:cs.length≤arr.size:=by rw [q3,q4];exact Nat.mul_le_mul_right _ q5
    refine .sl n cs _ _ (fun j=>arr.getD j undef) q5 q6 (fun i hi=>⟨b,0,rfl,.inr ⟨rfl,hb⟩,?_⟩) (fun i hi=>(q7 i hi).mono (fun _ h => .inl h) (fun _ _=>rfl)) q8
    rw [iP];exact cW q1 (by omega)
end
section

def Out(P:Program)(C:Cx)(M:Mem)(w:World)(x:AV)(M':Mem)(r:Result Value):Prop :=
 ∃ C' w' u,r = .ok u w'∧Fr C M w C' M' w'∧aX P C' M' w'∧Rep C' M' w' x u

def salloc(T:TT)(m:Mem)(id t:Nat):Ask (AV × Upd):=do
 let i ← lift (T t)
 lift (if fG m id && i.zero.length == i.size && i.zero.all (·.oneCell') then some () else none)
 pure (.ptr id 0,[(id,if i.size≤16 then .box t (i.zero.map fun v => .p (.v v)) else .row t 1 (i.zero.map .v))])

def sbox(T:TT)(m:Mem)(id t:Nat)(x:AV):Ask (AV × Upd):=do
 let i ← lift (T t)
 lift (if fG m id then some () else none)
 match decide (i.size≤16) with
 | true=>do
  let cs ← lift (cellsOf x)
  pure (.ptr id 0,[(id,.box t cs)])
 | false=>match x with
  | .p (.agg xs)=>do
   eM (xs.length=i.size)
   pure (.ptr id 0,[(id,.row t 1 xs)])
  | _=>fail

def bFg:AV→Option PV
 | .p (.v x)=>if x.oneCell' then some (.v x) else none
 | .p (.sl n cs)=>some (.sl n cs)
 | .p (.mp es)=>some (.mp es)
 | .p (.rp cs off)=>some (.rp cs off)
 | .p (.fn f a b)=>some (.fn f a b)
 | .rp cs off=>some (.rp cs off)
 | .kb b=>some (.v (.bool b))
 | _=>none

def sstore(T:TT)(m:Mem)(t:Nat)(a x:AV):Ask Upd:=do
 let i ← lift (T t)
 match a with
 | .ptr id off=>do
  let o ← lift (bU m id)
  match o with
  | .box ty cs=>do
   let xs ← lift (cellsOf x)
   lift (if xs.length=i.size∧off+i.size≤cs.length then some () else none)
   pure [(id,.box ty (cs.take off++xs++cs.drop (off+i.size)))]
  | .row ty n cs=>match decide (i.size=1) with
   | true=>do
    let y ← lift (bFg x)
    eM (off<cs.length)
    pure [(id,.row ty n (cs.set off y))]
   | false=>match x with
    | .p (.agg xs)=>do
     eM (xs.length=i.size∧off+i.size≤cs.length)
     pure [(id,.row ty n (cs.take off++xs++cs.drop (off+i.size)))]
    | _=>fail
  | _=>fail
 | _=>fail

variable {P:Program} {T:TT} {C:Cx} {M:Mem} {w:World}

theorem aVn{x:AV}{y:PV}{u:Value}(h:Rep C M w x u)(hx:bFg x=some y):cS C.F w y u∧u.oneCell'=true:=by
 cases h with
 | p x u h =>
  cases h with
  | v z =>
   simp only [bFg] at hx
   obtain ⟨h1,rfl⟩:=bX hx;exact ⟨.v _,h1⟩
  | sl n cs p cap us h1 h2 h3 h4 h5=>cases hx;exact ⟨.sl n cs p cap us h1 h2 h3 h4 h5,rfl⟩
  | agg=>cases hx
  | mp es b cl arr us hb h0 h1 h2 h3=>cases hx;exact ⟨.mp es b cl arr us hb h0 h1 h2 h3,rfl⟩
  | rp cs off b o us h1 h2 h3=>cases hx;exact ⟨.rp cs off b o us h1 h2 h3,rfl⟩
  | fn f cs ds us vs h1 h2 h3 h4=>cases hx;exact ⟨.fn f cs ds us vs h1 h2 h3 h4,rfl⟩
 | kb b=>cases hx;exact ⟨.v _,rfl⟩
 | rp cs off b o us h1 h2 h3=>cases hx;exact ⟨.rp cs off b o us h1 h2 h3,rfl⟩
 | _=>cases hx

theorem bFh{i:TI}{t:Nat}(hi:cM P t=some i)(hz:i.zero.all (·.oneCell')=true):∃ z:Value,(zeroValue t).run P w = .ok z w∧z.cells.size=i.zero.length∧(∀ j (h:j<i.zero.length),z.cells.getD j undef=i.zero[j])∧∀ j,j<i.zero.length→(z.cells.getD j undef).oneCell'=true:=by
 obtain ⟨z,h1,h2⟩:=aRo (w:=w) hi;rw [iD] at hz
 have hs:z.cells.size=i.zero.length:=by rw [h2];simp
 have hg:∀ j (h:j<i.zero.length),z.cells.getD j undef=i.zero[j]:=fun j h=>by
  have Ca:j<z.cells.size:=by omega
  simp only [h2,Bu,rU Ca];simp
 exact ⟨z,h1,hs,hg,fun j h=>by rw [hg j h];exact hz _ (iC h)⟩

theorem aFy(hT:∀ t i,T t=some i→cM P t=some i)(hM:aX P C M w){id t:Nat}{x:AV}{L:Upd}{old:Value}{s s':AS}(h:salloc T M id t s=some ((x,L),s'))(g:bA s') :
  bA s∧Out P C M w x (upds M L) ((Instr.alloc t true old).run P w):=by
 unfold salloc at h
 obtain ⟨i,s1,h1,k1⟩:=aC h;obtain ⟨e1,rfl⟩:=aE h1;obtain ⟨_,s2,h2,k2⟩:=aC k1;obtain ⟨e2,rfl⟩:=aE h2;obtain ⟨hc,_⟩:=bX e2;obtain ⟨hx,rfl⟩:=aH k2;cases hx;clear h h1 k1 h2 k2 e2;simp only [B4,beq_iff_eq] at hc
 obtain ⟨⟨hf,hlen⟩,hz⟩:=hc;have hf:=cV hf;have hi:=hT _ _ e1;obtain ⟨inf,d,_,hinf,_,_,_,hsz,_⟩:=eG hi;obtain ⟨z,hzr,hzs,hzg,hzo⟩:=bFh (w:=w) hi hz;refine ⟨g,C.grow id w.heap.size 1,w.alloc (.cells z.cells t),.pointer (some ⟨w.heap.size,0,none⟩),?_,tC hf _ _,?_,?_⟩
 ·unfold Instr.alloc
  rw [Sem.run_bind,hzr,Result.andThen_ok];rfl
 ·split
  ·refine oF hM hf _ _ (fun _ _ _ h=>by cases h) (fun ty cs h => ?_) (fun _ _ h=>by cases h)
   cases h;refine ⟨_,rfl,by simp [hzs],fun j hj => ?_,fun j hj=>hzo j (by simpa using hj)⟩
   rw [gL,hzg j (by simpa using hj)]
   exact .p _ _ (.v _)
  ·refine oF hM hf _ _ (fun ty n cs h => ?_) (fun _ _ h=>by cases h) (fun _ _ h=>by cases h)
   cases h;refine ⟨_,inf,rfl,hinf,by omega,by simp;omega,dD _,by simp [maxLen],fun j hj => ?_,fun j hj=>hzo j (by simpa using hj)⟩
   rw [gL,hzg j (by simpa using hj)]
   exact .v _
 ·exact .ptr id 0 _ rfl ⟨_,aY ..⟩ (fun _ _ _=>⟨_,rfl,by simp [Cx.grow]⟩) ⟨_,rfl⟩

theorem aNq(hT:∀ t i,T t=some i→cM P t=some i)(hM:aX P C M w){id t:Nat}{x y:AV}{u:Value}{L:Upd}{s s':AS}(hy:Rep C M w y u)(h:sbox T M id t y s=some ((x,L),s'))(g:bA s') :
  bA s∧Out P C M w x (upds M L) ((Instr.box t u).run P w):=by
 unfold sbox at h
 obtain ⟨i,s1,h1,k1⟩:=aC h;obtain ⟨e1,rfl⟩:=aE h1;obtain ⟨_,s2,h2,k2⟩:=aC k1;obtain ⟨e2,rfl⟩:=aE h2;obtain ⟨hc,_⟩:=bX e2;clear h h1 k1 h2 e2;have hf:=cV hc;have hi:=hT _ _ e1;obtain ⟨inf,d,_,hinf,_,_,_,hsz,_⟩:=eG hi;have hrun:(Instr.box t u).run P w = .ok (.pointer (some ⟨w.heap.size,0,none⟩)) (w.alloc (.cells u.cells t)):=rfl;have hrep:∀ (o:AO) (k:Nat),Rep (C.grow id w.heap.size k) (aZ M id (some o)) (w.alloc (.cells u.cells t)) (.ptr id 0) (.pointer (some ⟨w.heap.size,0,none⟩)):=fun o k =>
  .ptr id 0 _ rfl ⟨_,aY ..⟩ (fun _ _ _=>⟨_,rfl,by simp [Cx.grow]⟩) ⟨_,rfl⟩
 generalize hd:decide (i.size≤16)=d at k2
 split at k2
 ·obtain ⟨cs,s3,h3,k3⟩:=aC k2
  obtain ⟨e3,rfl⟩:=aE h3;obtain ⟨hx,rfl⟩:=aH k3;cases hx;obtain ⟨q1,q2,q3⟩:=pW hy e3;refine ⟨g,C.grow id w.heap.size 1,_,_,hrun,tC hf _ _,oF hM hf _ _ (fun _ _ _ h=>by cases h) (fun ty Bg h => ?_) (fun _ _ h=>by cases h),hrep _ _⟩
  cases h;exact ⟨_,rfl,q1,q2,q3⟩
 ·split at k2
  ·rename_i xs
   obtain ⟨_,s3,h3,k3⟩:=aC k2;obtain ⟨hx,rfl⟩:=aH k3;cases hx;obtain ⟨hl,g⟩:=dL h3 g;cases hy with
   | p _ u hp =>
    cases hp with
    | agg xs vs h0 h1 h2 =>
     refine ⟨g,C.grow id w.heap.size 1,_,_,hrun,tC hf _ _,oF hM hf _ _ (fun ty n cs h => ?_) (fun _ _ h=>by cases h) (fun _ _ h=>by cases h),hrep _ _⟩
     cases h;exact ⟨_,inf,rfl,hinf,by simp only [Value.cells];omega,by omega,dD _,by simp [maxLen],h2,h0⟩
  ·exact (aU k2).elim

theorem jE(w:World)(b:Nat)(arr:Array Value):But w (w.setRow b arr) b:=⟨rfl,rfl,rfl,by simp [World.setRow],fun k hk=>setRow_other w b k _ hk⟩

theorem spliced(cur vs:Array Value)(off:Nat)(h:off+vs.size≤cur.size):((cur.toList.take off++vs.toList++cur.toList.drop (off+vs.toList.length)).toArray).size=cur.size ∧
  ∀ j,j<cur.size→((cur.toList.take off++vs.toList++cur.toList.drop (off+vs.toList.length)).toArray).getD j undef=if j<off then cur.getD j undef else if j<off+vs.size then vs.getD (j-off) undef else cur.getD j undef:=by
 refine ⟨by simp;omega,fun j hj => ?_⟩
 rw [Bu];simp only [List.getElem?_toArray]
 by_cases h1:j<off
 ·rw [if_pos h1,List.append_assoc,aGg (by simp;omega),List.getElem?_take_of_lt h1,Bu];simp
 ·rw [if_neg h1]
  by_cases h2:j<off+vs.size
  ·rw [if_pos h2,aGg (by simp;omega),aJy (by simp;omega),Bu]
   have:(cur.toList.take off).length=off:=by simp;omega
   rw [this];simp
  ·rw [if_neg h2,aJy (by simp;omega),List.getElem?_drop,Bu]
   have:off+vs.toList.length+(j-(cur.toList.take off++vs.toList).length)=j:=by simp;omega
   rw [this];simp

theorem vR{t:Nat}{i:TI}(hi:cM P t=some i){b off:Nat}{u:Value}{cur:Array Value}{ty:TypeId}(hg:w.heap[b]? = some (.cells cur ty (0,0)))(hs:u.cells.size=i.size)(hl:off+i.size≤cur.size)(h1:∀ j,j<u.cells.size→(u.cells.getD j undef).oneCell'=true) :
  (Instr.storeAt t (.pointer (some ⟨b,off,none⟩)) u).run P w = .ok () (w.setRow b (cur.toList.take off++u.cells.toList++cur.toList.drop (off+u.cells.toList.length)).toArray):=by
 unfold Instr.storeAt;rw [Sem.run_bind];show ((pure (⟨b,off,none⟩:Addr):Sem Addr).run P w).andThen _=_;rw [Sem.run_pure,Result.andThen_ok];unfold storeVar;rw [Sem.run_bind,iN hi,Result.andThen_ok,if_neg (by simp [hs])]
 have:=run_storeCells_at P b off ty u.cells.toList 0 cur w hg (by simp;omega) (fun v hv=>by
  obtain ⟨j,hj,rfl⟩:=List.getElem_of_mem hv;have:=h1 j (by simpa using hj)
  rwa [Bu,rU (by simpa using hj)] at this)
 simpa using this
end
section
variable {P:Program} {T:TT} {C:Cx} {M:Mem} {w:World}

theorem xI{α:Type}(cs xs:List α)(off:Nat)(h:off+xs.length≤cs.length):(cs.take off++xs++cs.drop (off+xs.length)).length=cs.length ∧
  ∀ j (hj:j<(cs.take off++xs++cs.drop (off+xs.length)).length),(j<off→∃ h2:j<cs.length,(cs.take off++xs++cs.drop (off+xs.length))[j]=cs[j]) ∧
   (off≤j→j<off+xs.length→∃ h2:j-off<xs.length,(cs.take off++xs++cs.drop (off+xs.length))[j]=xs[j-off]) ∧
   (off+xs.length≤j→∃ h2:j<cs.length,(cs.take off++xs++cs.drop (off+xs.length))[j]=cs[j]):=by
 have hl:(cs.take off++xs++cs.drop (off+xs.length)).length=cs.length:=by simp;omega
 have ht:(cs.take off).length=off:=by simp;omega
 refine ⟨hl,fun j hj=>⟨fun h1=>⟨by omega,?_⟩,fun h1 h2=>⟨by omega,?_⟩,fun h1=>⟨by omega,?_⟩⟩⟩
 ·rw [xX (by simp;omega),xX (by omega),List.getElem_take]
 ·rw [xX (by simp;omega),aJz (by omega)]
  simp only [ht]
 ·rw [aJz (by simp;omega),List.getElem_drop]
  have e:off+xs.length+(j-(cs.take off++xs).length)=j:=by simp;omega
  simp only [e]

theorem uI(hM:aX P C M w){id ty n off b:Nat}{cs xs:List PV}{vs cur:Array Value}(ho:M[id]? = some (some (.row ty n cs)))(hb:C.ι id=some b)(hg:w.heap[b]? = some (.cells cur ty (0,0)))
  (hvs:vs.size=xs.length) (hl:off+xs.length≤cs.length) (hr:∀ j (h:j<xs.length),cS C.F w xs[j] (vs.getD j undef)) (h1:∀ j,j<xs.length→(vs.getD j undef).oneCell'=true) :
  aX P C (aZ M id (some (.row ty n (cs.take off++xs++cs.drop (off+xs.length))))) (w.setRow b (cur.toList.take off++vs.toList++cur.toList.drop (off+vs.toList.length)).toArray) ∧
  Fr C M w C (aZ M id (some (.row ty n (cs.take off++xs++cs.drop (off+xs.length))))) (w.setRow b (cur.toList.take off++vs.toList++cur.toList.drop (off+vs.toList.length)).toArray):=by
 rcases hM.row _ _ _ _ ho with ⟨hn,_⟩ | ⟨b',arr,inf,Aq,q1,q2,q3,q4,q5,q6,q7,q8⟩
 ·rw [hb] at hn;cases hn
 rw [hb] at Aq;cases Aq
 rw [hg] at q1;cases q1
 have hle:cs.length≤cur.size:=by rw [q3,q4];exact Nat.mul_le_mul_right _ q5
 obtain ⟨p1,p2⟩:=spliced cur vs off (by omega)
 obtain ⟨r1,r2⟩:=xI cs xs off hl;have Dz:∀ C6 n' Bg,AO.row ty n (cs.take off++xs++cs.drop (off+xs.length)) = .row C6 n' Bg→∃ I4,AO.row ty n cs = .row C6 n' I4:=fun _ _ _ h=>by cases h;exact ⟨cs,rfl⟩
 refine ⟨yC hM ho rfl hb (jE _ _ _) Dz (fun C6 n' Bg h => ?_) (fun _ _ h=>by cases h) (fun _ _ h=>by cases h),aAc ho rfl hb (jE _ _ _) Dz⟩
 cases h;refine ⟨_,inf,setRow_heap w b cur _ ty _ hg,q2,by rw [p1];exact q3,by rw [r1];exact q4,q5,q6,fun j hj => ?_,fun j hj => ?_⟩
 ·rw [p2 j (by omega)]
  obtain ⟨s1,s2,s3⟩:=r2 j hj
  by_cases c1:j<off
  ·obtain ⟨h3,h4⟩:=s1 c1
   rw [if_pos c1,h4];exact q7 j h3
  ·rw [if_neg c1]
   by_cases c2:j<off+vs.size
   ·obtain ⟨h3,h4⟩:=s2 (by omega) (by omega)
    rw [if_pos c2,h4];exact hr _ h3
   ·obtain ⟨h3,h4⟩:=s3 (by omega)
    rw [if_neg c2,h4];exact q7 j h3
 ·rw [p2 j (by omega)]
  split
  ·exact q8 j (by omega)
  ·split
   ·exact h1 _ (by omega)
   ·exact q8 j (by omega)

theorem bLw(hM:aX P C M w){id ty off b:Nat}{cs xs:List AV}{vs cur:Array Value}(ho:M[id]? = some (some (.box ty cs)))(hb:C.ι id=some b)(hg:w.heap[b]? = some (.cells cur ty (0,0)))
  (hvs:vs.size=xs.length) (hl:off+xs.length≤cs.length) (hr:∀ j (h:j<xs.length),Rep C M w xs[j] (vs.getD j undef)) (h1:∀ j,j<xs.length→(vs.getD j undef).oneCell'=true) :
  aX P C (aZ M id (some (.box ty (cs.take off++xs++cs.drop (off+xs.length))))) (w.setRow b (cur.toList.take off++vs.toList++cur.toList.drop (off+vs.toList.length)).toArray) ∧
  Fr C M w C (aZ M id (some (.box ty (cs.take off++xs++cs.drop (off+xs.length))))) (w.setRow b (cur.toList.take off++vs.toList++cur.toList.drop (off+vs.toList.length)).toArray):=by
 obtain ⟨b',arr,Aq,q1,q3,q7,q8⟩:=hM.box _ _ _ ho;rw [hb] at Aq;cases Aq
 rw [hg] at q1;cases q1
 obtain ⟨p1,p2⟩:=spliced cur vs off (by omega)
 obtain ⟨r1,r2⟩:=xI cs xs off hl;have Dz:∀ C6 n' Bg,AO.box ty (cs.take off++xs++cs.drop (off+xs.length)) = .row C6 n' Bg→∃ I4,AO.box ty cs = .row C6 n' I4:=fun _ _ _ h=>by cases h
 refine ⟨yC hM ho rfl hb (jE _ _ _) Dz (fun _ _ _ h=>by cases h) (fun C6 Bg h => ?_) (fun _ _ h=>by cases h),aAc ho rfl hb (jE _ _ _) Dz⟩
 cases h;refine ⟨_,setRow_heap w b cur _ ty _ hg,by rw [p1,r1];exact q3,fun j hj => ?_,fun j hj => ?_⟩
 ·rw [p2 j (by omega)]
  obtain ⟨s1,s2,s3⟩:=r2 j hj
  by_cases c1:j<off
  ·obtain ⟨h3,h4⟩:=s1 c1
   rw [if_pos c1,h4];exact q7 j h3
  ·rw [if_neg c1]
   by_cases c2:j<off+vs.size
   ·obtain ⟨h3,h4⟩:=s2 (by omega) (by omega)
    rw [if_pos c2,h4];exact hr _ h3
   ·obtain ⟨h3,h4⟩:=s3 (by omega)
    rw [if_neg c2,h4];exact q7 j h3
 ·rw [p2 j (by omega)]
  split
  ·exact q8 j (by omega)
  ·split
   ·exact h1 _ (by omega)
   ·exact q8 j (by omega)

theorem aNp{α:Type}(cs:List α)(off:Nat)(y:α)(h:off<cs.length):cs.set off y=cs.take off++[y]++cs.drop (off+[y].length):=by
 rw [List.set_eq_take_append_cons_drop,if_pos h];simp

theorem uJ(hT:∀ t i,T t=some i→cM P t=some i)(hM:aX P C M w){t:Nat}{a x:AV}{u v:Value}{L:Upd}{s s':AS}(ha:Rep C M w a u)(hx:Rep C M w x v)(h:sstore T M t a x s=some (L,s'))(g:bA s') :
  bA s∧∃ w',(Instr.storeAt t u v).run P w = .ok () w'∧Fr C M w C (upds M L) w'∧aX P C (upds M L) w':=by
 unfold sstore at h
 obtain ⟨i,s1,h1,k1⟩:=aC h;obtain ⟨e1,rfl⟩:=aE h1;clear h h1;have hi:=hT _ _ e1
 split at k1
 rotate_left
 ·exact (aU k1).elim
 rename_i id off;obtain ⟨o,s2,h2,k2⟩:=aC k1;obtain ⟨e2,rfl⟩:=aE h2;clear k1 h2
 replace e2:=dU e2
 split at k2
 ·rename_i ty cs
  obtain ⟨xs,s3,h3,k3⟩:=aC k2;obtain ⟨e3,rfl⟩:=aE h3;obtain ⟨_,s4,h4,k4⟩:=aC k3;obtain ⟨e4,rfl⟩:=aE h4;obtain ⟨⟨c1,c2⟩,_⟩:=bX e4;obtain ⟨rfl,rfl⟩:=aH k4;obtain ⟨b,rfl,hb⟩:=fM ha (gR e2 rfl);obtain ⟨b',cur,Aq,hg,hsz,_⟩:=hM.box _ _ _ e2;rw [hb] at Aq;cases Aq
  obtain ⟨q1,q2,q3⟩:=pW hx e3;rw [← c1];obtain ⟨m1,m2⟩:=bLw (off:=off) hM e2 hb hg q1 (by omega) q2 q3
  have hrs:=vR (u:=v) (off:=off) hi hg (by omega) (by omega) (fun j hj=>q3 j (by omega))
  exact ⟨g,_,hrs,m2,m1⟩
 ·rename_i ty n cs
  obtain ⟨b,rfl,hb⟩:=fM ha (gR e2 rfl)
  rcases hM.row _ _ _ _ e2 with ⟨hn,_⟩ | ⟨b',cur,inf,Aq,hg,_,hsz,hcl,hle,_⟩
  ·rw [hb] at hn;cases hn
  rw [hb] at Aq;cases Aq
  have Mx:cs.length≤cur.size:=by rw [hsz,hcl];exact Nat.mul_le_mul_right _ hle
  generalize hd:decide (i.size=1)=d at k2
  split at k2
  ·have hd:=of_decide_eq_true hd
   obtain ⟨y,s3,h3,k3⟩:=aC k2;obtain ⟨e3,rfl⟩:=aE h3;obtain ⟨_,s4,h4,k4⟩:=aC k3;obtain ⟨rfl,rfl⟩:=aH k4;obtain ⟨c1,g⟩:=dL h4 g;obtain ⟨q1,q2⟩:=aVn hx e3;have q3:=aDr q2;rw [aNp cs off y c1];obtain ⟨m1,m2⟩:=uI (off:=off) hM e2 hb hg (vs:=v.cells) (xs:=[y]) (by rw [q3];rfl) (by simp;omega) (fun j hj=>by
    obtain rfl:j=0:=by simpa using hj
    rw [q3];exact q1) (fun j hj=>by
    obtain rfl:j=0:=by simpa using hj
    rw [q3];exact q2)
   have hrs:=vR (u:=v) (off:=off) hi hg (by rw [q3,hd];rfl) (by omega) (fun j hj=>by
    rw [q3] at hj ⊢
    obtain rfl:j=0:=by simpa using hj
    exact q2)
   exact ⟨g,_,hrs,m2,m1⟩
  ·split at k2
   ·rename_i xs
    obtain ⟨_,s4,h4,k4⟩:=aC k2;obtain ⟨rfl,rfl⟩:=aH k4;obtain ⟨⟨c1,c2⟩,g⟩:=dL h4 g;cases hx with
    | p _ v hp =>
     cases hp with
     | agg xs vs h0 hv h2 =>
      rw [← c1];obtain ⟨m1,m2⟩:=uI (off:=off) hM e2 hb hg hv (by omega) h2 h0
      have hrs:=vR (u := .agg vs) (off:=off) hi hg (by simp only [Value.cells];omega) (by omega) (fun j hj=>h0 j (by simp only [Value.cells] at hj;omega))
      exact ⟨g,_,hrs,m2,m1⟩
   ·exact (aU k2).elim
 ·exact (aU k2).elim
end
section

def aFw:Value→Bool
 | .slice none 0 0=>true
 | _=>false
theorem aAb{y:Value}(h:aFw y=true):y = .slice none 0 0:=by
 unfold aFw at h
 split at h
 ·rfl
 ·cases h

def pU(m:Mem)(k:Nat)(x:AV):Option (Nat × List PV):=match x with
 | .own id=>(eZ m id).map fun r=>(r.2.1,r.2.2)
 | .arr id off n=>(eZ m id).map fun r=>(n,(r.2.2.drop off).take (n*k))
 | .p (.sl n cs)=>some (n,cs)
 | .p (.v y)=>if aFw y then some (0,[]) else none
 | _=>none

variable {P:Program} {T:TT} {C:Cx} {M:Mem} {w:World}

structure Src (C:Cx) (w:World) (n:Nat) (cs:List PV) (u:Value) (p:Option Addr) (cap:Nat) (us:Nat→Value):Prop where
 eq:u = .slice p n cap
 at_:∀ i,i<cs.length→∃ b o,p=some ⟨b,o,none⟩∧w.cell? ⟨b,o+i,none⟩=some (us i)
 rep:∀ i (h:i<cs.length),cS C.F w cs[i] (us i)
 one:∀ i,i<cs.length→(us i).oneCell'=true

theorem lU(hM:aX P C M w){k n:Nat}{x:AV}{cs:List PV}{u:Value}(h:Rep C M w x u)(hs:pU M k x=some (n,cs))(hl:cs.length=n*k):∃ p cap us,Src C w n cs u p cap us:=by
 cases h with
 | p x u hp =>
  cases hp with
  | v y =>
   simp only [pU] at hs
   obtain ⟨h1,h2⟩:=bX hs;obtain rfl:=aAb h1;cases h2;exact ⟨none,0,fun _=>undef,rfl,fun i h=>by simp at h,fun i h=>by simp at h,fun i h=>by simp at h⟩
  | sl n' Bg p cap us h1 h2 h3 h4 h5 =>
   cases hs;exact ⟨p,cap,us,rfl,fun i hi=>by obtain ⟨b,o,q1,_,q2⟩:=h3 i hi;exact ⟨b,o,q1,q2⟩,h4,h5⟩
  | agg=>cases hs
  | mp=>cases hs
  | rp=>cases hs
  | fn=>cases hs
 | own id u h0 ha hr =>
  simp only [pU,C7] at hs
  obtain ⟨r,G4,Dm⟩:=hs;cases Dm;have hro:=dG G4
  rcases hr _ _ _ hro with ⟨rfl,hn,hz⟩ | ⟨b,rfl,hb⟩
  ·rw [hz,Nat.zero_mul] at hl
   exact ⟨none,0,fun _=>undef,by rw [hz],fun i h=>by omega,fun i h=>by omega,fun i h=>by omega⟩
  ·rcases hM.row _ _ _ _ hro with ⟨hn,_⟩ | ⟨b',arr,inf,Aq,q1,_,q3,q4,q5,_,q7,q8⟩
   ·rw [hb] at hn;cases hn
   ·rw [hb] at Aq;cases Aq
    have hle:r.2.2.length≤arr.size:=by rw [q3,q4];exact Nat.mul_le_mul_right _ q5
    exact ⟨_,_,fun j=>arr.getD j undef,rfl,fun i hi=>⟨b,0,rfl,by rw [iP];exact cW q1 (by omega)⟩,q7,q8⟩
 | arr id off n' u h0 ha hr =>
  simp only [pU,C7] at hs
  obtain ⟨r,G4,Dm⟩:=hs;cases Dm;have hro:=dG G4
  rcases hr _ hro rfl with ⟨rfl,p,cap,rfl,_⟩ | ⟨b,cap,rfl,_,_,hb⟩
  ·exact ⟨p,cap,fun _=>undef,rfl,fun i h=>by simp at h,fun i h=>by simp at h,fun i h=>by simp at h⟩
  ·rcases hM.row _ _ _ _ hro with ⟨hn,_⟩ | ⟨b',arr,inf,Aq,q1,_,q3,q4,q5,_,q7,q8⟩
   ·rw [hb] at hn;cases hn
   ·rw [hb] at Aq;cases Aq
    have hle:r.2.2.length≤arr.size:=by rw [q3,q4];exact Nat.mul_le_mul_right _ q5
    have hlt:∀ i,i<((r.2.2.drop off).take (n*k)).length→off+i<r.2.2.length:=fun i hi=>by simp at hi;omega
    refine ⟨_,_,fun j=>arr.getD (off+j) undef,rfl,fun i hi=>⟨b,off,rfl,cW q1 (by have:=hlt i hi;omega)⟩,fun i hi => ?_,fun i hi=>q8 _ (hlt i hi)⟩
    simp only [List.getElem_take,List.getElem_drop];exact q7 _ (hlt i hi)
 | _=>cases hs

theorem aFx{Bq id b k:Nat}{o o':AO}{w':World}(ho:M[Bq]? = some (some o))(hl:o.live=true)(hb:C.ι Bq=some b)(hf:xW M id)(hw:But w w' b) :
  Fr C M w (C.grow id b k) (aZ (aZ M Bq (some .dead)) id (some o')) w':=by
 have Pr:Bq≠id:=fun e=>hf o (e ▸ ho)
 have hne:∀ (i:Nat) (x:AO),M[i]? = some (some x)→i≠id:=fun i x h e=>hf x (e ▸ h)
 have hfwd:∀ (i:Nat) (x:AO),i≠id→(aZ (aZ M Bq (some .dead)) id (some o'))[i]? = some (some x)→(i=Bq∧x = .dead)∨(i≠Bq∧M[i]? = some (some x)):=by
  intro i x h hm;have h1:=(aP (aZ M Bq (some .dead)) id i _ x (fun e=>h e.symm)).1 hm
  by_cases e:i=Bq
  ·subst e;rw [aY] at h1;cases h1;exact .inl ⟨rfl,rfl⟩
  ·exact .inr ⟨e,(aP M Bq i _ x (fun e'=>e e'.symm)).1 h1⟩
 refine ⟨hw.os,hw.tape,hw.out,by rw [hw.size];exact dD _,fun j hj hn=>hw.heap j (fun e=>hn Bq o ho hl (e ▸ hb)),fun i x h => ?_,fun i x h ty n cs hm => ?_,fun i x h x2 hm Bl => ?_,fun i x j hm An hj => ?_,fun j h=>h,fun j h => .inl h⟩
 ·have h1:=hne i x h
  refine ⟨?_,by simp [Cx.grow,h1],by simp [Cx.grow,h1]⟩
  by_cases e:i=Bq
  ·subst e;exact ⟨.dead,(aP _ id i _ _ (fun e=>h1 e.symm)).2 (aY ..)⟩
  ·exact ⟨x,(aP _ id i _ _ (fun e=>h1 e.symm)).2 ((aP M Bq i _ _ (fun e'=>e e'.symm)).2 h)⟩
 ·rcases hfwd i _ (hne i x h) hm with ⟨_,h2⟩ | ⟨_,h2⟩
  ·cases h2
  ·exact ⟨cs,h2⟩
 ·rcases hfwd i _ (hne i x h) hm with ⟨_,h2⟩ | ⟨_,h2⟩
  ·subst h2;cases Bl
  ·rw [h] at h2;cases h2;exact Bl
 ·by_cases e:i=id
  ·subst e
   simp only [Cx.grow,if_true] at hj
   cases hj;exact .inr ⟨Bq,o,ho,hl,hb⟩
  ·simp only [Cx.grow,e,if_false] at hj
   rcases hfwd i _ e hm with ⟨_,h2⟩ | ⟨_,h2⟩
   ·subst h2;cases An
   ·exact .inr ⟨i,x,h2,An,hj⟩

theorem aJr(hM:aX P C M w){Bq id b k ty n:Nat}{o:AO}{cs:List PV}{w':World}(ho:M[Bq]? = some (some o))(hl:o.live=true)(hb:C.ι Bq=some b)(hf:xW M id)(hw:But w w' b)
  (hrow:∃ arr i,w'.heap[b]? = some (.cells arr ty (0,0))∧P.info? ty=some i∧arr.size=k*i.size∧cs.length=n*i.size∧n≤k∧k≤maxLen∧(∀ j (h:j<cs.length),cS C.F w cs[j] (arr.getD j undef))∧∀ j,j<cs.length→(arr.getD j undef).oneCell'=true) :
  aX P (C.grow id b k) (aZ (aZ M Bq (some .dead)) id (some (.row ty n cs))) w':=by
 have hFr:=aFx (C:=C) (k:=k) (o' := .row ty n cs) ho hl hb hf hw;have hL:=hM.le hFr;have hfwd:∀ (i:Nat) (x:AO),i≠id→x.live=true→(aZ (aZ M Bq (some .dead)) id (some (.row ty n cs)))[i]? = some (some x)→i≠Bq∧M[i]? = some (some x):=by
  intro i x h hlx hm;have h1:=(aP (aZ M Bq (some .dead)) id i _ x (fun e=>h e.symm)).1 hm
  by_cases e:i=Bq
  ·subst e;rw [aY] at h1;cases h1;cases hlx
  ·exact ⟨e,(aP M Bq i _ x (fun e'=>e e'.symm)).1 h1⟩
 have hnew:∀ (x:AO),(aZ (aZ M Bq (some .dead)) id (some (.row ty n cs)))[id]? = some (some x)→x = .row ty n cs:=fun x h=>by rw [aY] at h;cases h;rfl
 have hι:∀ i,i≠id→(C.grow id b k).ι i=C.ι i:=fun i h=>by simp [Cx.grow,h]
 have hκ:∀ i,i≠id→(C.grow id b k).κ i=C.κ i:=fun i h=>by simp [Cx.grow,h]
 have hιs:(C.grow id b k).ι id=some b:=by simp [Cx.grow]
 have hκs:(C.grow id b k).κ id=k:=by simp [Cx.grow]
 have hne:∀ (i:Nat) (x:AO) (j:Nat),i≠Bq→M[i]? = some (some x)→x.live=true→C.ι i=some j→j≠b:=fun i x j h hm An hj e=>h (hM.inj i Bq x o b hm An ho hl (e ▸ hj) hb)
 refine ⟨fun i C6 n' Bg hm => ?_,fun i C6 Bg hm => ?_,fun i es cl hm => ?_,fun i i' o1 o2 j hm An Cq De hj Ca => ?_,fun i x j hm An hj => ?_,fun j hj => ?_,fun i x j hm An hj => ?_,hM.lib.le hL⟩
 ·by_cases e:i=id
  ·subst e
   cases hnew _ hm;obtain ⟨arr,inf,q0,q1,q2,q3,q4,q5,q6,q7⟩:=hrow;exact .inr ⟨b,arr,inf,hιs,q0,q1,by rw [hκs];exact q2,q3,by rw [hκs];exact q4,by rw [hκs];exact q5,fun j hj=>(q6 j hj).mono hL.F hL.fz,q7⟩
  ·obtain ⟨h1,Co⟩:=hfwd i _ e rfl hm
   rw [hι i e,hκ i e]
   rcases hM.row _ _ _ _ Co with h4 | ⟨j,arr,inf,q0,q1,q2,q3,q4,q5,q6,q7,q8⟩
   ·exact .inl h4
   ·exact .inr ⟨j,arr,inf,q0,(hw.heap j (hne i _ j h1 Co rfl q0)).trans q1,q2,q3,q4,q5,q6,fun j hj=>(q7 j hj).mono hL.F hL.fz,q8⟩
 ·by_cases e:i=id
  ·subst e;cases hnew _ hm
  ·obtain ⟨h1,Co⟩:=hfwd i _ e rfl hm
   rw [hι i e];obtain ⟨j,arr,q0,q1,q2,q3,q4⟩:=hM.box _ _ _ Co;exact ⟨j,arr,q0,(hw.heap j (hne i _ j h1 Co rfl q0)).trans q1,q2,fun j hj=>(q3 j hj).mono hL,q4⟩
 ·by_cases e:i=id
  ·subst e;cases hnew _ hm
  ·obtain ⟨h1,Co⟩:=hfwd i _ e rfl hm
   rw [hι i e];obtain ⟨j,arr,q0,q1,q2,q3⟩:=hM.mp _ _ _ Co;refine ⟨j,arr,q0,(hw.heap j (hne i _ j h1 Co rfl q0)).trans q1,q2,fun j hj => ?_⟩
   obtain ⟨en,r1,r2,r3,r4⟩:=q3 j hj;exact ⟨en,r1,r2,r3,r4.mono hL.F hL.fz⟩
 ·by_cases e:i=id
  ·by_cases e':i'=id
   ·rw [e,e']
   ·subst e
    rw [hιs] at hj;cases hj
    obtain ⟨h1,Co⟩:=hfwd i' _ e' De Cq;rw [hι i' e'] at Ca
    exact absurd rfl (hne i' _ b h1 Co De Ca)
  ·obtain ⟨h1,Co⟩:=hfwd i _ e An hm
   rw [hι i e] at hj
   by_cases e':i'=id
   ·subst e'
    rw [hιs] at Ca;cases Ca
    exact absurd rfl (hne i _ b h1 Co An hj)
   ·obtain ⟨h3,Ps⟩:=hfwd i' _ e' De Cq
    rw [hι i' e'] at Ca
    exact hM.inj _ _ _ _ _ Co An Ps De hj Ca
 ·by_cases e:i=id
  ·subst e;rw [hιs] at hj;cases hj;exact hM.nF _ _ _ ho hl hb
  ·rw [hι i e] at hj;exact hM.nF _ _ _ (hfwd i _ e An hm).2 An hj
 ·rw [hw.size];exact hM.Fs j hj
 ·rw [hw.size]
  by_cases e:i=id
  ·subst e;rw [hιs] at hj;cases hj;exact hM.lt _ _ _ ho hl hb
  ·rw [hι i e] at hj;exact hM.lt _ _ _ (hfwd i _ e An hm).2 An hj
end
section
variable {P:Program} {T:TT} {C:Cx} {M:Mem} {w:World}

def vals(n:Nat)(us:Nat→Value):List Value:=(List.range n).map us
theorem dF(n:Nat)(us:Nat→Value):(vals n us).length=n:=by simp [vals]
theorem aRj{n i:Nat}{us:Nat→Value}(h:i<n):(vals n us)[i]? = some (us i):=by simp [vals,h]
theorem aAa{n i:Nat}{us:Nat→Value}{v:Value}(h:(vals n us)[i]? = some v):i<n∧v=us i:=by
 have hi:i<n:=by
  have:=(Ci.1 h).1;simpa [dF] using this
 rw [aRj hi] at h;cases h;exact ⟨hi,rfl⟩
theorem bFf{n:Nat}{us:Nat→Value}{v:Value}(h:v∈vals n us):∃ i,i<n∧v=us i:=by
 simp only [vals,rX,aVx] at h
 obtain ⟨i,hi,rfl⟩:=h;exact ⟨i,hi,rfl⟩

theorem oV(t ty e:TypeId)(i:TypeInfo)(ht:P.underlying t=some (.slice e))(hi:P.info? e=some i)(base:Option Addr)(sLen sCap c:Nat)(hr:sLen≤sCap)(p:Option Addr) :
  (Builtin.append_ #[t,t] ty #[.slice base sLen sCap,.slice p 0 c]).run P w = .ok (.slice base sLen sCap) w:=by
 have hf:(Builtin.firstCells i.size 0 (.slice p 0 c)).run P w = .ok #[] w:=by
  cases p with
  | none=>simp [Builtin.firstCells]
  | some a=>exact run_firstCells_some (P:=P) w i.size 0 a 0 c [] (by simp) (by simp)
 cases base with
 | none=>simp [Builtin.append_,run_underlying ht,sizeOf,typeInfo,hi,Builtin.lenOf,hr,hf]
 | some a=>simp [Builtin.append_,run_underlying ht,sizeOf,typeInfo,hi,Builtin.lenOf,hr,hf,storeCells]

def Cx.nil(C:Cx)(id:Nat):Cx:={ ι:=fun i=>if i=id then none else C.ι i,κ:=C.κ,F:=C.F }

theorem uG{id ty:Nat}(hf:xW M id):Fr C M w (C.nil id) (aZ M id (some (.row ty 0 []))) w:=by
 have hne:∀ (i:Nat) (x:AO),M[i]? = some (some x)→i≠id:=fun i x h e=>hf x (e ▸ h)
 refine ⟨rfl,rfl,rfl,dD _,fun _ _ _=>rfl,fun i x h => ?_,fun i x h ty n cs hm => ?_,fun i x h x2 hm hl => ?_,fun i x b hm hl hb => ?_,fun b h=>h,fun b h => .inl h⟩
 ·have:=hne i x h
  exact ⟨⟨x,(aP M id i _ x (fun e=>this e.symm)).2 h⟩,by simp [Cx.nil,this],rfl⟩
 ·exact ⟨cs,(aP M id i _ _ (fun e=>hne i x h e.symm)).1 hm⟩
 ·have h4:=(aP M id i _ _ (fun e=>hne i x h e.symm)).1 hm
  rw [h] at h4;cases h4;exact hl
 ·by_cases e:i=id
  ·subst e;simp [Cx.nil] at hb
  ·simp only [Cx.nil,e,if_false] at hb
   exact .inr ⟨i,x,(aP M id i _ _ (fun e'=>e e'.symm)).1 hm,hl,hb⟩

theorem uH(hM:aX P C M w){id ty:Nat}(hf:xW M id):aX P (C.nil id) (aZ M id (some (.row ty 0 []))) w:=by
 have hFr:=uG (C:=C) (w:=w) hf (ty:=ty);have hL:=hM.le hFr;have hold:∀ (i:Nat) (x:AO),i≠id→(aZ M id (some (.row ty 0 [])))[i]? = some (some x)→M[i]? = some (some x):=fun i x h=>(aP M id i _ x (fun e=>h e.symm)).1
 have hnew:∀ (x:AO),(aZ M id (some (.row ty 0 [])))[id]? = some (some x)→x = .row ty 0 []:=fun x h=>by rw [aY] at h;cases h;rfl
 have hι:∀ i,i≠id→(C.nil id).ι i=C.ι i:=fun i h=>by simp [Cx.nil,h]
 have hιs:(C.nil id).ι id=none:=by simp [Cx.nil]
 have hκ:∀ i,(C.nil id).κ i=C.κ i:=fun _=>rfl
 refine ⟨fun i C6 n cs hm => ?_,fun i C6 cs hm => ?_,fun i es cl hm => ?_,fun i i' o1 o2 b hm hl Cq De hb Aq => ?_,fun i x b hm hl hb => ?_,fun b hb=>hM.Fs b hb,fun i x b hm hl hb => ?_,hM.lib.le hL⟩
 ·by_cases e:i=id
  ·subst e
   cases hnew _ hm;exact .inl ⟨hιs,rfl,rfl⟩
  ·rw [hι i e,hκ i]
   rcases hM.row _ _ _ _ (hold i _ e hm) with h4 | ⟨b,arr,inf,q0,q1,q2,q3,q4,q5,q6,q7,q8⟩
   ·exact .inl h4
   ·exact .inr ⟨b,arr,inf,q0,q1,q2,q3,q4,q5,q6,fun j hj=>(q7 j hj).mono hL.F hL.fz,q8⟩
 ·by_cases e:i=id
  ·subst e;cases hnew _ hm
  ·rw [hι i e]
   obtain ⟨b,arr,q0,q1,q2,q3,q4⟩:=hM.box _ _ _ (hold i _ e hm);exact ⟨b,arr,q0,q1,q2,fun j hj=>(q3 j hj).mono hL,q4⟩
 ·by_cases e:i=id
  ·subst e;cases hnew _ hm
  ·rw [hι i e]
   obtain ⟨b,arr,q0,q1,q2,q3⟩:=hM.mp _ _ _ (hold i _ e hm);refine ⟨b,arr,q0,q1,q2,fun j hj => ?_⟩
   obtain ⟨en,r1,r2,r3,r4⟩:=q3 j hj;exact ⟨en,r1,r2,r3,r4.mono hL.F hL.fz⟩
 ·have e:i≠id:=fun e=>by subst e;rw [hιs] at hb;cases hb
  have e':i'≠id:=fun e=>by subst e;rw [hιs] at Aq;cases Aq
  rw [hι i e] at hb;rw [hι i' e'] at Aq
  exact hM.inj _ _ _ _ _ (hold i _ e hm) hl (hold i' _ e' Cq) De hb Aq
 ·have e:i≠id:=fun e=>by subst e;rw [hιs] at hb;cases hb
  rw [hι i e] at hb
  exact hM.nF _ _ _ (hold i _ e hm) hl hb
 ·have e:i≠id:=fun e=>by subst e;rw [hιs] at hb;cases hb
  rw [hι i e] at hb
  exact hM.lt _ _ _ (hold i _ e hm) hl hb

theorem yB(hM:aX P C M w){id e k n:Nat}{inf:TypeInfo}(hf:xW M id)(hinf:P.info? e=some inf){cs:List PV}{arr:Array Value}(hs:arr.size=k*inf.size)(hl:cs.length=n*inf.size)(hnk:n≤k)(hk:k≤maxLen)
  (hr:∀ j (h:j<cs.length),cS C.F w cs[j] (arr.getD j undef)) (h1:∀ j,j<cs.length→(arr.getD j undef).oneCell'=true) {w1:World} (hw:w1.heap=w.heap) (ho:w1.os=w.os) (ht:w1.tape=w.tape) (hu:w1.output=w.output) :
  ∃ C' u,u = .slice (some ⟨w.heap.size,0,none⟩) n k∧Fr C M w C' (aZ M id (some (.row e n cs))) (w1.alloc (.cells arr e))∧aX P C' (aZ M id (some (.row e n cs))) (w1.alloc (.cells arr e))∧Rep C' (aZ M id (some (.row e n cs))) (w1.alloc (.cells arr e)) (.own id) u:=by
 have hsz:w1.heap.size=w.heap.size:=by rw [hw]
 have hcell:∀ b o,w1.cell? ⟨b,o,none⟩=w.cell? ⟨b,o,none⟩:=fun b o=>gY (by rw [hw]) o
 have Bp:aX P C M w1:=by
  have hL:Le C C M M w w1:=⟨fun _ o h=>⟨o,h⟩,fun _ _ _ _ _ cs h=>⟨cs,h⟩,fun _ o h o' h' hl=>by rw [h] at h';cases h';exact ⟨hl,rfl,rfl⟩,fun _ h=>h,fun _ _=>by rw [hw]⟩
  refine ⟨fun i C6 n cs hm => ?_,fun i C6 cs hm => ?_,fun i es cl hm => ?_,hM.inj,hM.nF,fun b hb=>by rw [hsz];exact hM.Fs b hb,fun i x b hm hl hb=>by rw [hsz];exact hM.lt i x b hm hl hb,hM.lib.le hL⟩
  ·rcases hM.row _ _ _ _ hm with h4 | ⟨b,arr,inf,q0,q1,q2,q3,q4,q5,q6,q7,q8⟩
   ·exact .inl h4
   ·exact .inr ⟨b,arr,inf,q0,by rw [hw];exact q1,q2,q3,q4,q5,q6,fun j hj=>(q7 j hj).mono hL.F hL.fz,q8⟩
  ·obtain ⟨b,arr,q0,q1,q2,q3,q4⟩:=hM.box _ _ _ hm
   exact ⟨b,arr,q0,by rw [hw];exact q1,q2,fun j hj=>(q3 j hj).mono hL,q4⟩
  ·obtain ⟨b,arr,q0,q1,q2,q3⟩:=hM.mp _ _ _ hm
   refine ⟨b,arr,q0,by rw [hw];exact q1,q2,fun j hj => ?_⟩
   obtain ⟨en,r1,r2,r3,r4⟩:=q3 j hj;exact ⟨en,r1,r2,r3,r4.mono hL.F hL.fz⟩
 have Mu:Fr C M w C M w1:=⟨ho,ht,hu,by omega,fun b _ _=>by rw [hw],fun i x h=>⟨⟨x,h⟩,rfl,rfl⟩,fun _ _ _ _ _ cs h=>⟨cs,h⟩,fun _ o h o' h' hl=>by rw [h] at h';cases h';exact hl,fun i x b h hl hb => .inr ⟨i,x,h,hl,hb⟩,fun _ h=>h,fun _ h => .inl h⟩
 refine ⟨C.grow id w1.heap.size k,_,rfl,Mu.trans (tC hf _ _),oF Bp hf _ _ (fun ty n' Bg h => ?_) (fun _ _ h=>by cases h) (fun _ _ h=>by cases h),?_⟩
 ·cases h
  exact ⟨arr,inf,rfl,hinf,hs,hl,hnk,hk,fun j hj=>(hr j hj).mono (fun _ h=>h) (fun _ _=>by rw [hw]),h1⟩
 ·rw [← hsz]
  exact .own id _ rfl ⟨_,aY ..⟩ (fun ty n' Bg h=>by rw [aY] at h;cases h;exact .inr ⟨w1.heap.size,by simp [Cx.grow],by simp [Cx.grow]⟩)

def sappend(T:TT)(m:Mem)(id t t2:Nat)(x y:AV):Ask (AV × Upd):=do
 let i ← lift (T t)
 let e ← lift (match i.k with | .slice e=>some e | _=>none)
 let j ← lift (T e)
 lift (if t=t2∧fG m id=true∧0<j.size∧j.bytes≤100000∧j.zero.length=j.size then some () else none)
 let sy ← lift (pU m j.size y)
 match x with
 | .own Bq=>do
  let r ← lift (eZ m Bq)
  lift (if r.1=e then some () else none)
  eM (sy.2.length=sy.1*j.size∧r.2.1+sy.1≤1000000)
  pure (.own id,[(Bq,.dead),(id,.row e (r.2.1+sy.1) (r.2.2++sy.2))])
 | .p (.v v)=>do
  lift (if aFw v then some () else none)
  eM (sy.2.length=sy.1*j.size∧sy.1≤1000000)
  pure (.own id,[(id,.row e sy.1 sy.2)])
 | _=>fail

theorem G9{n bytes:Nat}(h:n≤1000000)(hb:bytes≤100000):n*bytes≤100000000000:=iE (Nat.mul_le_mul h hb) (by omega)

theorem fB(a b:Array Value){j:Nat}(h:j<a.size):(a++b).getD j undef=a.getD j undef:=by
 simp only [Bu,Array.getElem?_append_left h]
theorem sD(a b:Array Value){j:Nat}(h:a.size≤j):(a++b).getD j undef=b.getD (j-a.size) undef:=by
 simp only [Bu,Array.getElem?_append_right h]
theorem gW{n j:Nat}{us:Nat→Value}(h:j<n):(vals n us).toArray.getD j undef=us j:=by
 simp only [Bu,List.getElem?_toArray,aRj h,Option.getD_some]

theorem mY(hM:aX P C M w){id t ty e:Nat}{j:TI}(hd:P.underlying t=some (.slice e))(hj:cM P e=some j)(hf:xW M id)(hp:0<j.size)(hb:j.bytes≤100000)(hz:j.zero.length=j.size)
  {n:Nat} {cs:List PV} {v:Value} {p:Option Addr} {cap:Nat} {us:Nat→Value} (hs:Src C w n cs v p cap us) (hl:cs.length=n*j.size) (hn:n≤1000000) :
  Out P C M w (.own id) (aZ M id (some (.row e n cs))) ((Builtin.append_ #[t,t] ty #[.slice none 0 0,v]).run P w):=by
 obtain ⟨inf,d,z,hinf,_,hzz,_,hsz,hby,hzl,_⟩:=eG hj;obtain rfl:=hs.eq
 rcases Nat.eq_zero_or_pos n with rfl | Om
 ·have hcs:cs=[]:=uO (by omega)
  subst hcs;exact ⟨C.nil id,w,_,oV t ty e inf hd hinf none 0 0 cap (dD _) p,uG hf,uH hM hf,.own id _ rfl ⟨_,aY ..⟩ (fun ty n cs h=>by rw [aY] at h;cases h;exact .inl ⟨rfl,by simp [Cx.nil],rfl⟩)⟩
 ·have hcl:0<cs.length:=by rw [hl];exact Nat.mul_pos Om hp
  obtain ⟨b,o,rfl,_⟩:=hs.at_ 0 hcl;have hat:∀ i,i<cs.length→w.cell? ⟨b,o+i,none⟩=some (us i):=fun i hi=>by
   obtain ⟨b',o',h1,h2⟩:=hs.at_ i hi;cases h1;exact h2
  have hzs:z.cells.size=inf.size:=by rw [← Array.length_toList,← hzl,hz,hsz]
  have hg:=grownCap_ge w n 0 e;have Mv:=grownCap_le_maxLen w n 0 e (by simp [maxLen];omega)
  have hrun:=run_append_nil (P:=P) (w:=w) t ty e inf z hd hinf hzz ⟨b,o,none⟩ n cap (vals cs.length us) (by rw [dF,hl,hsz]) (fun i v hv=>by
   obtain ⟨hi,rfl⟩:=aAa hv;rw [Addr.add_lit];exact hat i hi) Om (by omega) (by rw [← hby];exact iE (G9 hn hb) (by omega))
  obtain ⟨C',u,rfl,q1,q2,q3⟩:=yB (id:=id) (e:=e) (k:=grownCap w n 0 e) (n:=n) (cs:=cs) (arr:=(vals cs.length us).toArray++Builtin.zeroCells z.cells (grownCap w n 0 e-n)) hM hf hinf (by
    rw [Array.size_append,size_zeroCells,hzs,List.size_toArray,dF,hl,hsz,← Nat.add_mul,Nat.add_sub_cancel' hg]) (by rw [hl,hsz]) hg Mv
    (fun i hi=>by rw [fB _ _ (by simp [dF];omega),gW hi];exact hs.rep i hi)
    (fun i hi=>by rw [fB _ _ (by simp [dF];omega),gW hi];exact hs.one i hi) (w1:=w.drew) rfl rfl rfl rfl
  exact ⟨C',_,_,hrun,q1,q2,q3⟩

theorem aCg(hT:∀ t i,T t=some i→cM P t=some i)(hM:aX P C M w){id t t2 ty:Nat}{x y a:AV}{u v:Value}{L:Upd}{s s':AS}(hx:Rep C M w x u)(hy:Rep C M w y v)(h:sappend T M id t t2 x y s=some ((a,L),s'))(g:bA s') :
  bA s∧Out P C M w a (upds M L) ((Builtin.append_ #[t,t2] ty #[u,v]).run P w):=by
 unfold sappend at h
 obtain ⟨i,s1,h1,k1⟩:=aC h;obtain ⟨e1,rfl⟩:=aE h1;obtain ⟨e,s2,h2,k2⟩:=aC k1;obtain ⟨e2,rfl⟩:=aE h2;obtain ⟨j,s3,h3,k3⟩:=aC k2;obtain ⟨e3,rfl⟩:=aE h3;obtain ⟨_,s4,h4,k4⟩:=aC k3;obtain ⟨e4,rfl⟩:=aE h4;obtain ⟨sy,s5,h5,k5⟩:=aC k4;obtain ⟨e5,rfl⟩:=aE h5;obtain ⟨⟨rfl,hf,hp,hb,hz⟩,_⟩:=bX e4;clear h k1 k2 k3 k4 h1 h2 h3 h4 h5 e4;have hf:=cV hf;obtain ⟨d,hd,hk⟩:=eC (hT _ _ e1);have hj:=hT _ _ e3;have hd:P.underlying t=some (.slice e):=by
  split at e2
  ·rename_i e' he
   cases e2;rw [he] at hk;rw [mZ hk.symm] at hd;exact hd
  ·cases e2
 split at k5
 ·rename_i Bq
  obtain ⟨r,s6,h6,k6⟩:=aC k5;obtain ⟨e6,rfl⟩:=aE h6;obtain ⟨_,s7,h7,k7⟩:=aC k6;obtain ⟨e7,rfl⟩:=aE h7;obtain ⟨hre,_⟩:=bX e7;obtain ⟨_,s8,h8,k8⟩:=aC k7;obtain ⟨he,rfl⟩:=aH k8;cases he;obtain ⟨⟨hl,hn⟩,g⟩:=dL h8 g;refine ⟨g,?_⟩;obtain ⟨p,cap,us,hs⟩:=lU hM (n:=sy.1) (cs:=sy.2) hy e5 hl;have ho:=dG e6;obtain ⟨rt,rn,rcs⟩:=r;simp only at hre hn ho ⊢
  subst hre;cases hx with
  | own Bq u h0 ha hr =>
  have Bp:=lE hM (id:=Bq) false ho rfl;have Lv:=cU (C:=C) (w:=w) (id:=Bq) false ho rfl;have On:xW (aZ M Bq (some .dead)) id:=fun x hx=>by
   by_cases e:Bq=id
   ·subst e;exact hf _ ho
   ·exact hf x ((aP M Bq id _ x e).1 hx)
  rcases hr _ _ _ ho with ⟨rfl,Hz,E7⟩ | ⟨b,rfl,Cr⟩
  ·subst E7
   have hcs:rcs=[]:=by
    rcases hM.row _ _ _ _ ho with ⟨_,_,hcs⟩ | ⟨b',_,_,Aq,_⟩
    ·exact hcs
    ·rw [Hz] at Aq;cases Aq
   subst hcs;rw [iP,List.nil_append];have Db:Src (C.close Bq false) w sy.1 sy.2 v p cap us:=⟨hs.eq,hs.at_,fun i hi=>(hs.rep i hi).mono (fun _ h => .inl h) (fun _ _=>rfl),hs.one⟩
   obtain ⟨C',w',u',q0,q1,q2,q3⟩:=mY (id:=id) (ty:=ty) Bp hd hj On hp hb hz Db hl (by omega)
   exact ⟨C',w',u',q0,Lv.trans q1,q2,q3⟩
  ·obtain ⟨inf,_,z,hinf,_,hzz,_,hsz,hby,hzl,_⟩:=eG hj
   rcases hM.row _ _ _ _ ho with ⟨Hz,_⟩ | ⟨b',arr,Ke,Aq,q1,q2,q3,q4,q5,q6,q7,q8⟩
   ·rw [Cr] at Hz;cases Hz
   rw [Cr] at Aq;cases Aq
   rw [hinf] at q2;cases q2
   rw [← hsz] at q3 q4
   have hle:rcs.length≤arr.size:=by rw [q3,q4];exact Nat.mul_le_mul_right _ q5
   obtain rfl:=hs.eq
   rcases Nat.eq_zero_or_pos sy.1 with Hv | Hv
   ·have Mw:sy.2=[]:=uO (by rw [hl,Hv];simp)
    rw [Hv,Mw,Nat.add_zero,List.append_nil];have hbut:But w w b:=⟨rfl,rfl,rfl,rfl,fun _ _=>rfl⟩
    refine ⟨C.grow id b (C.κ Bq),w,_,oV t ty _ inf hd hinf (some ⟨b,0,none⟩) rn (C.κ Bq) cap q5 p,aFx ho rfl Cr hf hbut,aJr hM ho rfl Cr hf hbut ⟨arr,inf,q1,hinf,by rw [q3,hsz],by rw [q4,hsz],q5,q6,q7,q8⟩,?_⟩
    exact .own id _ rfl ⟨_,aY ..⟩ (fun C6 n' Bg h=>by simp only [upds] at h;rw [aY] at h;cases h;exact .inr ⟨b,by simp [Cx.grow],by simp [Cx.grow]⟩)
   ·have hcl:0<sy.2.length:=by rw [hl];exact Nat.mul_pos Hv hp
    obtain ⟨b2,o2,rfl,_⟩:=hs.at_ 0 hcl;have hat:∀ i,i<sy.2.length→w.cell? ⟨b2,o2+i,none⟩=some (us i):=fun i hi=>by
     obtain ⟨b',o',h1,h2⟩:=hs.at_ i hi;cases h1;exact h2
    have hnews:∀ i v,(vals sy.2.length us)[i]? = some v→w.cell? ((⟨b2,o2,none⟩:Addr).add i)=some v:=fun i v hv=>by
     obtain ⟨hi,rfl⟩:=aAa hv;rw [Addr.add_lit];exact hat i hi
    have hlen:(rcs++sy.2).length=(rn+sy.1)*j.size:=by rw [Bv,q4,hl,Nat.add_mul]
    by_cases hroom:rn+sy.1≤C.κ Bq
    ·have hfit:rn*j.size+sy.2.length≤arr.size:=by rw [hl,← Nat.add_mul,q3];exact Nat.mul_le_mul_right _ hroom
     have hrun:=run_append_room (P:=P) w t ty _ inf hd hinf b rn (C.κ Bq) arr q1 ⟨b2,o2,none⟩ sy.1 cap (vals sy.2.length us) (by rw [dF,hl,hsz]) hnews (fun v hv=>by
      obtain ⟨i,hi,rfl⟩:=bFf hv;exact hs.one i hi) hroom (by rw [dF,← hsz];exact hfit)
     rw [← hsz] at hrun
     have hva:(vals sy.2.length us).toArray.size=sy.2.length:=by simp [dF]
     obtain ⟨p1,p2⟩:=spliced arr (vals sy.2.length us).toArray (rn*j.size) (by rw [hva];exact hfit)
     simp only at p1 p2
     refine ⟨C.grow id b (C.κ Bq),_,_,hrun,aFx ho rfl Cr hf (jE _ _ _),aJr hM ho rfl Cr hf (jE _ _ _) ⟨_,inf,setRow_heap w b arr _ _ _ q1,hinf,by rw [p1,q3,hsz],by rw [hlen,hsz],hroom,q6,fun i hi => ?_,fun i hi => ?_⟩,?_⟩
     ·rw [p2 i (by rw [hlen,Nat.add_mul,← hl] at hi;omega),hva]
      by_cases c:i<rcs.length
      ·rw [if_pos (by omega),xX c];exact q7 i c
      ·rw [if_neg (by omega),if_pos (by simp at hi;omega),aJz (by omega)]
       have Dy:i-rcs.length<sy.2.length:=by simp at hi;omega
       rw [← q4,gW Dy];exact hs.rep _ Dy
     ·rw [p2 i (by rw [hlen,Nat.add_mul,← hl] at hi;omega),hva]
      by_cases c:i<rcs.length
      ·rw [if_pos (by omega)];exact q8 i c
      ·rw [if_neg (by omega),if_pos (by simp at hi;omega)]
       have Dy:i-rcs.length<sy.2.length:=by simp at hi;omega
       rw [← q4,gW Dy];exact hs.one _ Dy
     ·exact .own id _ rfl ⟨_,aY ..⟩ (fun C6 n' Bg h=>by simp only [upds] at h;rw [aY] at h;cases h;exact .inr ⟨b,by simp [Cx.grow],by simp [Cx.grow]⟩)
    ·have hzs:z.cells.size=inf.size:=by rw [← Array.length_toList,← hzl,hz,hsz]
     have hg:=grownCap_ge w (rn+sy.1) (C.κ Bq) rt;have Mv:=grownCap_le_maxLen w (rn+sy.1) (C.κ Bq) rt (by simp [maxLen];omega)
     have holds:∀ i v,(vals rcs.length fun i=>arr.getD i undef)[i]? = some v→w.cell? ((⟨b,0,none⟩:Addr).add i)=some v:=fun i v hv=>by
      obtain ⟨hi,rfl⟩:=aAa hv;rw [Addr.add_lit,iP];exact cW q1 (by omega)
     have hrun:=run_append_grow (P:=P) (w:=w) t ty rt inf z hd hinf hzz ⟨b,0,none⟩ rn (C.κ Bq) (vals rcs.length fun i=>arr.getD i undef) (by rw [dF,q4,hsz]) holds ⟨b2,o2,none⟩ sy.1 cap (vals sy.2.length us) (by rw [dF,hl,hsz]) hnews (by omega) (by omega)
      (growslice_fits (by omega) (by rw [← hby];exact iE (G9 hn hb) (by omega)))
     obtain ⟨C',u',rfl,r1,r2,r3⟩:=yB (id:=id) (e:=rt) (k:=grownCap w (rn+sy.1) (C.κ Bq) rt) (n:=rn+sy.1) (cs:=rcs++sy.2)
      (arr:=(vals rcs.length fun i=>arr.getD i undef).toArray++(vals sy.2.length us).toArray++Builtin.zeroCells z.cells (grownCap w (rn+sy.1) (C.κ Bq) rt-(rn+sy.1))) Bp On hinf (by
       rw [Array.size_append,Array.size_append,size_zeroCells,hzs,List.size_toArray,List.size_toArray,dF,dF,q4,hl,hsz,← Nat.add_mul,← Nat.add_mul,Nat.add_sub_cancel' hg]) (by rw [hlen,hsz]) hg Mv
       (fun i hi=>by
        rw [fB _ _ (by simp [dF] at hi ⊢;omega)]
        by_cases c:i<rcs.length
        ·rw [fB _ _ (by simp [dF];omega),gW c,xX c]
         exact (q7 i c).mono (fun _ h => .inl h) (fun _ _=>rfl)
        ·have Dy:i-rcs.length<sy.2.length:=by simp at hi;omega
         rw [sD _ _ (by simp [dF];omega),List.size_toArray,dF,gW Dy,aJz (by omega)]
         exact (hs.rep _ Dy).mono (fun _ h => .inl h) (fun _ _=>rfl))
       (fun i hi=>by
        rw [fB _ _ (by simp [dF] at hi ⊢;omega)]
        by_cases c:i<rcs.length
        ·rw [fB _ _ (by simp [dF];omega),gW c]
         exact q8 i c
        ·have Dy:i-rcs.length<sy.2.length:=by simp at hi;omega
         rw [sD _ _ (by simp [dF];omega),List.size_toArray,dF,gW Dy]
         exact hs.one _ Dy) (w1:=w.drew) rfl rfl rfl rfl
     exact ⟨C',_,_,hrun,Lv.trans r1,r2,r3⟩
 ·rename_i v0
  obtain ⟨_,s7,h7,k7⟩:=aC k5;obtain ⟨e7,rfl⟩:=aE h7;obtain ⟨hnil,_⟩:=bX e7;obtain ⟨_,s8,h8,k8⟩:=aC k7;obtain ⟨he,rfl⟩:=aH k8;cases he;obtain ⟨⟨hl,hn⟩,g⟩:=dL h8 g;refine ⟨g,?_⟩;obtain ⟨p,cap,us,hs⟩:=lU hM (n:=sy.1) (cs:=sy.2) hy e5 hl;cases hx with
  | p _ _ hx=>cases hx;obtain rfl:=aAb hnil;exact mY hM hd hj hf hp hb hz hs hl hn
 ·exact (aU k5).elim
end
section
variable {P:Program} {T:TT} {C:Cx} {M:Mem} {w:World}

def lD(T:TT)(t:Nat):Option (Nat × TI):=match T t with
 | some i=>match i.k with
  | .slice e=>(T e).map fun j=>(e,j)
  | _=>none
 | none=>none
theorem jD(hT:∀ t i,T t=some i→cM P t=some i){t:Nat}{ej:Nat × TI}(h:lD T t=some ej):P.underlying t=some (.slice ej.1)∧cM P ej.1=some ej.2:=by
 unfold lD at h
 split at h
 ·rename_i i hi
  split at h
  ·rename_i e he
   rw [C7] at h
   obtain ⟨j,hj,rfl⟩:=h;obtain ⟨d,hd,hk⟩:=eC (hT _ _ hi);rw [he] at hk;rw [mZ hk.symm] at hd
   exact ⟨hd,hT _ _ hj⟩
  ·cases h
 ·cases h

def oE(zs:List Value)(n:Nat):List PV:=match zs with
 | [z]=>List.replicate n (.v z)
 | zs=>(List.replicate n (zs.map PV.v)).flatten

theorem zY(zs:List Value):∀ n,oE zs n=(List.replicate n (zs.map PV.v)).flatten:=by
 intro n;unfold oE
 split
 ·rename_i z
  induction n with
  | zero=>rfl
  | succ n ih=>rw [List.replicate_succ,List.replicate_succ,vW,ih];rfl
 ·rfl
theorem aNn{zs:List Value}:∀ {n j:Nat},j<n*zs.length→∃ h:j<(oE zs n).length,(oE zs n)[j] = .v (zs.getD (j % zs.length) undef):=by
 intro n;rw [zY]
 induction n with
 | zero=>intro j hj;simp at hj
 | succ n ih =>
  intro j hj;rw [List.replicate_succ,vW]
  by_cases hlt:j<zs.length
  ·refine ⟨by simp;omega,?_⟩
   rw [xX (by simpa using hlt),gL,Nat.mod_eq_of_lt hlt]
   simp [uP,Bw hlt]
  ·rw [Nat.succ_mul] at hj
   obtain ⟨h,e⟩:=ih (j:=j-zs.length) (by omega)
   refine ⟨by rw [Bv,kI];omega,?_⟩
   rw [aJz (by simp;omega)]
   simp only [kI];rw [e]
   congr 2
   conv=>rhs;rw [show j=(j-zs.length)+zs.length by omega,Nat.add_mod_right]
theorem lT(zs:List Value)(n:Nat):(oE zs n).length=n*zs.length:=by
 rw [zY];simp [List.length_flatten,List.map_replicate,List.sum_replicate_nat]

def smake(T:TT)(m:Mem)(id t:Nat)(l c:AV):Ask (AV × Upd):=do
 let ej ← lift (lD T t)
 let l ← lift (toI l)
 let c ← lift (toI c)
 lift (if fG m id=true∧ej.2.zero.length=ej.2.size∧ej.2.zero.all (·.oneCell')=true∧0<ej.2.size∧ej.2.bytes≤100000 then some () else none)
 eM (0≤l.2∧l.2≤c.2∧c.2≤1000000)
 pure (.own id,[(id,.row ej.1 l.2.toNat (oE ej.2.zero l.2.toNat))])

theorem aJq(hT:∀ t i,T t=some i→cM P t=some i)(hM:aX P C M w){id t:Nat}{l c a:AV}{u v:Value}{L:Upd}{s s':AS}(hl:Rep C M w l u)(hc:Rep C M w c v)(h:smake T M id t l c s=some ((a,L),s'))(g:bA s') :
  bA s∧Out P C M w a (upds M L) ((Instr.makeSlice t u v).run P w):=by
 unfold smake at h
 obtain ⟨ej,s1,h1,k1⟩:=aC h;obtain ⟨e1,rfl⟩:=aE h1;obtain ⟨li,s2,h2,k2⟩:=aC k1;obtain ⟨e2,rfl⟩:=aE h2;obtain ⟨ci,s3,h3,k3⟩:=aC k2;obtain ⟨e3,rfl⟩:=aE h3;obtain ⟨_,s5,h5,k5⟩:=aC k3;obtain ⟨e5,rfl⟩:=aE h5;obtain ⟨_,s6,h6,k6⟩:=aC k5;obtain ⟨he,rfl⟩:=aH k6;cases he;obtain ⟨⟨c1,c2,c3⟩,g⟩:=dL h6 g;obtain ⟨⟨hf,hs,E7,hp,hb⟩,_⟩:=bX e5;obtain ⟨hd,hj⟩:=jD hT e1;obtain ⟨inf,_,z',hinf,_,hzz,_,hsz,hby,hzl,_⟩:=eG hj;obtain rfl:=oJ (k:=li.1) (n:=li.2) hl e2;obtain rfl:=oJ (k:=ci.1) (n:=ci.2) hc e3;rw [iD] at E7
 have hzcs:z'.cells.size=inf.size:=by rw [← Array.length_toList,← hzl,hs,hsz]
 have hcn:(ci.2.toNat:Int)=ci.2:=by omega
 have hrun:=run_make (P:=P) w t ej.1 inf z' hd hinf hzz li.1 ci.1 li.2 ci.2 c1 c2 (by
  rw [← hby,← hcn,← Int.natCast_mul];have:=G9 (n:=ci.2.toNat) (bytes:=ej.2.bytes) (by omega) hb
  rw [Nat.mul_comm] at this
  omega) (by omega)
 have hln:li.2.toNat≤ci.2.toNat:=by omega
 have hmd:∀ j,j<li.2.toNat*ej.2.zero.length→(madeCells z'.cells (ci.2.toNat*inf.size)).getD j undef=ej.2.zero.getD (j % ej.2.zero.length) undef∧(ej.2.zero.getD (j % ej.2.zero.length) undef).oneCell'=true:=fun j hj=>by
  have Co:j % ej.2.zero.length<ej.2.zero.length:=Nat.mod_lt _ (by omega)
  have hm:j % z'.cells.size<z'.cells.size:=Nat.mod_lt _ (by omega)
  have he:ej.2.zero.getD (j % ej.2.zero.length) undef=ej.2.zero[j % ej.2.zero.length]:=by simp [uP,Bw Co]
  refine ⟨?_,by rw [he];exact E7 _ (iC Co)⟩
  rw [he];have Ca:j<ci.2.toNat*inf.size:=by
   rw [hs,hsz] at hj
   exact uQ hj (Nat.mul_le_mul_right _ hln)
  simp only [madeCells,Bu,Array.getElem?_map,Array.getElem?_range,Ca,if_true,Option.map_some,Option.getD_some];rw [getElem!_pos z'.cells (j % z'.cells.size) hm];simp only [hzl,Array.length_toList,Array.getElem_toList]
 obtain ⟨C',u',rfl,q1,q2,q3⟩:=yB (id:=id) (e:=ej.1) (k:=ci.2.toNat) (n:=li.2.toNat) (cs:=oE ej.2.zero li.2.toNat) (arr:=madeCells z'.cells (ci.2.toNat*inf.size)) hM (cV hf) hinf (size_madeCells _ _)
  (by rw [lT,hs,hsz]) (by omega) (by simp [maxLen];omega)
  (fun i hi=>by
   obtain ⟨_,e⟩:=aNn (zs:=ej.2.zero) (n:=li.2.toNat) (j:=i) (by rwa [lT] at hi)
   rw [e,(hmd i (by rwa [lT] at hi)).1];exact .v _)
  (fun i hi=>by
   obtain ⟨h1,h2⟩:=hmd i (by rwa [lT] at hi)
   rw [h1];exact h2) (w1:=w) rfl rfl rfl rfl
 exact ⟨g,C',_,_,hrun,q1,q2,q3⟩

def zZ(z:List Value)(i:Nat):AV := .p (.v (z.getD (i % z.length) undef))

def sbuild(T:TT)(m:Mem)(id t len:Nat)(parts:List (Nat × AV)):Ask (AV × Upd):=do
 let ej ← lift (lD T t)
 lift (if fG m id=true∧ej.2.zero.length=ej.2.size∧ej.2.zero.all (·.oneCell')=true∧len*ej.2.size≤100000∧0<ej.2.size then some () else none)
 match len,parts with
 | 1,[(0,.p (.agg xs))]=>do
  eM (xs.length=ej.2.size)
  pure (.own id,[(id,.row ej.1 1 xs)])
 | len,parts=>do
  let cs ← lift (aAd (fun i=>some (i*ej.2.size,ej.2.size)) ((List.range (len*ej.2.size)).map (zZ ej.2.zero)) parts)
  let xs ← lift (pvs cs)
  pure (.own id,[(id,.row ej.1 len xs)])

theorem cG(l:List Value)(j:Nat):l.toArray.getD j undef=l.getD j undef:=by
 simp [Bu,uP]

theorem aNo(t e:TypeId)(ie:TypeInfo)(len:Nat)(parts:Array (Nat × Value))(cells:Array Value)(z:Value)(hu:P.underlying t=some (.slice e))(hie:P.info? e=some ie)(hz:ie.zero=some z)(hsmall:¬ len*ie.size > 2 ^ 24)
  (h:Instr.fill (fun i=>some (i*ie.size,ie.size)) ((Array.range (len*ie.size)).map (z.cells[· % z.cells.size]!)) parts.toList=some cells) :
  (Instr.buildSlice t len parts).run P w = .ok (.slice (some ⟨w.heap.size,0,none⟩) len len) (w.alloc (.cells cells e)):=by
 by_cases hpos:len*ie.size=0
 ·rw [hpos] at h
  simp [Array.range_zero'] at h
  simp [Instr.buildSlice,run_underlying hu,sizeOf,typeInfo,hie,hpos,h,newRow,Array.range_zero']
 ·exact run_buildSlice w t e len parts cells ie z hu hie hz hsmall hpos h

theorem aDl{pl:Nat→Option (Nat × Nat)}:∀ {l:List (Nat × AV)} {cs Bg:List AV},aAd pl cs l=some Bg→Bg.length=cs.length
 | [],cs,Bg,h=>by cases h;rfl
 | (i,v)::l,cs,Bg,h=>by
  unfold aAd at h
  split at h
  ·split at h
   ·split at h
    ·rename_i hc
     rw [aDl h];simp;omega
    ·cases h
   ·cases h
  ·cases h

theorem aFv(hT:∀ t i,T t=some i→cM P t=some i)(hM:aX P C M w){id t len:Nat}{l:List (Nat × AV)}{k:Array (Nat × Value)}{a:AV}{L:Upd}{s s':AS}(hr:eF C M w l k.toList)(h:sbuild T M id t len l s=some ((a,L),s'))(g:bA s') :
  bA s∧Out P C M w a (upds M L) ((Instr.buildSlice t len k).run P w):=by
 unfold sbuild at h
 obtain ⟨ej,s1,h1,k1⟩:=aC h;obtain ⟨e1,rfl⟩:=aE h1;obtain ⟨_,s5,h5,k5⟩:=aC k1;obtain ⟨e5,rfl⟩:=aE h5;obtain ⟨⟨hf,hzs,E7,hlen,hp⟩,_⟩:=bX e5;obtain ⟨hd,hj⟩:=jD hT e1;obtain ⟨inf,_,z,hinf,_,hzz,_,hsz,hby,hzl,_⟩:=eG hj;clear h h1 k1 h5 e5;have hzcs:z.cells.size=inf.size:=by rw [← Array.length_toList,← hzl,hzs,hsz]
 rw [iD] at E7
 have hcell:∀ i,i<len*ej.2.size→((Array.range (len*inf.size)).map (z.cells[· % z.cells.size]!)).getD i undef=ej.2.zero.getD (i % ej.2.zero.length) undef∧(ej.2.zero.getD (i % ej.2.zero.length) undef).oneCell'=true:=fun i hi=>by
  have hm:i % z.cells.size<z.cells.size:=Nat.mod_lt _ (by omega)
  have Co:i % ej.2.zero.length<ej.2.zero.length:=Nat.mod_lt _ (by omega)
  have he:ej.2.zero.getD (i % ej.2.zero.length) undef=ej.2.zero[i % ej.2.zero.length]:=by simp [uP,Bw Co]
  refine ⟨?_,by rw [he];exact E7 _ (iC Co)⟩
  rw [he];have C8:i<len*inf.size:=by rw [← hsz];exact hi
  have h1:((Array.range (len*inf.size)).map (z.cells[· % z.cells.size]!)).getD i undef=z.cells[i % z.cells.size]! := by
   simp only [Bu,Array.getElem?_map,Array.getElem?_range,C8,if_true,Option.map_some,Option.getD_some]
  rw [h1,getElem!_pos z.cells (i % z.cells.size) hm];simp only [hzl,Array.length_toList,Array.getElem_toList]
 have finish:∀ (cells:Array Value) (xs:List PV),Instr.fill (fun i=>some (i*inf.size,inf.size)) ((Array.range (len*inf.size)).map (z.cells[· % z.cells.size]!)) k.toList=some cells→cells.size=len*inf.size→xs.length=len*inf.size →
   (∀ j (h:j<xs.length),cS C.F w xs[j] (cells.getD j undef))→(∀ j,j<xs.length→(cells.getD j undef).oneCell'=true)→Out P C M w (.own id) (aZ M id (some (.row ej.1 len xs))) ((Instr.buildSlice t len k).run P w):=by
  intro cells xs hfill hc hx q1 q2;have hb:=aNo (P:=P) (w:=w) t ej.1 inf len k cells z hd hinf hzz (by rw [← hsz];omega) hfill
  have:len≤len*ej.2.size:=Nat.le_mul_of_pos_right _ hp;obtain ⟨C',u',rfl,r1,r2,r3⟩:=yB (id:=id) (e:=ej.1) (k:=len) (n:=len) (cs:=xs) (arr:=cells) hM (cV hf) hinf hc hx (dD _) (by simp [maxLen];omega) q1 q2 (w1:=w) rfl rfl rfl rfl
  exact ⟨C',_,_,hb,r1,r2,r3⟩
 split at k5
 ·rename_i xs
  obtain ⟨_,s6,h6,k6⟩:=aC k5;obtain ⟨he,rfl⟩:=aH k6;cases he;obtain ⟨hl,g⟩:=dL h6 g;refine ⟨g,?_⟩;generalize hkl:k.toList=kl at hr
  cases hr with
  | cons _ _ u _ kk hv Dm =>
   cases Dm;cases hv with
   | p _ _ hv =>
    cases hv with
    | agg _ vs h0 h1 h2 =>
     have hz:((Array.range (1*inf.size)).map (z.cells[· % z.cells.size]!)).size=inf.size:=by simp
     obtain ⟨q1,q2⟩:=aAe 0 vs.toList 0 ((Array.range (1*inf.size)).map (z.cells[· % z.cells.size]!)) (by rw [hz];simp;omega)
     rw [← uL] at q1 q2
     have q3:∀ j,j<xs.length→((vs.zipIdx.foldl (fun cs (x:Value × Nat)=>cs.setIfInBounds (0+x.2) x.1) ((Array.range (1*inf.size)).map (z.cells[· % z.cells.size]!))).getD j undef)=vs.getD j undef:=fun j hj=>by
      rw [Bu,q2,if_pos ⟨by omega,by simp;omega⟩,Bu];simp
     refine finish _ xs ?_ (q1.trans hz |>.trans (Nat.one_mul _).symm) (by omega) (fun j hj=>by rw [q3 j hj];exact h2 j hj) (fun j hj=>by rw [q3 j hj];exact h0 j hj)
     rw [hkl];unfold Instr.fill;simp only [Nat.zero_mul];rw [if_neg]
     ·rfl
     ·rw [hz]
      simp only [Value.cells];simp;refine ⟨decide_eq_false (by omega),by omega⟩
 ·obtain ⟨cs,s6,h6,k6⟩:=aC k5
  obtain ⟨e6,rfl⟩:=aE h6;obtain ⟨xs,s7,h7,k7⟩:=aC k6;obtain ⟨e7,rfl⟩:=aE h7;obtain ⟨he,rfl⟩:=aH k7;cases he;refine ⟨g,?_⟩;have hlz:((List.range (len*ej.2.size)).map (zZ ej.2.zero)).length=len*ej.2.size:=by simp
  obtain ⟨us,q0,q1,q2,q3⟩:=tD (us:=(Array.range (len*inf.size)).map (z.cells[· % z.cells.size]!)) hr (by rw [hlz,hsz];simp) (fun i hi=>by
   rw [hlz] at hi
   rw [(hcell i hi).1];simp only [gL,List.getElem_range,zZ];exact .p _ _ (.v _)) (fun i hi=>by
   rw [hlz] at hi
   rw [(hcell i hi).1];exact (hcell i hi).2) e6
  rw [hsz] at q0
  obtain ⟨q4,q5⟩:=yD (C:=C) (M:=M) (w:=w) cs xs e7;have hcl:=aDl e6;rw [hlz,hsz] at hcl
  exact finish us xs q0 (by omega) (by omega) (fun j hj=>q5 j (by omega) hj _ (q2 j (by omega))) (fun j hj=>q3 j (by omega))
end
section
variable {P:Program} {T:TT} {C:Cx} {M:Mem} {w:World}

def aJl(m:Mem)(k:TK)(a b:AV):Option Bool :=
 match k,b with
 | .slice _,.p (.v (.slice none 0 0))=>match a with
  | .p (.v (.slice none 0 0))=>some true
  | .p (.sl _ (_::_))=>some false
  | .own id=>match eZ m id with
   | some (_,_+1,_)=>some false
   | _=>none
  | _=>none
 | .ptr _,.p (.v (.pointer none))=>match a with
  | .p (.v (.pointer none))=>some true
  | .ptr id _=>if dX m id then some false else none
  | .rp _ _=>some false
  | _=>none
 | .func,.p (.v .nilFunc)=>match a with
  | .p (.v .nilFunc)=>some true
  | .fn _ _ _=>some false
  | .yld _=>some false
  | _=>none
 | _,_=>none

def pT(T:TT)(m:Mem)(op:BinOp)(t:Nat)(a b:AV):Ask AV:=do
 let i ← lift (T t)
 let q ← lift (aJl m i.k a b)
 match op with
 | .eql=>pure (.kb q)
 | .neq=>pure (.kb (!q))
 | _=>fail

theorem oB{t e:Nat}(hu:P.underlying t=some (.slice e))(p:Option Addr)(n c:Nat):(Op.equal t (.slice p n c) (.slice none 0 0)).run P w = .ok p.isNone w:=by
 have h:∀ d,(Op.equalIn (d+1) t (.slice p n c) (.slice none 0 0)).run P w = .ok p.isNone w:=fun d=>by
  unfold Op.equalIn;cases p <;> simp [run_underlying hu]
 exact h 9999
theorem mE{t e:Nat}(hu:P.underlying t=some (.pointer e))(p:Option Addr):(Op.equal t (.pointer p) (.pointer none)).run P w = .ok p.isNone w:=by
 have h:∀ d,(Op.equalIn (d+1) t (.pointer p) (.pointer none)).run P w = .ok p.isNone w:=fun d=>by
  unfold Op.equalIn;cases p <;> simp [run_underlying hu]
 exact h 9999
theorem oC{t:Nat}{a b c}(hu:P.underlying t=some (.func a b c))(f:Fn)(x y:Array Value):(Op.equal t (.func f x y) .nilFunc).run P w = .ok false w∧(Op.equal t .nilFunc .nilFunc).run P w = .ok true w:=by
 have h:∀ d,(Op.equalIn (d+1) t (.func f x y) .nilFunc).run P w = .ok false w∧(Op.equalIn (d+1) t .nilFunc .nilFunc).run P w = .ok true w:=fun d=>by
  unfold Op.equalIn;simp [run_underlying hu]
 exact h 9999

theorem aNi(hT:∀ t i,T t=some i→cM P t=some i){t:Nat}{i:TI}{a b:AV}{u v:Value}{q:Bool}(hi:T t=some i)(ha:Rep C M w a u)(hb:Rep C M w b v)(h:aJl M i.k a b=some q) :
  (Op.equal t u v).run P w = .ok q w∧(∀ cs,u ≠ .agg cs)∧u ≠ .nilIface∧∀ op,Go.binOp op t u v=(match op with | .eql=>(do pure (.bool (← Op.equal t u v))) | .neq=>(do pure (.bool (!(← Op.equal t u v)))) | op=>Go.binOp op t u v):=by
 obtain ⟨d,hd,hk⟩:=eC (hT _ _ hi);unfold aJl at h
 split at h
 ·rename_i e he
  rw [he] at hk
  have hd:=mZ hk.symm ▸ hd;cases hb with | p _ _ hb=>cases hb with | v _ =>
  split at h
  ·cases h
   cases ha with | p _ _ ha=>cases ha with | v _ =>
   exact ⟨oB hd _ _ _,nofun,nofun,fun op=>by cases op <;> rfl⟩
  ·cases h
   cases ha with | p _ _ ha=>cases ha with | sl n cs p cap us h1 h2 h3 h4 h5 =>
   obtain ⟨b,o,rfl,_⟩:=h3 0 (by simp)
   exact ⟨oB hd _ _ _,nofun,nofun,fun op=>by cases op <;> rfl⟩
  ·split at h
   ·cases h
    rename_i id _ _ hr;cases ha with | own _ u h0 ha hrow =>
    rcases hrow _ _ _ (dG hr) with ⟨_,_,hz⟩ | ⟨b,rfl,_⟩
    ·cases hz
    ·exact ⟨oB hd _ _ _,nofun,nofun,fun op=>by cases op <;> rfl⟩
   ·cases h
  ·cases h
 ·rename_i e he
  rw [he] at hk
  have hd:=bSw hk.symm ▸ hd;cases hb with | p _ _ hb=>cases hb with | v _ =>
  split at h
  ·cases h
   cases ha with | p _ _ ha=>cases ha with | v _ =>
   exact ⟨mE hd _,nofun,nofun,fun op=>by cases op <;> rfl⟩
  ·obtain ⟨hl,rfl⟩:=bX h
   obtain ⟨b,rfl,_⟩:=fM ha hl;exact ⟨mE hd _,nofun,nofun,fun op=>by cases op <;> rfl⟩
  ·cases h
   cases ha with | rp cs off b o us h1 h2 h3 =>
   exact ⟨mE hd _,nofun,nofun,fun op=>by cases op <;> rfl⟩
  ·cases h
 ·rename_i he
  rw [he] at hk
  obtain ⟨x,y,z,rfl⟩:∃ x y z,d = .func x y z:=by cases d <;> simp [jR] at hk;exact ⟨_,_,_,rfl⟩
  cases hb with | p _ _ hb=>cases hb with | v _ =>
  split at h
  ·cases h
   cases ha with | p _ _ ha=>cases ha with | v _ =>
   exact ⟨(oC hd (.yield 0) #[] #[]).2,nofun,nofun,fun op=>by cases op <;> rfl⟩
  ·cases h
   cases ha with | fn f cs ds us vs h1 h2 h3 h4 =>
   exact ⟨(oC hd _ _ _).1,nofun,nofun,fun op=>by cases op <;> rfl⟩
  ·cases h
   cases ha with | yld l =>
   exact ⟨(oC hd _ _ _).1,nofun,nofun,fun op=>by cases op <;> rfl⟩
  ·cases h
 ·cases h

theorem aFu(hT:∀ t i,T t=some i→cM P t=some i){op:BinOp}{t:Nat}{a b x:AV}{u v:Value}{s s':AS}(ha:Rep C M w a u)(hb:Rep C M w b v)(h:pT T M op t a b s=some (x,s'))(g:bA s') :
  bA s∧∃ r,(Go.binOp op t u v).run P w = .ok r w∧Rep C M w x r∧(∀ cs,u ≠ .agg cs)∧u ≠ .nilIface:=by
 unfold pT at h
 obtain ⟨i,s1,h1,k1⟩:=aC h;obtain ⟨e1,rfl⟩:=aE h1;obtain ⟨q,s2,h2,k2⟩:=aC k1;obtain ⟨e2,rfl⟩:=aE h2;obtain ⟨h3,h4,h5,h6⟩:=aNi hT e1 ha hb e2;rw [h6 op]
 split at k2
 ·obtain ⟨rfl,rfl⟩:=aH k2
  exact ⟨g,_,by rw [Sem.run_bind,h3,Result.andThen_ok,Sem.run_pure],.kb _,h4,h5⟩
 ·obtain ⟨rfl,rfl⟩:=aH k2
  exact ⟨g,_,by rw [Sem.run_bind,h3,Result.andThen_ok,Sem.run_pure],.kb _,h4,h5⟩
 ·exact (aU k2).elim

def bFb(xs:List PV)(i:Nat):Option Int:=match xs[i]? with
 | some (.v (.int .i64 n))=>some n
 | _=>none
def aNj(xs ys:List PV):List (Nat × Nat × Bool)→Bool
 | []=>true
 | f::r=>bFb xs f.1 == bFb ys f.1 && aNj xs ys r
def oD(xs:List PV)(fs:List (Nat × Nat × Bool)):Bool:=fs.all fun f=>(bFb xs f.1).isSome
def aDi(T:TT)(t:Nat):Bool:=match T t with
 | some i=>match i.k with
  | .int .i64=>true
  | _=>false
 | none=>false

def aDj(xs:List PV)(i:Nat):Option Value:=match xs[i]? with
 | some (.v x)=>some x
 | _=>none
def aRh(T:TT)(t:Nat):Bool:=match T t with
 | some i=>match i.k with
  | .str=>true
  | _=>false
 | none=>false
def aNk(T:TT)(t:Nat):Option Value→Option Value→Option Bool
 | some (.int .i64 a),some (.int .i64 b)=>match aDi T t with
  | true=>some (decide (a=b))
  | false=>none
 | some (.string a),some (.string b)=>match aRh T t with
  | true=>some (decide (a.data.toList=b.data.toList))
  | false=>none
 | _,_=>none
def bLv(T:TT)(xs ys:List PV):List (Nat × Nat × Bool)→Option Bool
 | []=>some true
 | f::r=>match f.2.2,aNk T f.2.1 (aDj xs f.1) (aDj ys f.1),bLv T xs ys r with
  | true,some a,some b=>some (a && b)
  | _,_,_=>none

def bFc(T:TT)(op:BinOp)(t:Nat)(a b:AV):Ask AV:=do
 let i ← lift (T t)
 let fs ← lift (match i.k with | .struct fs=>some fs | _=>none)
 lift (if i.plain=true∧(fs.all fun f=>f.2.2 && aDi T f.2.1)=true then some () else none)
 match a,b with
 | .p (.agg xs),.p (.agg ys)=>do
  eM (oD xs fs=true∧oD ys fs=true)
  match op with
  | .eql=>pure (.p (.v (.bool (aNj xs ys fs))))
  | .neq=>pure (.p (.v (.bool (!(aNj xs ys fs)))))
  | _=>fail
 | _,_=>fail

def bFd(T:TT)(t:Nat):Bool:=match T t with
 | some i=>match i.k with
  | .struct fs=>fs.any fun f=>aRh T f.2.1
  | _=>false
 | none=>false
def bFe(T:TT)(op:BinOp)(t:Nat)(a b:AV):Ask AV:=do
 let i ← lift (T t)
 let fs ← lift (match i.k with | .struct fs=>some fs | _=>none)
 lift (if i.plain=true then some () else none)
 match a,b with
 | .p (.agg xs),.p (.agg ys)=>do
  let q ← lift (bLv T xs ys fs)
  match op with
  | .eql=>pure (.p (.v (.bool q)))
  | .neq=>pure (.p (.v (.bool (!q))))
  | _=>fail
 | _,_=>fail
def veq(T:TT)(op:BinOp)(t:Nat)(a b:AV):Ask AV:=match bFd T t with
 | false=>bFc T op t a b
 | true=>bFe T op t a b

theorem bSv{F:Nat→Prop}{x u:Value}(h:cS F w (.v x) u):u=x:=by cases h;rfl

theorem aRi{F:Nat→Prop}{xs:List PV}{vs:Array Value}{i:Nat}(hs:vs.size=xs.length)(hr:∀ i (h:i<xs.length),cS F w xs[i] (vs.getD i undef)){n:Int}(h:bFb xs i=some n):vs[i]? = some (.int .i64 n):=by
 unfold bFb at h
 split at h
 ·rename_i he
  cases h;obtain ⟨hi,hx⟩:=Ci.1 he;have:=hr i hi;rw [hx] at this
  have hv:vs.getD i undef = .int .i64 n:=bSv this;rw [Bu,rU (by omega)] at hv
  rw [rU (by omega)]
  exact congrArg some hv
 ·cases h

theorem vQ(hT:∀ t i,T t=some i→cM P t=some i){t:Nat}(h:aDi T t=true):P.underlying t=some (.int .i64)∧∀ w,(isAgg t).run P w = .ok false w:=by
 unfold aDi at h
 split at h
 ·rename_i i hi
  split at h
  ·rename_i hk
   obtain ⟨d,hd,Cv⟩:=eC (hT _ _ hi);rw [hk] at Cv
   rw [aGf Cv.symm] at hd
   refine ⟨hd,fun w => ?_⟩
   rw [nB (hT _ _ hi)];unfold TI.agg;rw [hk]
  ·cases h
 ·cases h

theorem zX(hT:∀ t i,T t=some i→cM P t=some i){e off:Nat}{vs:Array Value}{n:Int}(h:aDi T e=true)(hv:vs[off]? = some (.int .i64 n)):(part e vs off).run P w = .ok (.int .i64 n) w:=by
 unfold part;rw [Sem.run_bind,(vQ hT h).2,Result.andThen_ok];simp [hv]

theorem aJm(hT:∀ t i,T t=some i→cM P t=some i)(d:Nat){F:Nat→Prop}{xs ys:List PV}{us vs:Array Value}(hs:us.size=xs.length)(hr:∀ i (h:i<xs.length),cS F w xs[i] (us.getD i undef))(Df:vs.size=ys.length)(Dm:∀ i (h:i<ys.length),cS F w ys[i] (vs.getD i undef)) :
  ∀ (fl : List Field), ((fl.map fun f => (f.offset, f.type, f.name != "_")).all fun f => f.2.2 && aDi T f.2.1) = true → oD xs (fl.map fun f => (f.offset, f.type, f.name != "_")) = true → oD ys (fl.map fun f => (f.offset, f.type, f.name != "_")) = true →
   (Op.eqFields (d + 1) us vs fl).run P w = .ok (aNj xs ys (fl.map fun f => (f.offset, f.type, f.name != "_"))) w
 | [],_,_,_=>by simp [Op.eqFields,aNj]
 | f::fl,h,h1,h2=>by
  simp only [gS,List.all_cons,B4,oD] at h h1 h2
  obtain ⟨⟨hn,hi⟩,h⟩:=h;obtain ⟨Pp,h1⟩:=h1;obtain ⟨Pq,h2⟩:=h2;obtain ⟨n,Hz⟩:=Option.isSome_iff_exists.1 Pp;obtain ⟨k,Ol⟩:=Option.isSome_iff_exists.1 Pq;have ih:=aJm hT d hs hr Df Dm fl h (by unfold oD;exact h1) (by unfold oD;exact h2)
  have Gw : f.name ≠ "_" := by simpa using hn
  have e1:=zX (w:=w) hT hi (aRi hs hr Hz);have e2:=zX (w:=w) hT hi (aRi Df Dm Ol);have e3:(Op.equalIn (d+1) f.type (.int .i64 n) (.int .i64 k)).run P w = .ok (n == k) w:=by
   unfold Op.equalIn;simp [run_underlying (vQ hT hi).1]
  simp only [Op.eqFields,if_pos Gw,Sem.run_bind,e1,e2,e3,Result.andThen_ok,gS,aNj,Hz,Ol]
  by_cases hnk:n=k
  ·subst hnk
   simp only [beq_self_eq_true,Bool.not_true,Bool.false_eq_true,if_false,aVy];exact ih
  ·have hb:(n == k)=false:=by simpa using hnk
   have Gv:((some n:Option Int) == some k)=false:=by simpa using hnk
   rw [hb,Gv];simp

theorem aNl(hT:∀ t i,T t=some i→cM P t=some i){op:BinOp}{t:Nat}{a b x:AV}{u v:Value}{o1 o2:Operand}{s s':AS}(ha:Rep C M w a u)(hb:Rep C M w b v)(h:bFc T op t a b s=some (x,s'))(g:bA s') :
  bA s∧(eqGuard op t o1 o2 u v).run P w = .ok () w∧∃ r,(Go.binOp op t u v).run P w = .ok r w∧Rep C M w x r:=by
 unfold bFc at h
 obtain ⟨i,s1,h1,k1⟩:=aC h;obtain ⟨e1,rfl⟩:=aE h1;obtain ⟨fs,s2,h2,k2⟩:=aC k1;obtain ⟨e2,rfl⟩:=aE h2;obtain ⟨_,s3,h3,k3⟩:=aC k2;obtain ⟨e3,rfl⟩:=aE h3;obtain ⟨⟨hp,hfs⟩,_⟩:=bX e3;have hi:=hT _ _ e1;have hk:=oH e2;obtain ⟨inf,d,z,_,hd,_,Cv,_,_,_,hpl⟩:=eG hi;rw [hk] at Cv
 obtain ⟨aS,rfl,rfl⟩:=nA Cv.symm;rw [hpl] at hp
 simp only [B4,Bool.not_eq_true'] at hp
 split at k3
 ·rename_i xs ys
  obtain ⟨_,s4,h4,k4⟩:=aC k3;cases ha with | p _ _ ha=>cases ha with | agg _ us q0 q1 q2 =>
  cases hb with | p _ _ hb=>cases hb with | agg _ vs r0 r1 r2 =>
  have hgu:(eqGuard op t o1 o2 (.agg us) (.agg vs)).run P w = .ok () w:=run_eqGuard_agg w op t o1 o2 us vs hp.1;have hfo:P.underlying t=some (.struct (P.fieldsOf t)):=by rw [hd];unfold Program.fieldsOf;rw [hd]
  have hfe:P.fieldsOf t=aS:=by unfold Program.fieldsOf;rw [hd]
  have key : oD xs (aS.toList.map fun f => (f.offset, f.type, f.name != "_")) = true → oD ys (aS.toList.map fun f => (f.offset, f.type, f.name != "_")) = true →
    (Op.equalIn 10000 t (.agg us) (.agg vs)).run P w = .ok (aNj xs ys (aS.toList.map fun f => (f.offset, f.type, f.name != "_"))) w := fun h1 h2 => by
   have:=run_equalIn_agg (P:=P) w 9999 t us vs hfo hp.2;rw [hfe] at this
   exact this.trans (aJm hT 9998 q1 q2 r1 r2 aS.toList hfs h1 h2)
  split at k4
  ·obtain ⟨rfl,rfl⟩:=aH k4
   obtain ⟨⟨h5,h6⟩,g⟩:=dL h4 g;exact ⟨g,hgu,_,by rw [run_eql_struct,key h5 h6];rfl,.p _ _ (.v _)⟩
  ·obtain ⟨rfl,rfl⟩:=aH k4
   obtain ⟨⟨h5,h6⟩,g⟩:=dL h4 g;exact ⟨g,hgu,_,by rw [run_neq_struct,key h5 h6];rfl,.p _ _ (.v _)⟩
  ·exact (aU k4).elim
 ·exact (aU k3).elim

theorem aJn{F:Nat→Prop}{xs:List PV}{vs:Array Value}{i:Nat}(hs:vs.size=xs.length)(hr:∀ i (h:i<xs.length),cS F w xs[i] (vs.getD i undef)){x:Value}(h:aDj xs i=some x):vs[i]? = some x:=by
 unfold aDj at h
 split at h
 ·rename_i he
  cases h;obtain ⟨hi,hx⟩:=Ci.1 he;have:=hr i hi;rw [hx] at this
  have hv:vs.getD i undef=x:=bSv this;rw [Bu,rU (by omega)] at hv
  rw [rU (by omega)]
  exact congrArg some hv
 ·cases h
theorem aDk(hT:∀ t i,T t=some i→cM P t=some i){t:Nat}(h:aRh T t=true):P.underlying t=some .string∧∀ w,(isAgg t).run P w = .ok false w:=by
 unfold aRh at h
 split at h
 ·rename_i i hi
  split at h
  ·rename_i hk
   obtain ⟨d,hd,Cv⟩:=eC (hT _ _ hi);rw [hk] at Cv
   rw [aAi Cv.symm] at hd
   refine ⟨hd,fun w => ?_⟩
   rw [nB (hT _ _ hi)];unfold TI.agg;rw [hk]
  ·cases h
 ·cases h
theorem aJo(hT:∀ t i,T t=some i→cM P t=some i)(d:Nat){t:Nat}{x y:Value}{q:Bool}(h:aNk T t (some x) (some y)=some q) :
  (Op.equalIn (d+1) t x y).run P w = .ok q w∧∀ {vs:Array Value} {o:Nat},vs[o]? = some x→(part t vs o).run P w = .ok x w:=by
 unfold aNk at h
 split at h
 ·rename_i e1 e2
  cases e1;cases e2
  split at h
  ·rename_i ht
   cases h;refine ⟨?_,fun hv=>zX hT ht hv⟩
   rw [run_equalIn_int w d t _ _ _ _ (vQ hT ht).1];rename_i a b;exact congrArg (fun q=>Result.ok q w) (by rw [Bool.eq_iff_iff,beq_iff_eq,decide_eq_true_iff])
  ·cases h
 ·rename_i e1 e2
  cases e1;cases e2
  split at h
  ·rename_i ht
   cases h;refine ⟨?_,fun hv => ?_⟩
   ·rw [run_equalIn_string w d t _ _ (aDk hT ht).1]
    exact congrArg (fun q=>Result.ok q w) (by rw [Lib.toList_data,Lib.toList_data,Bool.eq_iff_iff,beq_iff_eq,decide_eq_true_iff])
   ·unfold part
    rw [Sem.run_bind,(aDk hT ht).2,Result.andThen_ok];simp [hv]
  ·cases h
 ·cases h
theorem aJp(hT:∀ t i,T t=some i→cM P t=some i)(d:Nat){F:Nat→Prop}{xs ys:List PV}{us vs:Array Value}(hs:us.size=xs.length)(hr:∀ i (h:i<xs.length),cS F w xs[i] (us.getD i undef))(Df:vs.size=ys.length)(Dm:∀ i (h:i<ys.length),cS F w ys[i] (vs.getD i undef)) :
  ∀ (fl : List Field) {q : Bool}, bLv T xs ys (fl.map fun f => (f.offset, f.type, f.name != "_")) = some q → (Op.eqFields (d + 1) us vs fl).run P w = .ok q w
 | [],q,h=>by cases h;simp [Op.eqFields]
 | f::fl,q,h=>by
  simp only [gS,bLv] at h
  split at h
  ·rename_i a b hn h1 h2
   cases h;have ih:=aJp hT d hs hr Df Dm fl h2;have Gw : f.name ≠ "_" := by simpa using hn
   cases hx:aDj xs f.offset with
   | none=>rw [hx] at h1;simp [aNk] at h1
   | some x =>
    cases hy:aDj ys f.offset with
    | none =>
     rw [hx,hy] at h1
     unfold aNk at h1
     split at h1
     ·rename_i e;cases e
     ·rename_i e;cases e
     ·cases h1
    | some y =>
     rw [hx,hy] at h1
     obtain ⟨e3,e1⟩:=aJo (w:=w) hT d h1;have e1:=e1 (aJn hs hr hx);have G5:aNk T f.type (some y) (some x)=some a:=by
      unfold aNk at h1 ⊢
      split at h1
      ·rename_i q1 q2;cases q1;cases q2
       split at h1
       ·rename_i ht;cases h1;exact congrArg some (by rw [Bool.eq_iff_iff,decide_eq_true_iff,decide_eq_true_iff];exact eq_comm)
       ·cases h1
      ·rename_i q1 q2;cases q1;cases q2
       split at h1
       ·rename_i ht;cases h1;exact congrArg some (by rw [Bool.eq_iff_iff,decide_eq_true_iff,decide_eq_true_iff];exact eq_comm)
       ·cases h1
      ·cases h1
     have e2:=(aJo (w:=w) hT d G5).2 (aJn Df Dm hy);simp only [Op.eqFields,if_pos Gw,Sem.run_bind,e1,e2,e3,Result.andThen_ok];cases a with
     | true =>
      simp only [Bool.not_true,Bool.false_eq_true,if_false,aVy];exact ih
     | false=>simp
  ·cases h
theorem aNm(hT:∀ t i,T t=some i→cM P t=some i){op:BinOp}{t:Nat}{a b x:AV}{u v:Value}{o1 o2:Operand}{s s':AS}(ha:Rep C M w a u)(hb:Rep C M w b v)(h:bFe T op t a b s=some (x,s'))(g:bA s') :
  bA s∧(eqGuard op t o1 o2 u v).run P w = .ok () w∧∃ r,(Go.binOp op t u v).run P w = .ok r w∧Rep C M w x r:=by
 unfold bFe at h
 obtain ⟨i,s1,h1,k1⟩:=aC h;obtain ⟨e1,rfl⟩:=aE h1;obtain ⟨fs,s2,h2,k2⟩:=aC k1;obtain ⟨e2,rfl⟩:=aE h2;obtain ⟨_,s3,h3,k3⟩:=aC k2;obtain ⟨e3,rfl⟩:=aE h3;obtain ⟨hp,_⟩:=bX e3;have hi:=hT _ _ e1;have hk:=oH e2;obtain ⟨inf,d,z,_,hd,_,Cv,_,_,_,hpl⟩:=eG hi;rw [hk] at Cv
 obtain ⟨aS,rfl,rfl⟩:=nA Cv.symm;rw [hpl] at hp
 simp only [B4,Bool.not_eq_true'] at hp
 split at k3
 ·rename_i xs ys
  obtain ⟨q,s4,h4,k4⟩:=aC k3;obtain ⟨e4,rfl⟩:=aE h4;cases ha with | p _ _ ha=>cases ha with | agg _ us q0 q1 q2 =>
  cases hb with | p _ _ hb=>cases hb with | agg _ vs r0 r1 r2 =>
  have hgu:(eqGuard op t o1 o2 (.agg us) (.agg vs)).run P w = .ok () w:=run_eqGuard_agg w op t o1 o2 us vs hp.1;have hfo:P.underlying t=some (.struct (P.fieldsOf t)):=by rw [hd];unfold Program.fieldsOf;rw [hd]
  have hfe:P.fieldsOf t=aS:=by unfold Program.fieldsOf;rw [hd]
  have key:(Op.equalIn 10000 t (.agg us) (.agg vs)).run P w = .ok q w:=by
   have:=run_equalIn_agg (P:=P) w 9999 t us vs hfo hp.2;rw [hfe] at this
   exact this.trans (aJp hT 9998 q1 q2 r1 r2 aS.toList e4)
  split at k4
  ·obtain ⟨rfl,rfl⟩:=aH k4
   exact ⟨g,hgu,_,by rw [run_eql_struct,key];rfl,.p _ _ (.v _)⟩
  ·obtain ⟨rfl,rfl⟩:=aH k4
   exact ⟨g,hgu,_,by rw [run_neq_struct,key];rfl,.p _ _ (.v _)⟩
  ·exact (aU k4).elim
 ·exact (aU k3).elim
theorem aVm(hT:∀ t i,T t=some i→cM P t=some i){op:BinOp}{t:Nat}{a b x:AV}{u v:Value}{o1 o2:Operand}{s s':AS}(ha:Rep C M w a u)(hb:Rep C M w b v)(h:veq T op t a b s=some (x,s'))(g:bA s') :
  bA s∧(eqGuard op t o1 o2 u v).run P w = .ok () w∧∃ r,(Go.binOp op t u v).run P w = .ok r w∧Rep C M w x r:=by
 unfold veq at h
 generalize bFd T t=q at h
 cases q with
 | false=>exact aNl hT ha hb h g
 | true=>exact aNm hT ha hb h g
end
section
variable {P:Program} {T:TT} {C:Cx} {M:Mem} {w:World}

def sY(m:Mem):AV→Option (PV × Upd)
 | .p x=>some (x,[])
 | .kb b=>some (.v (.bool b),[])
 | .own id=>match eZ m id with
  | some r=>some (.sl r.2.1 r.2.2,[(id,.dead)])
  | none=>none
 | _=>none
def sZ(m:Mem):List AV→Option (List PV × Upd)
 | []=>some ([],[])
 | x::r=>match sY m x with
  | some (y,L)=>match sZ (upds m L) r with
   | some (ys,L')=>some (y::ys,L++L')
   | none=>none
  | none=>none
def nY(m:Mem):AV→Option (PV × Upd)
 | .agg cs=>match sZ m cs with
  | some (ys,L)=>some (.agg ys,L)
  | none=>none
 | x=>sY m x

theorem pR:∀ (L L':Upd) (m:Mem),upds m (L++L')=upds (upds m L) L'
 | [],_,_=>rfl
 | (_,_)::L,L',_=>pR L L' _

theorem uC(hM:aX P C M w){x:AV}{u:Value}{y:PV}{L:Upd}(h:Rep C M w x u)(hc:sY M x=some (y,L)):∃ C',Fr C M w C' (upds M L) w∧aX P C' (upds M L) w∧cS C'.F w y u:=by
 unfold sY at hc
 split at hc
 ·cases hc
  cases h with | p _ _ h=>exact ⟨C,Fr.refl ..,hM,h⟩
 ·cases hc
  cases h;exact ⟨C,Fr.refl ..,hM,.v _⟩
 ·split at hc
  ·rename_i id _ r hr
   cases hc;have ho:=dG hr;exact ⟨C.close id true,cU true ho rfl,lE hM true ho rfl,tB hM ho h⟩
  ·cases hc
 ·cases hc

theorem uD:∀ {l:List AV} {us:Nat→Value} {C:Cx} {M:Mem} {ys:List PV} {L:Upd},aX P C M w→(∀ i (h:i<l.length),Rep C M w l[i] (us i))→sZ M l=some (ys,L) →
  ∃ C',Fr C M w C' (upds M L) w∧aX P C' (upds M L) w∧ys.length=l.length∧∀ i (h:i<ys.length),cS C'.F w ys[i] (us i)
 | [],us,C,M,ys,L,hM,h,hc=>by cases hc;exact ⟨C,Fr.refl ..,hM,rfl,fun i h=>by simp at h⟩
 | x::r,us,C,M,ys,L,hM,h,hc=>by
  unfold sZ at hc
  split at hc
  ·rename_i y L1 h1
   split at hc
   ·rename_i Po L2 h2
    cases hc;obtain ⟨C1,f1,m1,r1⟩:=uC hM (h 0 (by simp)) h1
    obtain ⟨C2,f2,m2,hl,r2⟩:=uD (us:=fun i=>us (i+1)) m1 (fun i hi=>(h (i+1) (by simpa using hi)).mono (hM.le f1)) h2
    rw [pR];refine ⟨C2,f1.trans f2,m2,by simp [hl],fun i hi => ?_⟩
    cases i with
    | zero=>exact r1.mono (m1.le f2).F (m1.le f2).fz
    | succ i=>exact r2 i (by simpa using hi)
   ·cases hc
  ·cases hc

theorem uE(hM:aX P C M w){x:AV}{u:Value}{y:PV}{L:Upd}(h:Rep C M w x u)(hc:nY M x=some (y,L)):∃ C',Fr C M w C' (upds M L) w∧aX P C' (upds M L) w∧cS C'.F w y u:=by
 unfold nY at hc
 split at hc
 ·rename_i cs
  split at hc
  ·rename_i ys L' h1
   cases hc;cases h with
   | agg _ vs h0 hs hr =>
    obtain ⟨C',f,m,hl,r⟩:=uD (us:=fun i=>vs.getD i undef) hM hr h1
    exact ⟨C',f,m,.agg _ _ (fun i hi=>h0 i (by omega)) (by omega) r⟩
  ·cases hc
 ·exact uC hM h hc

def tA(m:Mem):List (Nat × AV)→Option (List (Nat × AV) × Upd)
 | []=>some ([],[])
 | (i,x)::r=>match nY m x with
  | some (y,L)=>match tA (upds m L) r with
   | some (ys,L')=>some ((i,.p y)::ys,L++L')
   | none=>none
  | none=>none

theorem eF.le{C':Cx}{M':Mem}{w':World}(hL:Le C C' M M' w w'):∀ {l:List (Nat × AV)} {k:List (Nat × Value)},eF C M w l k→eF C' M' w' l k
 | _,_,.nil => .nil
 | _,_,.cons i v u l k h hr => .cons i v u l k (h.mono hL) (eF.le hL hr)

theorem uF:∀ {l:List (Nat × AV)} {k:List (Nat × Value)} {C:Cx} {M:Mem} {ys:List (Nat × AV)} {L:Upd},aX P C M w→eF C M w l k→tA M l=some (ys,L) →
  ∃ C',Fr C M w C' (upds M L) w∧aX P C' (upds M L) w∧eF C' (upds M L) w ys k
 | _,_,C,M,ys,L,hM,.nil,hc=>by cases hc;exact ⟨C,Fr.refl ..,hM,.nil⟩
 | _,_,C,M,ys,L,hM,.cons i v u l k h hr,hc=>by
  unfold tA at hc
  split at hc
  ·rename_i y L1 h1
   split at hc
   ·rename_i Po L2 h2
    cases hc;obtain ⟨C1,f1,m1,r1⟩:=uE hM h h1;obtain ⟨C2,f2,m2,r2⟩:=uF m1 (hr.le (hM.le f1)) h2;rw [pR];exact ⟨C2,f1.trans f2,m2,.cons _ _ _ _ _ (.p _ _ (r1.mono (m1.le f2).F (m1.le f2).fz)) r2⟩
   ·cases hc
  ·cases hc

theorem Out.of_fr{C1:Cx}{M1 M2:Mem}{x:AV}{r:Result Value}(f:Fr C M w C1 M1 w)(h:Out P C1 M1 w x M2 r):Out P C M w x M2 r:=by
 obtain ⟨C',w',u,h1,h2,h3,h4⟩:=h;exact ⟨C',w',u,h1,f.trans h2,h3,h4⟩

def nZ(T:TT)(m:Mem)(id t len:Nat)(parts:List (Nat × AV)):Ask (AV × Upd):=do
 let q ← lift (tA m parts)
 let r ← sbuild T (upds m q.2) id t len q.1
 pure (r.1,q.2++r.2)

theorem aCc(hT:∀ t i,T t=some i→cM P t=some i)(hM:aX P C M w){id t len:Nat}{l:List (Nat × AV)}{k:Array (Nat × Value)}{a:AV}{L:Upd}{s s':AS}(hr:eF C M w l k.toList)(h:nZ T M id t len l s=some ((a,L),s'))(g:bA s') :
  bA s∧Out P C M w a (upds M L) ((Instr.buildSlice t len k).run P w):=by
 unfold nZ at h
 obtain ⟨q,s1,h1,k1⟩:=aC h;obtain ⟨e1,rfl⟩:=aE h1;obtain ⟨r,s2,h2,k2⟩:=aC k1;obtain ⟨he,rfl⟩:=aH k2;cases he;obtain ⟨C1,f1,m1,r1⟩:=uF hM hr (ys:=q.1) (L:=q.2) e1;obtain ⟨g,ho⟩:=aFv hT m1 r1 (a:=r.1) (L:=r.2) h2 g;rw [pR];exact ⟨g,ho.of_fr f1⟩

def lR(T:TT)(m:Mem)(t:Nat)(a x:AV):Ask Upd:=do
 match a with
 | .ptr id _=>do
  let o ← lift (bU m id)
  match o with
  | .row _ _ _=>do
   let q ← lift (nY m x)
   let L ← sstore T (upds m q.2) t a (.p q.1)
   pure (q.2++L)
  | _=>sstore T m t a x
 | _=>fail

theorem aCd(hT:∀ t i,T t=some i→cM P t=some i)(hM:aX P C M w){t:Nat}{a x:AV}{u v:Value}{L:Upd}{s s':AS}(ha:Rep C M w a u)(hx:Rep C M w x v)(h:lR T M t a x s=some (L,s'))(g:bA s') :
  bA s∧∃ C' w',(Instr.storeAt t u v).run P w = .ok () w'∧Fr C M w C' (upds M L) w'∧aX P C' (upds M L) w':=by
 unfold lR at h
 split at h
 ·rename_i id off
  obtain ⟨o,s1,h1,k1⟩:=aC h;obtain ⟨e1,rfl⟩:=aE h1
  split at k1
  ·obtain ⟨q,s2,h2,k2⟩:=aC k1
   obtain ⟨e2,rfl⟩:=aE h2;obtain ⟨L',s3,h3,k3⟩:=aC k2;obtain ⟨he,rfl⟩:=aH k3;cases he;obtain ⟨C1,f1,m1,r1⟩:=uE hM hx (y:=q.1) (L:=q.2) e2;obtain ⟨g,w',q1,q2,q3⟩:=uJ hT m1 (ha.mono (hM.le f1)) (.p _ _ r1) h3 g;rw [pR];exact ⟨g,C1,w',q1,f1.trans q2,q3⟩
  ·obtain ⟨g,w',q1,q2,q3⟩:=uJ hT hM ha hx k1 g
   exact ⟨g,C,w',q1,q2,q3⟩
 ·exact (aU h).elim

theorem oA:∀ (M:Mem) (i:Nat) (x:Option AO),M[i]? = some x→aZ M i x=M
 | [],i,x,h=>by simp at h
 | y::l,0,x,h=>by simp at h;subst h;rfl
 | y::l,i+1,x,h=>by
  simp only [aZ];rw [oA l i x (by simpa using h)]

def B5(T:TT)(m:Mem)(t:Nat)(x:AV):Ask (AV × Upd):=do
 let ej ← lift (lD T t)
 let z ← lift (match ej.2.zero with | [z]=>some z | _=>none)
 lift (if z.oneCell' then some () else none)
 match x with
 | .arr id off n=>do
  lift (if dX m id then some () else none)
  let r ← lift (eZ m id)
  eM (off+n≤r.2.2.length)
  pure (.any,[(id,.row r.1 r.2.1 (r.2.2.take off++List.replicate n (.v z)++r.2.2.drop (off+(List.replicate n (PV.v z)).length)))])
 | _=>fail

theorem aCe(hT:∀ t i,T t=some i→cM P t=some i)(hM:aX P C M w){t ty:Nat}{x a:AV}{u:Value}{L:Upd}{s s':AS}(hx:Rep C M w x u)(h:B5 T M t x s=some ((a,L),s'))(g:bA s') :
  bA s∧Out P C M w a (upds M L) ((Builtin.clear_ #[t] ty #[u]).run P w):=by
 unfold B5 at h
 obtain ⟨ej,s1,h1,k1⟩:=aC h;obtain ⟨e1,rfl⟩:=aE h1;obtain ⟨z,s2,h2,k2⟩:=aC k1;obtain ⟨e2,rfl⟩:=aE h2;obtain ⟨_,s3,h3,k3⟩:=aC k2;obtain ⟨e3,rfl⟩:=aE h3;obtain ⟨E7,_⟩:=bX e3;obtain ⟨hd,hj⟩:=jD hT e1
 split at k3
 ·rename_i id off n
  obtain ⟨_,s4,h4,k4⟩:=aC k3;obtain ⟨e4,rfl⟩:=aE h4;obtain ⟨hl,_⟩:=bX e4;obtain ⟨o,ho,hol⟩:=dJ hl;cases hx with
  | arr _ _ _ u h0 ha hr =>
  obtain ⟨r,s5,h5,k5⟩:=aC k4;obtain ⟨e5,rfl⟩:=aE h5;obtain ⟨_,s6,h6,k6⟩:=aC k5;obtain ⟨he,rfl⟩:=aH k6;cases he;obtain ⟨hle,g⟩:=dL h6 g;have hro:=dG e5;cases n with
  | zero =>
   have hself:upds M [(id,.row r.1 r.2.1 (r.2.2.take off++List.replicate 0 (PV.v z)++r.2.2.drop (off+(List.replicate 0 (PV.v z)).length)))]=M:=by
    simp only [upds,List.replicate_zero,List.append_nil,List.length_nil,Nat.add_zero,aVt];exact oA M id _ hro
   rw [hself];have hu:∃ p cap,u = .slice p 0 cap:=by
    rcases hr o ho hol with ⟨_,p,cap,hu,_⟩ | ⟨b,cap,hu,_⟩
    ·exact ⟨p,cap,hu⟩
    ·exact ⟨_,cap,hu⟩
   obtain ⟨p,cap,rfl⟩:=hu;have hrun:(Builtin.clear_ #[t] ty #[.slice p 0 cap]).run P w = .ok (.tuple #[]) w:=by
    cases p <;> simp [Builtin.clear_,run_underlying hd]
   exact ⟨g,C,w,_,hrun,Fr.refl ..,hM,.any _⟩
  | succ n =>
   rcases hr _ hro rfl with ⟨hz,_⟩ | ⟨b,cap,rfl,_,_,hb⟩
   ·cases hz
   rcases hM.row _ _ _ _ hro with ⟨hn,_⟩ | ⟨b',cur,inf,Aq,q1,_,q3,q4,q5,_,_⟩
   ·rw [hb] at hn;cases hn
   rw [hb] at Aq;cases Aq
   obtain ⟨Ke,_,z',hinf,_,hzz,_,hsz,_,hzl,_⟩:=eG hj;have hz:ej.2.zero=[z]:=by
    split at e2
    ·cases e2;assumption
    ·cases e2
   have hzc:z'.cells = #[z]:=by
    apply Array.toList_inj.1;rw [← hzl,hz]
   have hlc:r.2.2.length≤cur.size:=by rw [q3,q4];exact Nat.mul_le_mul_right _ q5
   obtain ⟨m1,m2⟩:=uI (off:=off) (xs:=List.replicate (n+1) (.v z)) (vs:=(List.replicate (n+1) z).toArray) hM hro hb q1 (by simp) (by simpa using hle) (fun j hj=>by
     simp at hj
     rw [List.getElem_replicate,cG];simp [uP,hj];exact .v _) (fun j hj=>by
     simp at hj
     rw [cG];simp [uP,hj];exact E7)
   have hst:=run_storeCells_at P b off r.1 (List.replicate (n+1) z) 0 cur w q1 (by simp;omega) (fun v hv=>by rw [List.eq_of_mem_replicate hv];exact E7)
   have hzcs:(Builtin.zeroCells z'.cells (n+1)).toList=List.replicate (n+1) z:=by
    rw [hzc];simp [Builtin.zeroCells];apply List.ext_getElem
    ·simp
    ·intro i h1 h2
     simp [Nat.mod_one]
   have hzv:(zeroValue ej.1).run P w = .ok z' w:=by simp [zeroValue,typeInfo,hinf,hzz,program,Sem.run]
   have hrun:(Builtin.clear_ #[t] ty #[.slice (some ⟨b,off,none⟩) (n+1) cap]).run P w = .ok (.tuple #[]) (w.setRow b (cur.toList.take off++(List.replicate (n+1) z).toArray.toList++cur.toList.drop (off+(List.replicate (n+1) z).toArray.toList.length)).toArray):=by
    simp only [Nat.add_zero] at hst
    simp [Builtin.clear_,run_underlying hd,hzv,hzcs,hst]
   exact ⟨g,C,_,_,hrun,m2,m1,.any _⟩
 ·exact (aU k3).elim
theorem zU{α:Type}(f:Nat→α)(k:Nat):∀ N:Nat,(List.range (N*k)).map (fun i=>f (i % k))=(List.replicate N ((List.range k).map f)).flatten
 | 0=>by simp
 | N+1=>by
  rw [Nat.succ_mul,Nat.add_comm,List.range_add,rW,aAk,List.replicate_succ,vW,← zU f k N]
  congr 1
  ·refine bFq fun i hi => ?_
   rw [Nat.mod_eq_of_lt (aVx.1 hi)]
  ·refine bFq fun i _ => ?_
   show f ((k+i) % k)=f (i % k);rw [Nat.add_mod_left]
theorem zV(a:Array Value)(n:Nat):(Builtin.zeroCells a n).toList=(List.replicate n a.toList).flatten:=by
 have h:=zU (fun i=>a[i]!) a.size n
 have e:(List.range a.size).map (fun i=>a[i]!)=a.toList:=by
  apply List.ext_getElem
  ·simp
  ·intro i h1 h2
   have h3:i<a.size:=by simpa using h1
   simp [h3]
 rw [e] at h
 unfold Builtin.zeroCells;rw [Array.toList_map,Array.toList_range];exact h
def lS(T:TT)(m:Mem)(t:Nat)(x:AV):Ask (AV × Upd):=do
 let ej ← lift (lD T t)
 lift (if (ej.2.zero.all fun z=>z.oneCell')=true then some () else none)
 match x with
 | .arr id off n=>do
  lift (if dX m id then some () else none)
  let r ← lift (eZ m id)
  eM (off+n*ej.2.zero.length≤r.2.2.length)
  pure (.any,[(id,.row r.1 r.2.1 (r.2.2.take off++(List.replicate n (ej.2.zero.map PV.v)).flatten++r.2.2.drop (off+n*ej.2.zero.length)))])
 | _=>fail
theorem sC(hT:∀ t i,T t=some i→cM P t=some i)(hM:aX P C M w){t ty:Nat}{x a:AV}{u:Value}{L:Upd}{s s':AS}(hx:Rep C M w x u)(h:lS T M t x s=some ((a,L),s'))(g:bA s') :
  bA s∧Out P C M w a (upds M L) ((Builtin.clear_ #[t] ty #[u]).run P w):=by
 unfold lS at h
 obtain ⟨ej,s1,h1,k1⟩:=aC h;obtain ⟨e1,rfl⟩:=aE h1;obtain ⟨_,s3,h3,k3⟩:=aC k1;obtain ⟨e3,rfl⟩:=aE h3;obtain ⟨E7,_⟩:=bX e3;obtain ⟨hd,hj⟩:=jD hT e1
 split at k3
 ·rename_i id off n
  obtain ⟨_,s4,h4,k4⟩:=aC k3;obtain ⟨e4,rfl⟩:=aE h4;obtain ⟨hl,_⟩:=bX e4;obtain ⟨o,ho,hol⟩:=dJ hl;cases hx with
  | arr _ _ _ u h0 ha hr =>
  obtain ⟨r,s5,h5,k5⟩:=aC k4;obtain ⟨e5,rfl⟩:=aE h5;obtain ⟨_,s6,h6,k6⟩:=aC k5;obtain ⟨he,rfl⟩:=aH k6;cases he;obtain ⟨hle,g⟩:=dL h6 g;have hro:=dG e5;cases n with
  | zero =>
   have hself:upds M [(id,.row r.1 r.2.1 (r.2.2.take off++(List.replicate 0 (ej.2.zero.map PV.v)).flatten++r.2.2.drop (off+0*ej.2.zero.length)))]=M:=by
    simp only [upds,List.replicate_zero,List.flatten_nil,List.append_nil,Nat.zero_mul,Nat.add_zero,aVt];exact oA M id _ hro
   rw [hself];have hu:∃ p cap,u = .slice p 0 cap:=by
    rcases hr o ho hol with ⟨_,p,cap,hu,_⟩ | ⟨b,cap,hu,_⟩
    ·exact ⟨p,cap,hu⟩
    ·exact ⟨_,cap,hu⟩
   obtain ⟨p,cap,rfl⟩:=hu;have hrun:(Builtin.clear_ #[t] ty #[.slice p 0 cap]).run P w = .ok (.tuple #[]) w:=by
    cases p <;> simp [Builtin.clear_,run_underlying hd]
   exact ⟨g,C,w,_,hrun,Fr.refl ..,hM,.any _⟩
  | succ n =>
   rcases hr _ hro rfl with ⟨hz,_⟩ | ⟨b,cap,rfl,_,_,hb⟩
   ·cases hz
   rcases hM.row _ _ _ _ hro with ⟨hn,_⟩ | ⟨b',cur,inf,Aq,q1,_,q3,q4,q5,_,_⟩
   ·rw [hb] at hn;cases hn
   rw [hb] at Aq;cases Aq
   obtain ⟨Ke,_,z',hinf,_,hzz,_,hsz,_,hzl,_⟩:=eG hj;have hlc:r.2.2.length≤cur.size:=by rw [q3,q4];exact Nat.mul_le_mul_right _ q5
   have hVl:((List.replicate (n+1) ej.2.zero).flatten).length=(n+1)*ej.2.zero.length:=by
    rw [List.length_flatten];simp
   have hX:(List.replicate (n+1) (ej.2.zero.map PV.v)).flatten=((List.replicate (n+1) ej.2.zero).flatten).map PV.v:=by
    rw [List.map_flatten,List.map_replicate]
   have hone:∀ v∈(List.replicate (n+1) ej.2.zero).flatten,v.oneCell'=true:=fun v hv=>by
    obtain ⟨l,An,Bl⟩:=List.mem_flatten.1 hv;rw [List.eq_of_mem_replicate An] at Bl
    exact iD.1 E7 v Bl
   obtain ⟨m1,m2⟩:=uI (off:=off) (xs:=(List.replicate (n+1) (ej.2.zero.map PV.v)).flatten) (vs:=(List.replicate (n+1) ej.2.zero).flatten.toArray) hM hro hb q1 (by rw [hX];simp) (by rw [hX,kI,hVl];exact hle) (fun j hj=>by
     have Ca:j<((List.replicate (n+1) ej.2.zero).flatten).length:=by rw [hX,kI] at hj;exact hj
     have e1:((List.replicate (n+1) (ej.2.zero.map PV.v)).flatten)[j]=PV.v ((List.replicate (n+1) ej.2.zero).flatten)[j]:=by
      simp only [hX,gL]
     rw [e1,cG,uP,Bw Ca];exact .v _) (fun j hj=>by
     have Ca:j<((List.replicate (n+1) ej.2.zero).flatten).length:=by rw [hX,kI] at hj;exact hj
     rw [cG,uP,Bw Ca];exact hone _ (iC Ca))
   have hst:=run_storeCells_at P b off r.1 ((List.replicate (n+1) ej.2.zero).flatten) 0 cur w q1 (by rw [hVl];omega) hone
   have hzcs:(Builtin.zeroCells z'.cells (n+1)).toList=(List.replicate (n+1) ej.2.zero).flatten:=by rw [zV,hzl]
   have hzv:(zeroValue ej.1).run P w = .ok z' w:=by simp [zeroValue,typeInfo,hinf,hzz,program,Sem.run]
   have hrun:(Builtin.clear_ #[t] ty #[.slice (some ⟨b,off,none⟩) (n+1) cap]).run P w = .ok (.tuple #[]) (w.setRow b (cur.toList.take off++(List.replicate (n+1) ej.2.zero).flatten.toArray.toList++cur.toList.drop (off+(List.replicate (n+1) ej.2.zero).flatten.toArray.toList.length)).toArray):=by
    simp only [Nat.add_zero] at hst
    simp [Builtin.clear_,run_underlying hd,hzv,hzcs,hst]
   have hxl:(List.replicate (n+1) (ej.2.zero.map PV.v)).flatten.length=(n+1)*ej.2.zero.length:=by rw [hX,kI,hVl]
   rw [hxl] at m1 m2
   exact ⟨g,C,_,_,hrun,m2,m1,.any _⟩
 ·exact (aU k3).elim
def sclear(T:TT)(m:Mem)(t:Nat)(x:AV):Ask (AV × Upd):=match lD T t with
 | some ej=>match ej.2.zero with
  | [_]=>B5 T m t x
  | _=>lS T m t x
 | none=>fail
theorem aFt(hT:∀ t i,T t=some i→cM P t=some i)(hM:aX P C M w){t ty:Nat}{x a:AV}{u:Value}{L:Upd}{s s':AS}(hx:Rep C M w x u)(h:sclear T M t x s=some ((a,L),s'))(g:bA s') :
  bA s∧Out P C M w a (upds M L) ((Builtin.clear_ #[t] ty #[u]).run P w):=by
 unfold sclear at h
 cases he:lD T t with
 | none=>rw [he] at h;exact (aU h).elim
 | some ej =>
  rw [he] at h
  dsimp only at h
  cases hz:ej.2.zero with
  | nil=>rw [hz] at h;exact sC hT hM hx h g
  | cons z l =>
   cases l with
   | nil=>rw [hz] at h;exact aCe hT hM hx h g
   | cons z2 l=>rw [hz] at h;exact sC hT hM hx h g
def scopy(T:TT)(m:Mem)(t:Nat)(x y:AV):Ask (AV × Upd):=do
 let ej ← lift (lD T t)
 lift (if 0<ej.2.size then some () else none)
 let sy ← lift (pU m ej.2.size y)
 match x with
 | .own id=>do
  let r ← lift (eZ m id)
  lift (if r.1=ej.1 then some () else none)
  eM (sy.2.length=(match Nat.beq ej.2.size 1 with | true=>sy.1 | false=>sy.1*ej.2.size)∧sy.1=r.2.1)
  pure (.p (.v (.int .i64 (sy.1:Int))),[(id,.row r.1 r.2.1 sy.2)])
 | _=>fail

theorem aCf(w:World)(dT sT ty elem:TypeId)(g o dLen dCap:Nat)(a:Addr)(sLen sCap k:Nat)(cur:Array Value)(t:TypeId)(cs:List Value)
  (hu:P.underlying dT=some (.slice elem)) (hs:(P.info? elem).map (·.size)=some k)
  (hg:w.heap[g]? = some (.cells cur t (0,0))) (hn:cs.length=Nat.min sLen dLen*k)
  (hsrc:∀ j v,cs[j]? = some v→w.cell? (a.add j)=some v) (hfit:o+cs.length≤cur.size) (h1:∀ v∈cs,v.oneCell'=true) :
  (Builtin.copy_ #[dT,sT] ty #[.slice (some ⟨g,o,none⟩) dLen dCap,.slice (some a) sLen sCap]).run P w =
   .ok (goInt (Nat.min sLen dLen)) (w.setRow g (cur.toList.take o++cs++cur.toList.drop (o+cs.length)).toArray):=by
 have hl:=run_loadCells_list (P:=P) w a cs hsrc;have hst:=run_storeCells_at P g o t cs 0 cur w hg (by simpa using hfit) h1
 cases hq:P.info? elem with
 | none=>simp [hq] at hs
 | some i =>
  have hi:i.size=k:=by simpa [hq] using hs
  simp [Builtin.copy_,run_underlying hu,Builtin.lenOf,Builtin.firstCells,sizeOf,typeInfo,hq,hi,← hn,hl,hst]
theorem zW(w:World)(dT sT ty elem:TypeId)(d a:Option Addr)(dLen dCap sLen sCap k:Nat)(hu:P.underlying dT=some (.slice elem))(hs:(P.info? elem).map (·.size)=some k)(hn:Nat.min sLen dLen=0) :
  (Builtin.copy_ #[dT,sT] ty #[.slice d dLen dCap,.slice a sLen sCap]).run P w = .ok (goInt 0) w:=by
 cases hq:P.info? elem with
 | none=>simp [hq] at hs
 | some i =>
  have hl:∀ (x:Addr),(loadCells x 0).run P w = .ok #[] w:=fun x=>by simpa using run_loadCells_list (P:=P) w x [] (by simp)
  cases d <;> cases a <;> simp [Builtin.copy_,run_underlying hu,Builtin.lenOf,Builtin.firstCells,sizeOf,typeInfo,hq,hn,storeCells,hl]


theorem aJk(hT:∀ t i,T t=some i→cM P t=some i)(hM:aX P C M w){t t2 ty:Nat}{x y a:AV}{u v:Value}{L:Upd}{s s':AS}(hx:Rep C M w x u)(hy:Rep C M w y v)(h:scopy T M t x y s=some ((a,L),s'))(g:bA s') :
  bA s∧Out P C M w a (upds M L) ((Builtin.copy_ #[t,t2] ty #[u,v]).run P w):=by
 unfold scopy at h
 obtain ⟨ej,s1,h1,k1⟩:=aC h;obtain ⟨e1,rfl⟩:=aE h1;obtain ⟨_,s2,h2,k2⟩:=aC k1;obtain ⟨e2,rfl⟩:=aE h2;obtain ⟨hz,_⟩:=bX e2;obtain ⟨sy,s3,h3,k3⟩:=aC k2;obtain ⟨e3,rfl⟩:=aE h3;obtain ⟨hd,hj⟩:=jD hT e1;have hsz:(P.info? ej.1).map (·.size)=some ej.2.size:=by
  obtain ⟨inf,d,z,q1,_,_,_,q2,_⟩:=eG hj;rw [q1];simp [← q2]
 generalize hk:ej.2.size=k at *
 split at k3
 ·rename_i id
  obtain ⟨r,s4,h4,k4⟩:=aC k3;obtain ⟨e4,rfl⟩:=aE h4;obtain ⟨_,s5,h5,k5⟩:=aC k4;obtain ⟨e5,rfl⟩:=aE h5;obtain ⟨hre,_⟩:=bX e5;obtain ⟨_,s6,h6,k6⟩:=aC k5;obtain ⟨he,rfl⟩:=aH k6;cases he;obtain ⟨hq,g⟩:=dL h6 g;have hg:sy.2.length=sy.1*k∧sy.1=r.2.1:=by
   obtain ⟨Cy,Kf⟩:=hq;refine ⟨?_,Kf⟩
   split at Cy
   ·rename_i hb
    rw [Cy,Nat.eq_of_beq_eq_true hb,Nat.mul_one]
   ·exact Cy
  obtain ⟨An,Bl⟩:=hg;refine ⟨g,?_⟩;have ho:=dG e4;obtain ⟨p,cap,us,hsrc⟩:=lU hM (k:=k) (n:=sy.1) (cs:=sy.2) hy e3 An;obtain ⟨n1,Ei⟩:=sy;obtain ⟨Er,n,cs⟩:=r;dsimp only at An Bl hre ho hsrc ⊢
  subst Bl;subst hre;obtain rfl:=hsrc.eq;have nothing:∀ (q:Option Addr) (c:Nat),n1=0→u = .slice q n1 c→cs=[]→Out P C M w (.p (.v (.int .i64 (n1:Int)))) (upds M [(id,.row ej.1 n1 Ei)]) ((Builtin.copy_ #[t,t2] ty #[u,.slice p n1 cap]).run P w):=fun q c h0 hu hc=>by
   have Ls:Ei=[]:=uO (by rw [An,h0,Nat.zero_mul])
   subst Ls;subst hc;have hself:upds M [(id,.row ej.1 n1 [])]=M:=by simp only [upds];exact oA M id _ ho
   rw [hself,hu];refine ⟨C,w,_,zW w t t2 ty ej.1 q p n1 c n1 cap k hd hsz (by rw [h0];rfl),Fr.refl ..,hM,?_⟩
   rw [h0];exact .p _ _ (.v _)
  cases hx with
  | own _ u h0 ha hr =>
   rcases hr _ _ _ ho with ⟨hu,hι,hn⟩ | ⟨b,hu,hb⟩
   ·rcases hM.row _ _ _ _ ho with ⟨_,_,hc⟩ | ⟨b',arr,inf,Aq,_⟩
    ·exact nothing none 0 hn (by rw [hu,hn]) hc
    ·rw [hι] at Aq;cases Aq
   ·rcases hM.row _ _ _ _ ho with ⟨Gw,_⟩ | ⟨b',arr,inf,Aq,q1,q2,q3,q4,q5,q6,q7,q8⟩
    ·rw [hb] at Gw;cases Gw
    ·rw [hb] at Aq;cases Aq
     have his:inf.size=k:=by rw [q2] at hsz;simpa using hsz
     have hcl:cs.length=n1*k:=by rw [q4,his]
     by_cases Lu:n1=0
     ·exact nothing _ _ Lu hu (uO (by rw [hcl,Lu,Nat.zero_mul]))
     ·have hpos:0<Ei.length:=by rw [An];exact Nat.mul_pos (by omega) hz
      have hsize:Ei.length≤arr.size:=by rw [An,q3,his];exact Nat.mul_le_mul_right _ q5
      obtain ⟨b2,o2,rfl,_⟩:=hsrc.at_ 0 hpos;have hcell:∀ j,j<Ei.length→w.cell? ⟨b2,o2+j,none⟩=some (us j):=fun j Ca=>by
       obtain ⟨b3,o3,he,hc⟩:=hsrc.at_ j Ca;cases he;exact hc
      have hvl:(vals Ei.length us).length=Ei.length:=by simp [vals]
      have hva:∀ j,j<Ei.length→(vals Ei.length us).toArray.getD j undef=us j:=fun j Ca=>by simp [vals,Bu,Ca]
      obtain ⟨m1,f1⟩:=uI (xs:=Ei) (off:=0) (vs:=(vals Ei.length us).toArray) hM ho hb q1 (by simp [hvl]) (by omega) (fun j Ca=>by rw [hva j Ca];exact hsrc.rep j Ca) (fun j Ca=>by rw [hva j Ca];exact hsrc.one j Ca)
      have hrun:=aCf (P:=P) w t t2 ty ej.1 b 0 n1 (C.κ id) ⟨b2,o2,none⟩ n1 cap k arr ej.1 (vals Ei.length us) hd hsz q1 (by rw [hvl,An];rw [show Nat.min n1 n1=n1 from Nat.min_self n1]) (fun j v hv=>by
       obtain ⟨Ca,rfl⟩:=Ci.1 hv;have G6:j<Ei.length:=by omega
       have:(vals Ei.length us)[j]=us j:=by simp [vals]
       rw [this]
       rcases Nat.eq_zero_or_pos j with h0 | hp
       ·subst h0;simpa [Addr.add] using hcell 0 G6
       ·simpa [Addr.add,Nat.ne_of_gt hp] using hcell j G6) (by rw [hvl];omega) (fun v hv=>by
       obtain ⟨j,Ca,rfl⟩:=List.mem_iff_getElem.1 hv;have G6:j<Ei.length:=by omega
       have:(vals Ei.length us)[j]=us j:=by simp [vals]
       rw [this];exact hsrc.one j G6)
      have hcs:cs.take 0++Ei++cs.drop (0+Ei.length)=Ei:=by
       rw [List.take_zero,List.nil_append,List.drop_eq_nil_of_le (by omega),List.append_nil]
      rw [hcs] at m1 f1
      rw [hu];refine ⟨C,_,_,hrun,?_,?_,?_⟩
      ·simpa [upds] using f1
      ·simpa [upds] using m1
      ·rw [show Nat.min n1 n1=n1 from Nat.min_self n1];exact .p _ _ (.v _)
 ·exact (aU k3).elim
end
section
open Go.Maps
open Go.ChangeMaps (setBlock)
variable {P:Program} {T:TT} {C:Cx} {M:Mem} {w:World}

def nX:Value→Int
 | .int _ k=>k
 | _=>0
def bLq(q:IntKind):Value→Bool
 | .int q' k=>decide (q'=q) && (Lit.int q k).wf
 | _=>false
def vP(q:IntKind)(es:List (Value × PV))(kv:Value):Prop:=(∀ e∈es,bLq q e.1=true)∧bLq q kv=true∧(es.map fun e=>nX e.1).Nodup
instance (q:IntKind) (es:List (Value × PV)) (kv:Value):Decidable (vP q es kv):=by unfold vP;infer_instance
def aVk(es:List (Value × PV))(kv:Value):Bool:=es.any fun e=>decide (nX e.1=nX kv)
def bSu:AV→Option PV
 | .p y=>some y
 | .kb b=>some (.v (.bool b))
 | _=>none
def bEy(es:List (Value × PV))(kv:Value):Option PV:=match es.find? fun e=>decide (nX e.1=nX kv) with
 | some e=>some e.2
 | none=>none
def bEz:List (Value × PV)→Value→PV→List (Value × PV)
 | [],_,_=>[]
 | e::r,kv,x=>if nX e.1=nX kv then (kv,x)::r else e::bEz r kv x

def smap(m:Mem)(id:Nat):Ask (AV × Upd):=do
 lift (if fG m id then some () else none)
 pure (.mp id,[(id,.mp [] 0)])
def bLr:TK→Option (Nat × Nat)
 | .map k e=>some (k,e)
 | _=>none
def aJe:TK→Option IntKind
 | .int q=>some q
 | _=>none
def zR(m:Mem):AV→Option (Nat × List (Value × PV) × Nat)
 | .mp id=>match bU m id with
  | some (.mp es cl)=>some (id,es,cl)
  | _=>none
 | _=>none
def aDf(m:Mem)(a:AV):Option (List (Value × PV)):=match a with
 | .p (.mp es)=>some es
 | _=>match zR m a with
  | some x=>some x.2.1
  | none=>none
def aRd:AV→Option Value
 | .p (.v kv)=>some kv
 | _=>none
def kG:Value→List Int
 | .agg vs=>vs.toList.map nX
 | v=>[nX v]
def iB(es:List (Value × PV))(kv:Value):Bool:=es.any fun e=>decide (kG e.1=kG kv)
def gV(es:List (Value × PV))(kv:Value):Option PV:=match es.find? fun e=>decide (kG e.1=kG kv) with
 | some e=>some e.2
 | none=>none
def aJf:List (Value × PV)→Value→PV→List (Value × PV)
 | [],_,_=>[]
 | e::r,kv,x=>if kG e.1=kG kv then (kv,x)::r else e::aJf r kv x
def eO(P:Program)(kt:Nat)(es:List (Value × PV))(kv:Value):Prop :=
 Keyed P kt∧(∀ e∈es,∃ l,keyOf P kt e.1=some l)∧(∃ l,keyOf P kt kv=some l)∧(∀ e∈es,kG e.1=kG kv→e.1=kv)∧(es.map fun e=>kG e.1).Nodup
def aFr:AV→Option Value
 | .p (.agg [.v x,.v y,.v z])=>some (.agg #[x,y,z])
 | .agg [.p (.v x),.p (.v y),.p (.v z)]=>some (.agg #[x,y,z])
 | _=>none
def aVl(p:Prop):Ask Unit:=fun s=>match s.auto with
 | true=>none
 | false=>some ((),{ s with obs:=p::s.obs })
theorem bQh{p:Prop}{s s':AS}{u:Unit}(h:aVl p s=some (u,s'))(g:bA s'):p∧bA s:=by
 unfold aVl at h
 cases ha:s.auto with
 | true=>rw [ha] at h;cases h
 | false=>rw [ha] at h;cases h;exact g.tail
def zS(P:Program)(et:Nat)(ok:Bool)(ak:Ask Unit)(hit:Bool)(lk:Option PV):Ask AV:=do
 ak
 let d ← aNw hit
 match d with
 | true=>do
  let x ← aJv lk
  pure (if ok then .tup [.p x,.kb true] else .p x)
 | false=>do
  let inf ← lift (P.info? et)
  let z ← lift inf.zero
  pure (if ok then .tup [.p (cv z),.kb false] else .p (cv z))
def slook(P:Program)(T:TT)(m:Mem)(t:Nat)(a k:AV)(ok:Bool):Ask AV:=do
 let i ← lift (T t)
 let ke ← lift (bLr i.k)
 let es ← lift (aDf m a)
 let ik ← lift (T ke.1)
 match aJe ik.k with
 | some q=>do
  let kv ← lift (aRd k)
  zS P ke.2 ok (eM (vP q es kv)) (aVk es kv) (bEy es kv)
 | none=>do
  let kv ← lift (aFr k)
  zS P ke.2 ok (aVl (eO P ke.1 es kv)) (iB es kv) (gV es kv)
def aJg(id cl:Nat)(es:List (Value × PV))(kv:Value)(x:AV)(ak:Ask Unit)(hit:Bool)(Fa:PV→List (Value × PV)):Ask Upd:=do
 ak
 let y ← lift (bSu x)
 let d ← aNw hit
 match d with
 | true=>pure [(id,.mp (Fa y) cl)]
 | false=>pure [(id,.mp (es++[(kv,y)]) (cl+1))]
def sput(P:Program)(T:TT)(m:Mem)(t:Nat)(a k x:AV):Ask Upd:=do
 let i ← lift (T t)
 let ke ← lift (bLr i.k)
 let mm ← lift (zR m a)
 let ik ← lift (T ke.1)
 match aJe ik.k with
 | some q=>do
  let kv ← lift (aRd k)
  aJg mm.1 mm.2.2 mm.2.1 kv x (eM (vP q mm.2.1 kv)) (aVk mm.2.1 kv) (bEz mm.2.1 kv)
 | none=>do
  let kv ← lift (aFr k)
  aJg mm.1 mm.2.2 mm.2.1 kv x (aVl (eO P ke.1 mm.2.1 kv)) (iB mm.2.1 kv) (aJf mm.2.1 kv)

theorem aJh{d:TypeDesc}{x:Nat × Nat}(h:bLr (jR d)=some x):d = .map x.1 x.2:=by
 cases hd:jR d <;> rw [hd] at h <;> simp [bLr] at h
 subst h;exact bFk hd
theorem aJi{d:TypeDesc}{q:IntKind}(h:aJe (jR d)=some q):d = .int q:=by
 cases hd:jR d <;> rw [hd] at h <;> simp [aJe] at h
 subst h;exact aGf hd
theorem aDg{m:Mem}{a:AV}{x:Nat × List (Value × PV) × Nat}(h:zR m a=some x):a = .mp x.1∧bU m x.1=some (.mp x.2.1 x.2.2):=by
 unfold zR at h
 split at h
 ·split at h
  ·rename_i h2
   cases h;exact ⟨rfl,h2⟩
  ·cases h
 ·cases h
theorem aDh{k:AV}{kv:Value}(h:aRd k=some kv):k = .p (.v kv):=by
 unfold aRd at h
 split at h
 ·cases h;rfl
 ·cases h
theorem uA{q:IntKind}{v:Value}(h:bLq q v=true):∃ k,v = .int q k∧(Lit.int q k).wf=true:=by
 cases v <;> simp [bLq] at h
 rename_i q' k;obtain ⟨rfl,h⟩:=h;exact ⟨k,rfl,h⟩
theorem bFa{x:AV}{y:PV}{u:Value}(h:Rep C M w x u)(e:bSu x=some y):cS C.F w y u:=by
 cases x <;> simp [bSu] at e
 ·subst e;cases h;assumption
 ·subst e
  cases h;exact .v _
theorem aFs{id:Nat}{u:Value}{es:List (Value × PV)}{cl:Nat}(hM:aX P C M w)(h:Rep C M w (.mp id) u)(ho:bU M id=some (.mp es cl)) :
  ∃ b arr,u = .map (some b)∧C.ι id=some b∧w.heap[b]? = some (.map arr cl)∧arr.size=es.length∧∀ j (h:j<es.length),∃ e,arr[j]? = some e∧e.key=es[j].1∧e.born<cl∧cS C.F w es[j].2 e.val:=by
 replace ho:=dU ho
 cases h with
 | mp id u h0 ha h =>
  obtain ⟨b,rfl,hb⟩:=h _ ho rfl;obtain ⟨b',arr,Aq,h1,h2,h3⟩:=hM.mp _ _ _ ho;rw [hb] at Aq;cases Aq
  exact ⟨b,arr,rfl,hb,h1,h2,h3⟩

theorem bLs{a:AV}{u:Value}{es:List (Value × PV)}(hM:aX P C M w)(h:Rep C M w a u)(e:aDf M a=some es) :
  ∃ b arr cl,u = .map (some b)∧w.heap[b]? = some (.map arr cl)∧arr.size=es.length∧∀ j (h:j<es.length),∃ e,arr[j]? = some e∧e.key=es[j].1∧e.born<cl∧cS C.F w es[j].2 e.val:=by
 unfold aDf at e
 split at e
 ·cases e
  cases h with
  | p _ _ h =>
   cases h with
   | mp _ b cl arr us hb h0 h1 h2 h3 =>
    refine ⟨b,arr,cl,rfl,h0,h1,fun j hj => ?_⟩
    obtain ⟨en,q1,q2,q3,q4⟩:=h2 j hj;exact ⟨en,q1,q2,q3,q4 ▸ h3 j hj⟩
 ·split at e
  ·rename_i x hx
   cases e;obtain ⟨rfl,ho⟩:=aDg hx;obtain ⟨b,arr,rfl,_,q1,q2,q3⟩:=aFs hM h ho;exact ⟨b,arr,_,rfl,q1,q2,q3⟩
  ·cases e

theorem aNg(hM:aX P C M w){id t:Nat}{x:AV}{L:Upd}{s s':AS}(h:smap M id s=some ((x,L),s'))(g:bA s') :
  bA s∧Out P C M w x (upds M L) ((Instr.makeMap t none).run P w):=by
 unfold smap at h
 obtain ⟨_,s1,h1,k1⟩:=aC h;obtain ⟨e1,rfl⟩:=aE h1;obtain ⟨hf,_⟩:=bX e1;obtain ⟨hx,rfl⟩:=aH k1;cases hx;have hf:=cV hf;refine ⟨g,C.grow id w.heap.size 0,w.alloc (.map #[] 0),.map (some w.heap.size),rfl,tC hf _ _,oF hM hf _ _ (fun _ _ _ h=>by cases h) (fun _ _ h=>by cases h) (fun es cl h=>by cases h;exact ⟨rfl,rfl⟩),?_⟩
 refine .mp id _ rfl ⟨_,aY ..⟩ fun o _ _=>⟨_,rfl,by simp [Cx.grow]⟩

theorem bLt{q:IntKind}{kt:Nat}(hkt:P.underlying kt=some (.int q)){es:List (Value × PV)}{kv:Value}{arr:Array MapEntry}{cl:Nat}(hK:vP q es kv)(hsz:arr.size=es.length)
  (hA:∀ j (h:j<es.length),∃ e,arr[j]? = some e∧e.key=es[j].1∧e.born<cl∧cS C.F w es[j].2 e.val) :
  (aVk es kv=false∧(Instr.findKey kt kv arr.toList).run P w = .ok none w) ∨
  (aVk es kv=true∧∃ j e,∃ h:j<es.length,(Instr.findKey kt kv arr.toList).run P w = .ok (some (j,e.val)) w∧arr[j]? = some e∧e.key=kv∧es[j].1=kv∧cS C.F w es[j].2 e.val∧e.born<cl ∧
   (es.find? fun e=>decide (nX e.1=nX kv))=some es[j]∧∀ x,bEz es kv x=es.set j (kv,x)):=by
 obtain ⟨k1,k2,k3⟩:=hK;have K:=int_keyed hkt;obtain ⟨k,rfl,hk⟩:=uA k2;have hkey:keyOf P kt (.int q k)=some (.int q k):=keyOf_int_mk hkt hk;have hmem:∀ e∈arr.toList,∃ j,∃ h:j<es.length,arr[j]? = some e∧e.key=es[j].1:=fun e he=>by
  obtain ⟨j,hj,rfl⟩:=List.getElem_of_mem he;have Ca:j<es.length:=by simpa [hsz] using hj
  obtain ⟨e',h1,h2,_⟩:=hA j Ca;have:arr[j]? = some arr.toList[j]:=by simp at hj;simp [hj]
  rw [this] at h1
  cases h1;exact ⟨j,Ca,this,h2⟩
 have hes:∀ e∈arr.toList,∃ l,keyOf P kt e.key=some l:=fun e he=>by
  obtain ⟨j,hj,_,h2⟩:=hmem e he;obtain ⟨n,h3,h4⟩:=uA (k1 es[j] (iC hj));rw [h2,h3];exact ⟨_,keyOf_int_mk hkt h4⟩
 rcases K.find w hkey arr.toList hes with ⟨h1,h2⟩ | ⟨j,e0,h1,h2,h3⟩
 ·refine .inl ⟨?_,h1⟩
  unfold aVk;rw [List.any_eq_false];intro e he;obtain ⟨j,hj,rfl⟩:=List.getElem_of_mem he;obtain ⟨e',q1,q2,_⟩:=hA j hj;have hin:e'∈arr.toList:=by
   have:=B0 (l:=arr.toList) (i:=j) (a:=e') (by simpa using q1)
   exact this
  have hne:=h2 e' hin;rw [q2] at hne
  obtain ⟨n,h3,_⟩:=uA (k1 es[j] (iC hj));rw [h3] at hne ⊢
  simp only [nX];exact fun e=>hne (by rw [of_decide_eq_true e])
 ·have Gx:arr[j]? = some e0:=by simpa using h2
  have hj:j<es.length:=by
   obtain ⟨h,_⟩:=mF.1 Gx;omega
  obtain ⟨e',q1,q2,q3,q4⟩:=hA j hj;rw [Gx] at q1
  cases q1;have hkj:es[j].1 = .int q k:=by rw [← q2,h3]
  have hu:∀ i (hi:i<es.length),nX es[i].1=k→i=j:=fun i hi he=>by
   have hp:=List.pairwise_iff_getElem.1 k3;have Kd:nX es[j].1=k:=by rw [hkj];rfl
   rcases Nat.lt_trichotomy i j with hl | hl | hl
   ·exact absurd (by rw [gL,gL,he,Kd]) (hp i j (by simpa using hi) (by simpa using hj) hl)
   ·exact hl
   ·exact absurd (by rw [gL,gL,he,Kd]) (hp j i (by simpa using hj) (by simpa using hi) hl)
  refine .inr ⟨List.any_eq_true.2 ⟨es[j],iC hj,by simp [hkj]⟩,j,e0,hj,h1,Gx,h3,hkj,q4,q3,?_,?_⟩
  ·rw [List.find?_eq_some_iff_getElem]
   refine ⟨by simp [hkj],j,hj,rfl,fun i hi => ?_⟩
   have C8:i<es.length:=by omega
   have:¬ nX es[i].1=k:=fun he=>by have:=hu i C8 he;omega
   simpa using (show ¬ nX es[i].1=nX (.int q k) from this)
  ·intro x
   clear hA hmem hes h1 h2 Gx hsz q2 q3 q4 k1
   induction es generalizing j with
   | nil=>simp at hj
   | cons e r ih =>
    unfold bEz;cases j with
    | zero =>
     have:e.1 = .int q k:=hkj;rw [if_pos (by rw [this])];rfl
    | succ j =>
     have hne:¬ nX e.1=nX (.int q k):=fun he=>by have:=hu 0 (by simp) he;omega
     rw [if_neg hne,List.set_cons_succ];rw [ih (List.nodup_cons.1 k3).2 j (by simpa using hj) (by simpa using hkj) (fun i hi he=>by have:=hu (i+1) (by simpa using hi) (by simpa using he);omega)]

theorem zT{k:AV}{kv u:Value}(h:Rep C M w k u)(e:aFr k=some kv):u=kv:=by
 unfold aFr at e
 split at e
 ·cases e
  cases h with
  | p _ _ h =>
   cases h with
   | agg _ vs h0 h1 h2 =>
    have a0:=h2 0 (by simp)
    have a1:=h2 1 (by simp)
    have a2:=h2 2 (by simp)
    simp at a0 a1 a2 h1
    cases a0;cases a1;cases a2
    congr 1
    ext i Gb Dy
    ·simpa using h1
    ·have hi:i<3:=by omega
     rcases i with _ | _ | _ | i
     ·simp [Gb]
     ·simp [Gb]
     ·simp [Gb]
     ·omega
 ·cases e
  cases h with
  | agg _ vs h0 h1 h2 =>
   have a0:=h2 0 (by simp)
   have a1:=h2 1 (by simp)
   have a2:=h2 2 (by simp)
   simp at a0 a1 a2 h1
   cases a0 with | p _ _ a0 =>
   cases a1 with | p _ _ a1 =>
   cases a2 with | p _ _ a2 =>
   cases a0;cases a1;cases a2
   congr 1
   ext i Gb Dy
   ·simpa using h1
   ·have hi:i<3:=by omega
    rcases i with _ | _ | _ | i
    ·simp [Gb]
    ·simp [Gb]
    ·simp [Gb]
    ·omega
 ·cases e
theorem bLu{kt:Nat}{es:List (Value × PV)}{kv:Value}{arr:Array MapEntry}{cl:Nat}(hK:eO P kt es kv)(hsz:arr.size=es.length)
  (hA:∀ j (h:j<es.length),∃ e,arr[j]? = some e∧e.key=es[j].1∧e.born<cl∧cS C.F w es[j].2 e.val) :
  (iB es kv=false∧(Instr.findKey kt kv arr.toList).run P w = .ok none w) ∨
  (iB es kv=true∧∃ j e,∃ h:j<es.length,(Instr.findKey kt kv arr.toList).run P w = .ok (some (j,e.val)) w∧arr[j]? = some e∧e.key=kv∧es[j].1=kv∧cS C.F w es[j].2 e.val∧e.born<cl ∧
   (es.find? fun e=>decide (kG e.1=kG kv))=some es[j]∧∀ x,aJf es kv x=es.set j (kv,x)):=by
 obtain ⟨K,k1,⟨lk,k2⟩,ki,k3⟩:=hK;have hmem:∀ e∈arr.toList,∃ j,∃ h:j<es.length,arr[j]? = some e∧e.key=es[j].1:=fun e he=>by
  obtain ⟨j,hj,rfl⟩:=List.getElem_of_mem he;have Ca:j<es.length:=by simpa [hsz] using hj
  obtain ⟨e',h1,h2,_⟩:=hA j Ca;have:arr[j]? = some arr.toList[j]:=by simp at hj;simp [hj]
  rw [this] at h1
  cases h1;exact ⟨j,Ca,this,h2⟩
 have hes:∀ e∈arr.toList,∃ l,keyOf P kt e.key=some l:=fun e he=>by
  obtain ⟨j,hj,_,h2⟩:=hmem e he;rw [h2];exact k1 es[j] (iC hj)
 rcases K.find w k2 arr.toList hes with ⟨h1,h2⟩ | ⟨j,e0,h1,h2,h3⟩
 ·refine .inl ⟨?_,h1⟩
  unfold iB;rw [List.any_eq_false];intro e he;obtain ⟨j,hj,rfl⟩:=List.getElem_of_mem he;obtain ⟨e',q1,q2,_⟩:=hA j hj;have hin:e'∈arr.toList:=by
   have:=B0 (l:=arr.toList) (i:=j) (a:=e') (by simpa using q1)
   exact this
  have hne:=h2 e' hin;rw [q2] at hne
  exact fun e=>hne (ki _ (iC hj) (of_decide_eq_true e))
 ·have Gx:arr[j]? = some e0:=by simpa using h2
  have hj:j<es.length:=by
   obtain ⟨h,_⟩:=mF.1 Gx;omega
  obtain ⟨e',q1,q2,q3,q4⟩:=hA j hj;rw [Gx] at q1
  cases q1;have hkj:es[j].1=kv:=by rw [← q2,h3]
  have hu:∀ i (hi:i<es.length),kG es[i].1=kG kv→i=j:=fun i hi he=>by
   have hp:=List.pairwise_iff_getElem.1 k3
   rcases Nat.lt_trichotomy i j with hl | hl | hl
   ·exact absurd (by rw [gL,gL,he,hkj]) (hp i j (by simpa using hi) (by simpa using hj) hl)
   ·exact hl
   ·exact absurd (by rw [gL,gL,he,hkj]) (hp j i (by simpa using hj) (by simpa using hi) hl)
  refine .inr ⟨List.any_eq_true.2 ⟨es[j],iC hj,by simp [hkj]⟩,j,e0,hj,h1,Gx,h3,hkj,q4,q3,?_,?_⟩
  ·rw [List.find?_eq_some_iff_getElem]
   refine ⟨by simp [hkj],j,hj,rfl,fun i hi => ?_⟩
   have C8:i<es.length:=by omega
   have:¬ kG es[i].1=kG kv:=fun he=>by have:=hu i C8 he;omega
   simpa using this
  ·intro x
   clear hA hmem hes h1 h2 Gx hsz q2 q3 q4 k1 ki
   induction es generalizing j with
   | nil=>simp at hj
   | cons e r ih =>
    unfold aJf;cases j with
    | zero =>
     have:e.1=kv:=hkj;rw [if_pos (by rw [this])];rfl
    | succ j =>
     have hne:¬ kG e.1=kG kv:=fun he=>by have:=hu 0 (by simp) he;omega
     rw [if_neg hne,List.set_cons_succ];rw [ih (List.nodup_cons.1 k3).2 j (by simpa using hj) (by simpa using hkj) (fun i hi he=>by have:=hu (i+1) (by simpa using hi) (by simpa using he);omega)]

structure aRe (P:Program) (C:Cx) (w:World) (kt:Nat) (es:List (Value × PV)) (kv:Value) (arr:Array MapEntry) (cl:Nat) (hit:Bool) (lk:Option PV) (Fa:PV→List (Value × PV)):Prop where
 check:∀ em,(Instr.checkKey em 10000 kt kv).run P w = .ok () w
 stay:(Instr.keyThatStays kv kv).run P w = .ok kv w
 find:(hit=false∧(Instr.findKey kt kv arr.toList).run P w = .ok none w) ∨
  (hit=true∧∃ j e,∃ h:j<es.length,(Instr.findKey kt kv arr.toList).run P w = .ok (some (j,e.val)) w∧arr[j]? = some e∧e.key=kv∧es[j].1=kv∧cS C.F w es[j].2 e.val∧e.born<cl∧lk=some es[j].2∧∀ x,Fa x=es.set j (kv,x))
theorem aRf{q:IntKind}{kt:Nat}(hkt:P.underlying kt=some (.int q)){es:List (Value × PV)}{kv:Value}{arr:Array MapEntry}{cl:Nat}(hK:vP q es kv)(hsz:arr.size=es.length)
  (hA:∀ j (h:j<es.length),∃ e,arr[j]? = some e∧e.key=es[j].1∧e.born<cl∧cS C.F w es[j].2 e.val):aRe P C w kt es kv arr cl (aVk es kv) (bEy es kv) (bEz es kv):=by
 obtain ⟨kk,hkv,hkw⟩:=uA hK.2.1;have hkey:keyOf P kt kv=some (.int q kk):=by rw [hkv];exact keyOf_int_mk hkt hkw
 have K:=int_keyed hkt;refine ⟨fun em=>K.check w em hkey,K.stays w hkey,?_⟩
 rcases bLt hkt hK hsz hA with h | ⟨h0,j,e,hj,f1,f2,f3,f4,f5,f6,f7,f8⟩
 ·exact .inl h
 ·exact .inr ⟨h0,j,e,hj,f1,f2,f3,f4,f5,f6,by unfold bEy;rw [f7],f8⟩
theorem aRg{kt:Nat}{es:List (Value × PV)}{kv:Value}{arr:Array MapEntry}{cl:Nat}(hK:eO P kt es kv)(hsz:arr.size=es.length)
  (hA:∀ j (h:j<es.length),∃ e,arr[j]? = some e∧e.key=es[j].1∧e.born<cl∧cS C.F w es[j].2 e.val):aRe P C w kt es kv arr cl (iB es kv) (gV es kv) (aJf es kv):=by
 obtain ⟨l,hkey⟩:=hK.2.2.1;have K:=hK.1;refine ⟨fun em=>K.check w em hkey,K.stays w hkey,?_⟩
 rcases bLu hK hsz hA with h | ⟨h0,j,e,hj,f1,f2,f3,f4,f5,f6,f7,f8⟩
 ·exact .inl h
 ·exact .inr ⟨h0,j,e,hj,f1,f2,f3,f4,f5,f6,by unfold gV;rw [f7],f8⟩

theorem uB{t kt et:Nat}{KP:Prop}{ak:Ask Unit}{hit:Bool}{lk:Option PV}{es:List (Value × PV)}{Fa:PV→List (Value × PV)}{v:Value}{b cl:Nat}{arr:Array MapEntry}{x:AV}{ok:Bool}{s s':AS}(hu:P.underlying t=some (.map kt et))(hh:w.heap[b]? = some (.map arr cl))
  (hak:∀ {s s':AS} {u:Unit},ak s=some (u,s')→bA s'→KP∧bA s) (hF:KP→aRe P C w kt es v arr cl hit lk Fa) (h:zS P et ok ak hit lk s=some (x,s')) (g:bA s'):bA s∧∃ r,(Instr.lookup t (.map (some b)) v ok).run P w = .ok r w∧Rep C M w x r:=by
 unfold zS at h
 obtain ⟨_,s3,h3,k3⟩:=aC h;obtain ⟨d,s4,h4,k4⟩:=aC k3;cases d with
 | true =>
  obtain ⟨y,s5,h5,k5⟩:=aC k4;obtain ⟨rfl,rfl⟩:=aH k5;obtain ⟨c5,g⟩:=aRp h5 g;obtain ⟨c4,g⟩:=aJw h4 g;obtain ⟨c3,g⟩:=hak h3 g;obtain ⟨hck,_,hf⟩:=hF c3
  rcases hf with ⟨f1,_⟩ | ⟨_,j,e,hj,f1,f2,f3,f4,f5,_,f6,_⟩
  ·rw [c4] at f1;cases f1
  rw [f6] at c5
  obtain rfl:=Option.some.inj c5;have hr:Rep C M w (.p es[j].2) e.val := .p _ _ f5;refine ⟨g,if ok then .tuple #[e.val,.bool true] else e.val,?_,?_⟩
  ·simp [Instr.lookup,run_underlying hu,MapKept.run_getObj_map hh,hck,f1,Result.andThen]
  ·cases ok with
   | false=>exact hr
   | true =>
    exact .tup _ _ rfl fun i hi=>by
     match i,hi with
     | 0,_=>exact hr
     | 1,_=>exact .kb true
 | false =>
  obtain ⟨inf,s5,h5,k5⟩:=aC k4;obtain ⟨e5,rfl⟩:=aE h5;obtain ⟨z,s6,h6,k6⟩:=aC k5;obtain ⟨e6,rfl⟩:=aE h6;obtain ⟨rfl,rfl⟩:=aH k6;obtain ⟨c4,g⟩:=aJw h4 g;obtain ⟨c3,g⟩:=hak h3 g;obtain ⟨hck,_,hf⟩:=hF c3;have hz:(zeroValue et).run P w = .ok z w:=by simp [zeroValue,typeInfo,e5,e6,program,Sem.run]
  rcases hf with ⟨_,f1⟩ | ⟨f1,_⟩
  rotate_left
  ·rw [c4] at f1;cases f1
  have hr:Rep C M w (.p (cv z)) z := .p _ _ (bFl _ _ _);refine ⟨g,if ok then .tuple #[z,.bool false] else z,?_,?_⟩
  ·simp [Instr.lookup,run_underlying hu,MapKept.run_getObj_map hh,hck,f1,hz,Result.andThen]
  ·cases ok with
   | false=>exact hr
   | true =>
    exact .tup _ _ rfl fun i hi=>by
     match i,hi with
     | 0,_=>exact hr
     | 1,_=>exact .kb false
theorem aJj(hT:∀ t i,T t=some i→cM P t=some i)(hM:aX P C M w){t:Nat}{a k x:AV}{ok:Bool}{u v:Value}{s s':AS}(ha:Rep C M w a u)(hk:Rep C M w k v)
  (h:slook P T M t a k ok s=some (x,s')) (g:bA s'):bA s∧∃ r,(Instr.lookup t u v ok).run P w = .ok r w∧Rep C M w x r:=by
 unfold slook at h
 obtain ⟨i,s1,h1,k1⟩:=aC h;obtain ⟨e1,rfl⟩:=aE h1;clear h h1;have hi:=hT _ _ e1;obtain ⟨⟨kt,et⟩,Pk,Da,G8⟩:=aC k1;obtain ⟨hik,rfl⟩:=aE Da;obtain ⟨es,Pl,Ba,Io⟩:=aC G8;obtain ⟨hma,rfl⟩:=aE Ba;obtain ⟨ik,s2,h2,E6⟩:=aC Io;obtain ⟨e2,rfl⟩:=aE h2;dsimp only at E6 e2
 clear k1 Da G8 Ba Io h2;obtain ⟨dm,hu,hum⟩:=eC hi;obtain ⟨dk,hku,hkm⟩:=eC (hT _ _ e2);rw [hum] at hik
 have hum:=aJh hik;dsimp only at hum
 subst hum;obtain ⟨b,arr,cl,rfl,hh,hsz,hA⟩:=bLs hM ha hma;cases Ar:aJe ik.k with
 | some q =>
  rw [Ar] at E6
  dsimp only at E6
  obtain ⟨kv,Mt,Cw,Hy⟩:=aC E6;obtain ⟨hkk,rfl⟩:=aE Cw;obtain rfl:=aDh hkk;rw [hkm] at Ar
  have hkm:=aJi Ar;subst hkm;have hv:v=kv:=by cases hk with | p _ _ h=>cases h;rfl
  subst hv;exact uB hu hh dL (fun c=>aRf hku c hsz hA) Hy g
 | none =>
  rw [Ar] at E6
  dsimp only at E6
  obtain ⟨kv,Mt,Cw,Hy⟩:=aC E6;obtain ⟨hkk,rfl⟩:=aE Cw;obtain rfl:=zT hk hkk;exact uB hu hh bQh (fun c=>aRg c hsz hA) Hy g

theorem kU(w:World)(b:Nat)(o:Obj):But w (setBlock w b o) b:=⟨rfl,rfl,rfl,by simp [setBlock],fun k hk=>by simp [setBlock,Array.getElem?_setIfInBounds_ne (Ne.symm hk)]⟩
theorem xG{w:World}{b:Nat}{o o':Obj}(h:w.heap[b]? = some o'):(setBlock w b o).heap[b]? = some o:=by
 obtain ⟨hb,_⟩:=mF.1 h;simp [setBlock,hb]

theorem xH(hM:aX P C M w){t kt et id:Nat}{KP:Prop}{ak:Ask Unit}{hit:Bool}{lk:Option PV}{es:List (Value × PV)}{Fa:PV→List (Value × PV)}{v y:Value}{b cl:Nat}{arr:Array MapEntry}{x:AV}{L:Upd}{s s':AS}(hu:P.underlying t=some (.map kt et))(hh:w.heap[b]? = some (.map arr cl))
  (hsz:arr.size=es.length) (hA:∀ j (h:j<es.length),∃ e,arr[j]? = some e∧e.key=es[j].1∧e.born<cl∧cS C.F w es[j].2 e.val) (Cs:M[id]? = some (some (.mp es cl))) (hb:C.ι id=some b)
  (hak:∀ {s s':AS} {u:Unit},ak s=some (u,s')→bA s'→KP∧bA s) (hF:KP→aRe P C w kt es v arr cl hit lk Fa) (hx:Rep C M w x y) (h:aJg id cl es v x ak hit Fa s=some (L,s')) (g:bA s'):bA s∧∃ w',(Instr.mapUpdate t (.map (some b)) v y).run P w = .ok () w'∧Fr C M w C (upds M L) w'∧aX P C (upds M L) w':=by
 unfold aJg at h
 obtain ⟨_,s3,h3,k3⟩:=aC h;obtain ⟨z,s4,h4,k4⟩:=aC k3;obtain ⟨e4,rfl⟩:=aE h4;obtain ⟨d,s5,h5,k5⟩:=aC k4;have hz:=bFa hx e4;have hnr:∀ (Fa:List (Value × PV)) (Jy:Nat),∀ ty n cs,AO.mp Fa Jy = .row ty n cs→∃ Bg,AO.mp es cl = .row ty n Bg:=fun _ _ _ _ _ h=>by cases h
 cases d with
 | true =>
  obtain ⟨rfl,rfl⟩:=aH k5;obtain ⟨c5,g⟩:=aJw h5 g;obtain ⟨c3,g⟩:=hak h3 g;obtain ⟨hck,hst,hf⟩:=hF c3
  rcases hf with ⟨f1,_⟩ | ⟨_,j,e,hj,f1,f2,f3,f4,f5,f7,f6,f8⟩
  ·rw [c5] at f1;cases f1
  have hja:j<arr.size:=by omega
  have hmod:∀ i,(arr.modify j fun e=>{ e with key:=v,val:=y })[i]? = if i=j then some { e with key:=v,val:=y } else arr[i]? := fun i=>by
   rw [Array.getElem?_modify]
   by_cases hij:j=i
   ·subst hij;simp [f2]
   ·simp [hij,Ne.symm hij]
  refine ⟨g,setBlock w b (.map (arr.modify j fun e=>{ e with key:=v,val:=y }) cl),?_,aAc Cs rfl hb (kU _ _ _) (hnr _ _),yC hM Cs rfl hb (kU _ _ _) (hnr _ _) (fun _ _ _ h=>by cases h) (fun _ _ h=>by cases h) fun Pm Pn h => ?_⟩
  ·simp [Instr.mapUpdate,run_underlying hu,MapKept.run_getObj_map hh,hck,f1,f2,f3,hst,MapKept.run_setObj_map _ hh,Result.andThen,setBlock]
  ·cases h
   rw [f8];refine ⟨_,xG hh,by simp [hsz],fun i hi => ?_⟩
   rw [aGh] at hi
   obtain ⟨e2,p1,p2,p3,p4⟩:=hA i hi
   by_cases hij:i=j
   ·subst hij
    exact ⟨{ e with key:=v,val:=y },by rw [hmod,if_pos rfl],by simp,f7,by simpa using hz⟩
   ·refine ⟨e2,by rw [hmod,if_neg hij];exact p1,?_,p3,?_⟩
    ·rw [List.getElem_set_ne (Ne.symm hij)];exact p2
    ·rw [List.getElem_set_ne (Ne.symm hij)];exact p4
 | false =>
  obtain ⟨rfl,rfl⟩:=aH k5;obtain ⟨c5,g⟩:=aJw h5 g;obtain ⟨c3,g⟩:=hak h3 g;obtain ⟨hck,hst,hf⟩:=hF c3
  rcases hf with ⟨_,f1⟩ | ⟨f1,_⟩
  rotate_left
  ·rw [c5] at f1;cases f1
  refine ⟨g,setBlock w b (.map (arr.push ⟨v,y,cl⟩) (cl+1)),?_,aAc Cs rfl hb (kU _ _ _) (hnr _ _),yC hM Cs rfl hb (kU _ _ _) (hnr _ _) (fun _ _ _ h=>by cases h) (fun _ _ h=>by cases h) fun Pm Pn h => ?_⟩
  ·simp [Instr.mapUpdate,run_underlying hu,MapKept.run_getObj_map hh,hck,f1,MapKept.run_setObj_map _ hh,Result.andThen,setBlock]
  ·cases h
   refine ⟨_,xG hh,by simp [hsz],fun i hi => ?_⟩
   by_cases hij:i<es.length
   ·obtain ⟨e2,p1,p2,p3,p4⟩:=hA i hij
    refine ⟨e2,?_,?_,by omega,?_⟩
    ·rw [Array.getElem?_push_lt (by omega)]
     obtain ⟨hlt,he⟩:=mF.1 p1;rw [he]
    ·rw [xX hij];exact p2
    ·rw [xX hij];exact p4
   ·have:i=es.length:=by simp at hi;omega
    subst this;refine ⟨⟨v,y,cl⟩,?_,by simp,by simp,by simpa using hz⟩
    rw [← hsz];simp
theorem aNh(hT:∀ t i,T t=some i→cM P t=some i)(hM:aX P C M w){t:Nat}{a k x:AV}{u v y:Value}{L:Upd}{s s':AS}(ha:Rep C M w a u)(hk:Rep C M w k v)(hx:Rep C M w x y)
  (h:sput P T M t a k x s=some (L,s')) (g:bA s'):bA s∧∃ w',(Instr.mapUpdate t u v y).run P w = .ok () w'∧Fr C M w C (upds M L) w'∧aX P C (upds M L) w':=by
 unfold sput at h
 obtain ⟨i,s1,h1,k1⟩:=aC h;obtain ⟨e1,rfl⟩:=aE h1;clear h h1;have hi:=hT _ _ e1;obtain ⟨⟨kt,et⟩,Pk,Da,G8⟩:=aC k1;obtain ⟨hik,rfl⟩:=aE Da;obtain ⟨⟨id,es,cl⟩,Pl,Ba,Io⟩:=aC G8;obtain ⟨hma,rfl⟩:=aE Ba;obtain ⟨ik,s2,h2,E6⟩:=aC Io;obtain ⟨e2,rfl⟩:=aE h2;obtain ⟨rfl,ho⟩:=aDg hma;dsimp only at ho E6 e2
 clear k1 Da G8 Ba Io h2 hma;obtain ⟨dm,hu,hum⟩:=eC hi;obtain ⟨dk,hku,hkm⟩:=eC (hT _ _ e2);rw [hum] at hik
 have hum:=aJh hik;dsimp only at hum
 subst hum;obtain ⟨b,arr,rfl,hb,hh,hsz,hA⟩:=aFs hM ha ho;have Cs:=dU ho;cases Ar:aJe ik.k with
 | some q =>
  rw [Ar] at E6
  dsimp only at E6
  obtain ⟨kv,Mt,Cw,Hy⟩:=aC E6;obtain ⟨hkk,rfl⟩:=aE Cw;obtain rfl:=aDh hkk;rw [hkm] at Ar
  have hkm:=aJi Ar;subst hkm;have hv:v=kv:=by cases hk with | p _ _ h=>cases h;rfl
  subst hv;exact xH hM hu hh hsz hA Cs hb dL (fun c=>aRf hku c hsz hA) hx Hy g
 | none =>
  rw [Ar] at E6
  dsimp only at E6
  obtain ⟨kv,Mt,Cw,Hy⟩:=aC E6;obtain ⟨hkk,rfl⟩:=aE Cw;obtain rfl:=zT hk hkk;exact xH hM hu hh hsz hA Cs hb bQh (fun c=>aRg c hsz hA) hx Hy g
end
section
variable {P:Program} {T:TT} {C:Cx} {M:Mem} {w:World}

def dI(b:UInt8):PV := .v (.int .u8 (b.toNat:Int))
def cCj:PV→Option Int
 | .v (.int .u8 n)=>some n
 | _=>none
def aRb:List PV→Option (List Int)
 | []=>some []
 | x::r=>match cCj x,aRb r with
  | some n,some l=>some (n::l)
  | _,_=>none
def u8T(T:TT)(t:Nat):Bool:=match lD T t with
 | some (_,i)=>match i.k with
  | .int .u8=>true
  | _=>false
 | none=>false
def aIy(T:TT)(t:Nat):Bool:=match T t with
 | some i=>match i.k with
  | .str=>true
  | _=>false
 | none=>false
def tZ(x:AV):Ask AV:=match x with
 | .p (.v (.string s))=>do
  eM (s.data.toList.length≤1000000000)
  pure (.p (.sl s.data.toList.length (s.data.toList.map dI)))
 | _=>fail
def aIz(m:Mem)(x:AV):Ask AV:=do
 let sy ← lift (pU m 1 x)
 eM (sy.2.length=sy.1*1)
 let l ← lift (aRb sy.2)
 pure (.p (.v (.string ⟨(l.map fun n=>UInt8.ofNat n.toNat).toArray⟩)))
def xF(T:TT)(m:Mem)(src dst:Nat)(x:AV):Ask AV:=match aIy T src,u8T T dst with
 | true,true=>tZ x
 | _,_=>match u8T T src,aIy T dst with
  | true,true=>aIz m x
  | _,_=>vconv T src dst x

theorem aJa(hT:∀ t i,T t=some i→cM P t=some i){t:Nat}(h:aIy T t=true):P.underlying t=some .string:=by
 unfold aIy at h
 split at h
 ·rename_i i hi
  split at h
  ·rename_i hk
   obtain ⟨d,hd,Cv⟩:=eC (hT _ _ hi);rw [hk] at Cv
   rw [aAi Cv.symm] at hd
   exact hd
  ·cases h
 ·cases h
theorem aRc(hT:∀ t i,T t=some i→cM P t=some i){t:Nat}(h:u8T T t=true):∃ e,P.underlying t=some (.slice e)∧P.underlying e=some (.int .u8):=by
 unfold u8T at h
 split at h
 ·rename_i e i hi
  split at h
  ·rename_i hk
   obtain ⟨h1,h2⟩:=jD hT hi;obtain ⟨d,hd,Cv⟩:=eC h2;dsimp only at Cv
   rw [hk] at Cv
   rw [aGf Cv.symm] at hd
   exact ⟨e,h1,hd⟩
  ·cases h
 ·cases h
theorem bEx(hM:aX P C M w){w':World}(hs:w'.heap.size=w.heap.size+1)(hh:∀ b,b<w.heap.size→w'.heap[b]? = w.heap[b]?)(ho:w'.os=w.os)(ht:w'.tape=w.tape)(hu:w'.output=w.output) :
  ∃ C',C'.F=(fun b=>C.F b∨b=w.heap.size)∧Fr C M w C' M w'∧aX P C' M w':=by
 let C':Cx:=⟨C.ι,C.κ,fun b=>C.F b∨b=w.heap.size,C.R⟩
 have hL:Le C C' M M w w':=⟨fun _ o h=>⟨o,h⟩,fun _ _ _ _ _ cs h=>⟨cs,h⟩,fun _ o h o' h' hl=>by rw [h] at h';cases h';exact ⟨hl,rfl,rfl⟩,fun _ h => .inl h,fun b hb=>hh b (hM.Fs b hb)⟩
 refine ⟨C',rfl,⟨ho,ht,hu,by omega,fun b hb _=>hh b hb,fun i o h=>⟨⟨o,h⟩,rfl,rfl⟩,fun _ _ _ _ _ cs h=>⟨cs,h⟩,fun _ o h o' h' hl=>by rw [h] at h';cases h';exact hl,fun i o b h hl hb => .inr ⟨i,o,h,hl,hb⟩,fun _ h => .inl h,fun b h=>by
  rcases h with h | rfl
  ·exact .inl h
  ·exact .inr (.inl (dD _))⟩,
  ⟨fun i ty n cs hm => ?_,fun i ty cs hm => ?_,fun i es cl hm => ?_,hM.inj,fun i o b h hl hb hF => ?_,fun b hb => ?_,fun i o b h hl hb=>by have:=hM.lt i o b h hl hb;omega,hM.lib.le hL⟩⟩
 ·rcases hM.row _ _ _ _ hm with h4 | ⟨b,arr,inf,q0,q1,q2,q3,q4,q5,q6,q7,q8⟩
  ·exact .inl h4
  ·exact .inr ⟨b,arr,inf,q0,(hh b (mF.1 q1).1).trans q1,q2,q3,q4,q5,q6,fun j hj=>(q7 j hj).mono hL.F hL.fz,q8⟩
 ·obtain ⟨b,arr,q0,q1,q2,q3,q4⟩:=hM.box _ _ _ hm
  exact ⟨b,arr,q0,(hh b (mF.1 q1).1).trans q1,q2,fun j hj=>(q3 j hj).mono hL,q4⟩
 ·obtain ⟨b,arr,q0,q1,q2,q3⟩:=hM.mp _ _ _ hm
  refine ⟨b,arr,q0,(hh b (mF.1 q1).1).trans q1,q2,fun j hj => ?_⟩
  obtain ⟨en,r1,r2,r3,r4⟩:=q3 j hj;exact ⟨en,r1,r2,r3,r4.mono hL.F hL.fz⟩
 ·rcases hF with hF | rfl
  ·exact hM.nF i o b h hl hb hF
  ·have:=hM.lt i o _ h hl hb;omega
 ·rcases hb with hb | rfl
  ·have:=hM.Fs b hb;omega
  ·omega
theorem aCb(hT:∀ t i,T t=some i→cM P t=some i)(hM:aX P C M w){src dst:Nat}{a x:AV}{u:Value}{s s':AS}(h1:aIy T src=true)(h2:u8T T dst=true)(ha:Rep C M w a u)(h:tZ a s=some (x,s'))(g:bA s') :
  bA s∧Out P C M w x M ((Go.convert src dst u).run P w):=by
 unfold tZ at h
 split at h
 ·rename_i str
  obtain ⟨_,s1,h3,k3⟩:=aC h;obtain ⟨rfl,rfl⟩:=aH k3;obtain ⟨hl,g⟩:=dL h3 g;refine ⟨g,?_⟩;cases ha with | p _ _ ha=>cases ha with | v _ =>
  obtain ⟨e,hd,he⟩:=aRc hT h2;have hrun:=Lib.run_convert_string_bytes w src dst e str (aJa hT h1) hd he;obtain ⟨C',hF,hFr,Ej⟩:=bEx hM (w':=Lib.bytesWorld w e str) (Lib.bytesWorld_size w e str) (fun b hb=>Lib.bytesWorld_at_old w e str b hb) (by simp [Lib.bytesWorld,World.freeze,World.alloc,World.drew,-World.alloc_eq,-World.drew_eq]) (by simp [Lib.bytesWorld,World.freeze,World.alloc,World.drew,-World.alloc_eq,-World.drew_eq]) (by simp [Lib.bytesWorld,World.freeze,World.alloc,World.drew,-World.alloc_eq,-World.drew_eq])
  refine ⟨C',_,_,hrun,hFr,Ej,.p _ _ ?_⟩;rw [← Lib.size_eq] at hl ⊢
  refine .sl _ _ _ _ (fun i => .int .u8 (str.data.toList.getD i 0).toNat) (grownCap_ge w _ _ _) (grownCap_le_maxLen w _ _ _ (by unfold maxLen;omega)) (fun i hi=>⟨w.heap.size,0,rfl,?_,?_⟩) (fun i hi => ?_) (fun i hi=>rfl)
  ·rw [hF];exact .inr rfl
  ·rw [iP]
   exact Lib.bytesWorld_cell w e str i (by rw [Lib.size_eq];simpa using hi)
  ·rw [gL]
   have:str.data.toList.getD i 0=str.data.toList[i]'(by simpa using hi):=by rw [uP,Bw (by simpa using hi)];rfl
   rw [this];exact .v _
 ·exact (aU h).elim
theorem aJb:∀ {cs:List PV} {l:List Int},aRb cs=some l→l.length=cs.length∧∀ i (h:i<cs.length) (h':i<l.length),cs[i] = .v (.int .u8 l[i])
 | [],l,h=>by cases h;exact ⟨rfl,fun i h=>by simp at h⟩
 | x::r,l,h=>by
  unfold aRb at h
  split at h
  ·rename_i n l' h1 h2
   cases h;obtain ⟨e,q⟩:=aJb h2;refine ⟨by simp [e],fun i hi C8 => ?_⟩
   cases i with
   | zero =>
    unfold cCj at h1
    split at h1
    ·cases h1;rfl
    ·cases h1
   | succ i=>exact q i (by simpa using hi) (by simpa using C8)
  ·cases h
theorem aJc(hT:∀ t i,T t=some i→cM P t=some i)(hM:aX P C M w){src dst:Nat}{a x:AV}{u:Value}{s s':AS}(h1:u8T T src=true)(h2:aIy T dst=true)(ha:Rep C M w a u)(h:aIz M a s=some (x,s'))(g:bA s') :
  bA s∧Out P C M w x M ((Go.convert src dst u).run P w):=by
 unfold aIz at h
 obtain ⟨sy,s1,h3,k3⟩:=aC h;obtain ⟨e3,rfl⟩:=aE h3;obtain ⟨_,s2,h4,k4⟩:=aC k3;obtain ⟨l,s3,h5,k5⟩:=aC k4;obtain ⟨e5,rfl⟩:=aE h5;obtain ⟨rfl,rfl⟩:=aH k5;obtain ⟨hl,g⟩:=dL h4 g;refine ⟨g,?_⟩;obtain ⟨e,hd,he⟩:=aRc hT h1;have hs:=aJa hT h2;obtain ⟨p,cap,us,hS⟩:=lU hM (n:=sy.1) (cs:=sy.2) ha e3 hl;obtain rfl:=hS.eq;obtain ⟨hll,hat⟩:=aJb e5;rw [Nat.mul_one] at hl
 have hu:∀ i (hi:i<l.length),us i = .int .u8 l[i]:=fun i hi=>by
  have:=hS.rep i (by omega)
  rw [hat i (by omega) hi] at this
  exact bSv this
 cases p with
 | none =>
  have:l=[]:=by
   rcases Nat.eq_zero_or_pos l.length with h | h
   ·exact uO h
   ·obtain ⟨b,o,hb,_⟩:=hS.at_ 0 (by omega)
    cases hb
  subst this;exact ⟨C,w,_,run_convert_bytes_nil w src e hd he _ _ dst hs,Fr.refl ..,hM,.p _ _ (.v _)⟩
 | some a =>
  have hlo:(loadCells a sy.1).run P w = .ok (l.map (Value.int .u8)).toArray w:=by
   have:=run_loadCells_list (P:=P) w a (l.map (Value.int .u8)) (fun j v hj=>by
    obtain ⟨hi,rfl⟩:=Ci.1 hj;rw [kI] at hi
    obtain ⟨b,o,hb,hc⟩:=hS.at_ j (by omega)
    cases hb;rw [Addr.add_lit,hc,hu j hi,gL])
   rw [kI] at this
   rw [show sy.1=l.length by omega]
   exact this
  refine ⟨C,w,_,?_,Fr.refl ..,hM,.p _ _ (.v _)⟩;rw [run_convert_bytes_string w src dst e _ _ cap hd he hs,run_bytesToString w _ _ cap l hlo,foldl_push_bytes];simp [ByteArray.empty,ByteArray.emptyWithCapacity];rfl
theorem aJd(hT:∀ t i,T t=some i→cM P t=some i)(hM:aX P C M w){src dst:Nat}{a x:AV}{u:Value}{s s':AS}(ha:Rep C M w a u)(h:xF T M src dst a s=some (x,s'))(g:bA s') :
  bA s∧Out P C M w x M ((Go.convert src dst u).run P w):=by
 unfold xF at h
 generalize hb:aIy T src=b1 at h
 generalize hc:u8T T dst=b2 at h
 generalize hd:u8T T src=b3 at h
 generalize he:aIy T dst=b4 at h
 have hv:vconv T src dst a s=some (x,s')→bA s∧Out P C M w x M ((Go.convert src dst u).run P w):=fun h=>by
  obtain ⟨g,r,h1,h2⟩:=aJu (P:=P) (w:=w) hT ha h g;exact ⟨g,C,w,r,h1,Fr.refl ..,hM,h2⟩
 cases b1 <;> cases b2
 case true.true=>exact aCb hT hM hb hc ha h g
 all_goals
  cases b3 <;> cases b4
  case true.true=>exact aJc hT hM hd he ha h g
  all_goals exact hv h
end
section

inductive cT (C:Cx) (M:Mem) (w:World):List AV→List Value→Prop
 | nil:cT C M w [] []
 | cons (x:AV) (u:Value) (l:List AV) (k:List Value) (h:Rep C M w x u) (hr:cT C M w l k):cT C M w (x::l) (u::k)

theorem cT.app{C:Cx}{M:Mem}{w:World}:∀ {l l':List AV} {k k':List Value},cT C M w l k→cT C M w l' k'→cT C M w (l++l') (k++k')
 | _,_,_,_,.nil,h=>h
 | _,_,_,_,.cons _ _ _ _ hx hr,h => .cons _ _ _ _ hx (hr.app h)
theorem cT.len{C:Cx}{M:Mem}{w:World}:∀ {l:List AV} {k:List Value},cT C M w l k→k.length=l.length
 | _,_,.nil=>rfl
 | _,_,.cons _ _ _ _ _ hr=>by simp [hr.len]
theorem cT.at{C:Cx}{M:Mem}{w:World}:∀ {l:List AV} {k:List Value},cT C M w l k→∀ i (h:i<l.length),Rep C M w l[i] (k.getD i undef)
 | _,_,.nil,i,h=>by simp at h
 | _,_,.cons _ _ _ _ hx hr,i,h=>by
  cases i with
  | zero=>exact hx
  | succ i=>exact hr.at i (by simpa using h)
theorem cT.of{C:Cx}{M:Mem}{w:World}:∀ {l:List AV} {us:Nat→Value},(∀ i (h:i<l.length),Rep C M w l[i] (us i))→cT C M w l ((List.range l.length).map us)
 | [],_,_ => .nil
 | x::l,us,h=>by
  rw [Cb,List.range_succ_eq_map,gS,aAk];exact .cons _ _ _ _ (h 0 (by simp)) (cT.of (us:=us ∘ Nat.succ) fun i hi=>h (i+1) (by simpa using hi))
theorem cT.ofArr{C:Cx}{M:Mem}{w:World}{l:List AV}{us:Array Value}(hs:us.size=l.length)(h:∀ i (h:i<l.length),Rep C M w l[i] (us.getD i undef)):cT C M w l us.toList:=by
 have:=cT.of h;have e:(List.range l.length).map (fun i=>us.getD i undef)=us.toList:=by
  apply List.ext_getElem
  ·simp [hs]
  ·intro i h1 h2
   simp at h1
   simp [Bu,hs,h1]
 rwa [e] at this

def FM(P:Program)(f:Nat)(args:List AV)(M:Mem)(r:AV)(L:Upd):Prop :=
 ∀ (C:Cx) (w:World) (us:List Value),cT C M w args us→aX P C M w→∀ n,CallsIn Fence.wide n P f us.toArray w (fun e w'=>∃ u,e = .returned u∧∃ C',Fr C M w C' (upds M L) w'∧aX P C' (upds M L) w'∧Rep C' (upds M L) w' r u)

structure Env where
 ev:Nat→List AV→Mem→Nat→Option (AV × Upd)
 ok:Nat→Bool

mutual
def rfs:AV→List Nat
 | .own id=>[id]
 | .arr id _ _=>[id]
 | .ptr id _=>[id]
 | .mp id=>[id]
 | .pa id _=>[id]
 | .agg l=>sX l
 | .tup l=>sX l
 | .fn _ a b=>sX a++sX b
 | _=>[]
def sX:List AV→List Nat
 | []=>[]
 | x::r=>rfs x++sX r
end
def blocks(m:Mem):List Nat→List (Nat × AO)
 | []=>[]
 | i::r=>match bU m i with
  | some o=>(i,o)::blocks m r
  | none=>blocks m r
theorem vN{m:Mem}:∀ (l:List Nat),∀ p∈blocks m l,bU m p.1=some p.2
 | [],p,h=>by simp [blocks] at h
 | i::r,p,h=>by
  unfold blocks at h
  split at h
  ·rename_i o ho
   rcases jU.1 h with rfl | h
   ·exact ho
   ·exact vN r p h
  ·exact vN r p h

def inN(a:Nat):List Nat→Bool
 | []=>false
 | b::r=>match Nat.beq a b with
  | true=>true
  | false=>inN a r
def ddN:List Nat→List Nat→List Nat
 | acc,[]=>acc
 | acc,a::r=>match inN a acc with
  | true=>ddN acc r
  | false=>ddN (acc++[a]) r
def aDe(m:Mem)(l:List Nat):List Nat:=l.flatMap fun i=>match bU m i with
 | some (.box _ cs)=>sX cs
 | _=>[]
def zQ(m:Mem):Nat→List Nat→List Nat
 | 0,l=>l
 | n+1,l=>zQ m n (ddN l (aDe m l))
def clos(m:Mem)(l:List Nat):List Nat:=zQ m 4 (ddN [] l)
def tX(m:Mem)(id:Nat):Nat→Bool
 | 0=>true
 | n+1=>match fG m (id+n) with
  | true=>tX m id n
  | false=>false
theorem vO{m:Mem}{id:Nat}:∀ {n:Nat},tX m id n=true→∀ j,j<n→fG m (id+j)=true
 | 0,_,j,hj=>absurd hj (bMe _)
 | n+1,h,j,hj=>by
  unfold tX at h
  split at h
  ·rename_i h1
   rcases Nat.lt_or_ge j n with h2 | h2
   ·exact vO h j h2
   ·obtain rfl:j=n:=by omega
    exact h1
  ·cases h

def FC(P:Program)(f:Nat)(args:List AV)(bs:List (Nat × AO))(base:Nat)(r:AV)(L:Upd):Prop:=∀ M:Mem,(∀ p∈bs,bU M p.1=some p.2)→fG M base=true→(∀ j,j<8→fG M (base+j)=true)→FM P f args M r L

def aIw(P:Program)(E:Env)(f:Nat)(args:List AV)(m:Mem)(id:Nat):Ask (AV × Upd):=fun s=>match s.auto with
 | true=>match E.ev f args m id with
  | some x=>some (x,s)
  | none=>none
 | false=>match s.o with
  | .c r L::o=>match tX m id 8 with
   | true=>some ((r,L),{ s with o:=o,obs:=FC P f args (blocks m (clos m (sX args))) id r L::s.obs })
   | false=>none
  | _=>none

structure oU (P:Program) (E:Env):Prop where
 ev:∀ f args M id r L,E.ev f args M id=some (r,L)→FM P f args M r L
 ok:∀ f,E.ok f=true→∀ args w,(callFunc f args).run P w = .ok (.enter f args) w

theorem cCi{P:Program}{E:Env}(hE:oU P E){f:Nat}{args:List AV}{m:Mem}{id:Nat}{x:AV × Upd}{s s':AS}(h:aIw P E f args m id s=some (x,s'))(g:bA s'):FM P f args m x.1 x.2∧bA s:=by
 unfold aIw at h
 cases ha:s.auto with
 | true =>
  rw [ha] at h
  dsimp only at h
  split at h
  ·rename_i y hy
   cases h;exact ⟨hE.ev _ _ _ _ _ _ hy,g⟩
  ·cases h
 | false =>
  rw [ha] at h
  dsimp only at h
  split at h
  ·split at h
   ·rename_i hb
    cases h;obtain ⟨h1,h2⟩:=g.tail;exact ⟨h1 m (vN _) (vO hb 0 (by omega)) (vO hb),h2⟩
   ·cases h
  ·cases h

abbrev Res:=Ask (AV × Upd)
def val(a:Ask AV):Res:=do let x ← a;pure (x,[])
def J0(vs:List AV)(f:Res):Res:=match vs with | []=>f | _=>fail
def Ew(vs:List AV)(f:AV→Res):Res:=match vs with | [x]=>f x | _=>fail
def Fb(vs:List AV)(f:AV→AV→Res):Res:=match vs with | [x,y]=>f x y | _=>fail
def Hw(vs:List AV)(f:AV→AV→AV→Res):Res:=match vs with | [x,y,z]=>f x y z | _=>fail

def aIx(T:TT)(m:Mem)(op:BinOp)(t:Nat)(a b:AV):Ask AV :=
 match bQi b with
 | true=>pT T m op t a b
 | false=>match a,b with
  | .p (.agg _),.p (.agg _)=>veq T op t a b
  | _,_=>bLz T op t a b
def cUn(op:UnOp)(x:AV):Ask AV:=match op,x with
 | .not,.kb b=>pure (.kb (!b))
 | _,_=>vun op x
def mX(T:TT)(m:Mem)(id:Nat)(b:Go.Builtin)(ts:Array TypeId)(vs:List AV):Res:=match b with
 | .len=>Ew vs fun x=>do let t ← lift ts[0]?;val (vlen T m t x)
 | .append=>Fb vs fun x y=>match ts.toList with
  | [t,t2]=>sappend T m id t t2 x y
  | _=>fail
 | .copy=>Fb vs fun x y=>match ts.toList with
  | [t,_]=>scopy T m t x y
  | _=>fail
 | .clear=>Ew vs fun x=>match ts.toList with
  | [t]=>sclear T m t x
  | _=>fail
 | .max=>val (vminmax true vs)
 | .min=>val (vminmax false vs)
 | _=>fail
def fnH:List AV→List AV
 | .p (.fn f a b)::r => .fn f (a.map .p) (b.map .p)::r
 | l=>l
theorem bLp{C:Cx}{M:Mem}{w:World}{vs:List AV}{us:List Value}(h:cT C M w vs us):cT C M w (fnH vs) us:=by
 unfold fnH
 split
 ·cases h with
  | cons _ _ _ _ h2 hr =>
   cases h2 with
   | p _ _ h3 =>
    cases h3 with
    | fn _ _ _ us vs h1 h2 h4 h5 =>
     refine .cons _ _ _ _ (.fn _ _ _ us vs (by simpa using h1) (by simpa using h2) (fun i hi => ?_) (fun i hi => ?_)) hr
     ·simp only [gL];exact .p _ _ (h4 i (by simpa using hi))
     ·simp only [gL];exact .p _ _ (h5 i (by simpa using hi))
 ·exact h
def xE(P:Program)(E:Env)(m:Mem)(id:Nat)(vs:List AV):Res:=match fnH vs with
 | .fn f first caps::args=>do
  lift (if E.ok f then some () else none)
  aIw P E f (first++args++caps) m id
 | _=>fail

def tY:AV→AV
 | .p (.rp cs off) => .rp cs off
 | x=>x
theorem pQ{C:Cx}{M:Mem}{w:World}{x:AV}{u:Value}(h:Rep C M w x u):Rep C M w (tY x) u:=by
 unfold tY
 split
 ·cases h with
  | p _ _ h =>
   cases h with
   | rp _ _ b o us h1 h2 h3=>exact .rp _ _ b o us h1 h2 h3
 ·exact h
def bEw(T:TT)(t:Nat)(x:AV):AV:=match T t with
 | some i=>match i.k with
  | .ptr _=>tY x
  | _=>x
 | none=>x
theorem aVj{T:TT}{t:Nat}{C:Cx}{M:Mem}{w:World}{x:AV}{u:Value}(h:Rep C M w x u):Rep C M w (bEw T t x) u:=by
 unfold bEw
 split
 ·split
  ·exact pQ h
  ·exact h
 ·exact h
def core(P:Program)(T:TT)(E:Env)(o:Oper)(vs:List AV)(m:Mem)(id:Nat):Res:=match o.op with
 | .move _ | .assign _=>Ew vs fun x=>pure (x,[])
 | .pick _ _ _=>Hw vs fun c a b=>do let d ← aNs c;pure (if d then a else b,[])
 | .alloc t=>J0 vs (salloc T m id t)
 | .box t _=>Ew vs (sbox T m id t)
 | .build t ps=>val (vbuild T t ((ps.toList.map (·.1)).zip vs))
 | .buildSlice t len ps=>nZ T m id t len ((ps.toList.map (·.1)).zip vs)
 | .load t _=>Ew vs fun a=>val (do let x ← vload T m t (tY a);pure (bEw T t x))
 | .store t _ _=>Fb vs fun a x=>do let L ← lR T m t a x;pure (.any,L)
 | .nilCheck _=>Ew vs fun x=>match tY x with
  | .ptr id off=>do lift (if dX m id then some () else none);pure (.ptr id off,[])
  | .rp cs off=>pure (.rp cs off,[])
  | _=>fail
 | .binOp op t _ _ _=>Fb vs fun a b=>val (aIx T m op t a b)
 | .unOp op _ _=>Ew vs fun x=>val (cUn op x)
 | .convert src dst _=>Ew vs fun x=>val (xF T m src dst x)
 | .makeFunc fn first _=>match fn with
  | .func f=>pure (.fn f (vs.take first.size) (vs.drop first.size),[])
  | _=>fail
 | .makeMap _ r=>match r with
  | none=>J0 vs (smap m id)
  | some _=>fail
 | .lookup t _ _ ok=>Fb vs fun x k=>val (slook P T m t x k ok)
 | .mapUpdate t _ _ _=>Hw vs fun a k x=>do let L ← sput P T m t a k x;pure (.any,L)
 | .makeSlice t _ _=>Fb vs fun l c=>smake T m id t l c
 | .slice t _ lo hi mx=>match mx with
  | none=>match lo with
   | none=>match hi with
    | none=>Ew vs fun x=>val (vslice T m t x none none)
    | some _=>Fb vs fun x h=>val (vslice T m t x none (some h))
   | some _=>match hi with
    | none=>Fb vs fun x l=>val (vslice T m t x (some l) none)
    | some _=>Hw vs fun x l h=>val (vslice T m t x (some l) (some h))
  | _=>fail
 | .fieldAddr t _ f=>Ew vs fun x=>val (oG T m t (tY x) f)
 | .field t _ f=>Ew vs fun x=>val (vfield T t x f)
 | .indexAddr t _ _=>Fb vs fun x i=>val (eQ T m t (tY x) i)
 | .index t _ _=>Fb vs fun x i=>val (vindex T t x i)
 | .extract _ ix=>Ew vs fun x=>val (vext x ix)
 | .call c=>match c.callee with
  | .builtin b=>mX T m id b c.argTypes vs
  | .value _=>xE P E m id vs
  | _=>fail
 | _=>fail
end
section
variable {P:Program} {T:TT} {E:Env} {C:Cx} {M:Mem} {w:World}

def bEv(P:Program)(C:Cx)(M:Mem)(w:World)(x:AV)(M':Mem):Result Next→Prop
 | .ok (.value u) w'=>∃ C',Fr C M w C' M' w'∧aX P C' M' w'∧Rep C' M' w' x u
 | .ok .skip w'=>x = .any∧∃ C',Fr C M w C' M' w'∧aX P C' M' w'
 | .ok (.enter f us) w'=>w'=w∧∀ n,CallsIn Fence.wide n P f us w (fun e I3=>∃ u,e = .returned u∧∃ C',Fr C M w C' M' I3∧aX P C' M' I3∧Rep C' M' I3 x u)
 | _=>False

theorem dO(hM:aX P C M w){m:Sem Value}{x:AV}{r:Value}(h:m.run P w = .ok r w)(hr:Rep C M w x r):bEv P C M w x (upds M []) ((do pure (Next.value (← m)):Sem Next).run P w):=by
 rw [Sem.run_bind,h,Result.andThen_ok,Sem.run_pure];exact ⟨C,Fr.refl ..,hM,hr⟩
theorem nW{m:Sem Value}{x:AV}{M':Mem}(h:Out P C M w x M' (m.run P w)):bEv P C M w x M' ((do pure (Next.value (← m)):Sem Next).run P w):=by
 obtain ⟨C',w',u,h1,h2,h3,h4⟩:=h;rw [Sem.run_bind,h1,Result.andThen_ok,Sem.run_pure];exact ⟨C',h2,h3,h4⟩

theorem eB{a:Ask AV}{x:AV}{L:Upd}{s s':AS}(h:val a s=some ((x,L),s')):L=[]∧a s=some (x,s'):=by
 unfold val at h
 obtain ⟨y,s1,h1,k1⟩:=aC h;obtain ⟨he,rfl⟩:=aH k1;cases he;exact ⟨rfl,h1⟩
theorem fP{vs:List AV}{f:AV→Res}{r:AV × Upd}{s s':AS}(h:Ew vs f s=some (r,s')):∃ x,vs=[x]∧f x s=some (r,s'):=by
 unfold Ew at h;split at h
 ·exact ⟨_,rfl,h⟩
 ·exact (aU h).elim
theorem jP{vs:List AV}{f:AV→AV→Res}{r:AV × Upd}{s s':AS}(h:Fb vs f s=some (r,s')):∃ x y,vs=[x,y]∧f x y s=some (r,s'):=by
 unfold Fb at h;split at h
 ·exact ⟨_,_,rfl,h⟩
 ·exact (aU h).elim
theorem aFq{vs:List AV}{f:AV→AV→AV→Res}{r:AV × Upd}{s s':AS}(h:Hw vs f s=some (r,s')):∃ x y z,vs=[x,y,z]∧f x y z s=some (r,s'):=by
 unfold Hw at h;split at h
 ·exact ⟨_,_,_,rfl,h⟩
 ·exact (aU h).elim
theorem aRa{vs:List AV}{f:Res}{r:AV × Upd}{s s':AS}(h:J0 vs f s=some (r,s')):vs=[]∧f s=some (r,s'):=by
 unfold J0 at h;split at h
 ·exact ⟨rfl,h⟩
 ·exact (aU h).elim

theorem cT.one{x:AV}{u:Value}(h:cT C M w [x] [u]):Rep C M w x u:=by cases h;assumption
theorem cT.two{x y:AV}{u v:Value}(h:cT C M w [x,y] [u,v]):Rep C M w x u∧Rep C M w y v:=by
 cases h with | cons _ _ _ _ h1 h2=>exact ⟨h1,h2.one⟩
theorem cT.three{x y z:AV}{u v t:Value}(h:cT C M w [x,y,z] [u,v,t]):Rep C M w x u∧Rep C M w y v∧Rep C M w z t:=by
 cases h with | cons _ _ _ _ h1 h2=>exact ⟨h1,h2.two⟩

theorem cT.split{l:List AV}:∀ {k k':List Value},cT C M w l (k++k')→cT C M w (l.take k.length) k∧cT C M w (l.drop k.length) k':=by
 intro k
 induction k generalizing l with
 | nil=>intro k' h;exact ⟨.nil,h⟩
 | cons u k ih =>
  intro k' h;cases h with
  | cons x _ l' _ hx hr =>
   obtain ⟨h1,h2⟩:=ih hr;exact ⟨.cons _ _ _ _ hx h1,h2⟩

theorem cT.parts:∀ {ps:List (Nat × Operand)} {l:List AV} {ρ:Operand→Value},cT C M w l (ps.map fun p=>ρ p.2)→eF C M w ((ps.map (·.1)).zip l) (ps.map fun p=>(p.1,ρ p.2))
 | [],_,_,.nil => .nil
 | (i,x)::ps,_,ρ,.cons y _ l _ h hr => .cons i y _ _ _ h (cT.parts (ps:=ps) (ρ:=ρ) hr)

theorem aNe(hT:∀ t i,T t=some i→cM P t=some i){op:BinOp}{t:Nat}{a b x:AV}{u v:Value}{o1 o2:Operand}{s s':AS}(ha:Rep C M w a u)(hb:Rep C M w b v)(h:aIx T M op t a b s=some (x,s'))(g:bA s') :
  bA s∧∃ r,(do eqGuard op t o1 o2 u v;Go.binOp op t u v:Sem Value).run P w = .ok r w∧Rep C M w x r:=by
 unfold aIx at h
 generalize bQi b=q at h
 split at h
 ·obtain ⟨g,r,h1,h2,h3,h4⟩:=aFu hT ha hb h g
  exact ⟨g,r,by rw [Sem.run_bind,uN h3 h4,Result.andThen_ok,h1],h2⟩
 ·split at h
  ·obtain ⟨g,hg,r,h1,h2⟩:=aVm hT (o1:=o1) (o2:=o2) ha hb h g
   exact ⟨g,r,by rw [Sem.run_bind,hg,Result.andThen_ok,h1],h2⟩
  ·obtain ⟨g,r,h1,h2,h3,h4⟩:=aNu hT ha hb h g
   exact ⟨g,r,by rw [Sem.run_bind,uN h3 h4,Result.andThen_ok,h1],h2⟩

theorem aVi{op:UnOp}{a x:AV}{u:Value}{s s':AS}(ha:Rep C M w a u)(h:cUn op a s=some (x,s'))(g:bA s'):bA s∧∃ r,(Op.unary op u).run P w = .ok r w∧Rep C M w x r:=by
 unfold cUn at h
 split at h
 ·obtain ⟨rfl,rfl⟩:=aH h
  cases ha;exact ⟨g,_,rfl,.kb _⟩
 ·exact aVp ha h g

theorem aIv(hE:oU P E){id:Nat}{vs:List AV}{us:List Value}{u:Value}{x:AV}{L:Upd}{s s':AS}(hM:aX P C M w)(hv:cT C M w vs (u::us))(h:xE P E M id vs s=some ((x,L),s'))(g:bA s') :
  bA s∧bEv P C M w x (upds M L) ((do let d ← Deferred.ofValue u us.toArray;invoke d.target d.args:Sem Next).run P w):=by
 unfold xE at h
 replace hv:=bLp hv
 generalize fnH vs=O9 at h hv
 split at h
 ·rename_i f first caps args
  obtain ⟨_,s1,h1,k1⟩:=aC h;obtain ⟨e1,rfl⟩:=aE h1;obtain ⟨hok,_⟩:=bX e1;obtain ⟨hF,g⟩:=cCi hE k1 g;refine ⟨g,?_⟩;cases hv with
  | cons _ _ _ _ h2 hr =>
   cases h2 with
   | fn _ _ _ Mq Mr q1 q2 q3 q4 =>
    rw [Sem.run_bind];simp only [Deferred.ofValue,Sem.run_pure,Result.andThen_ok,invoke];rw [hE.ok f hok];refine ⟨rfl,fun n => ?_⟩
    have hl:cT C M w (first++args++caps) (Mq.toList++us++Mr.toList):=((cT.ofArr q1 q3).app hr).app (cT.ofArr q2 q4);have:=hF C w _ hl hM n;have e:(Mq.toList++us++Mr.toList).toArray=Mq++us.toArray++Mr:=by
     apply Array.toList_inj.1;simp
    rwa [e] at this
 ·exact (aU h).elim

theorem zP(hT:∀ t i,T t=some i→cM P t=some i)(hM:aX P C M w){b:Go.Builtin}{ts:Array TypeId}{ty:TypeId}{cs:Array Bool}{id:Nat}{vs:List AV}{us:List Value}{x:AV}{L:Upd}{s s':AS}(hv:cT C M w vs us)(h:mX T M id b ts vs s=some ((x,L),s'))(g:bA s') :
  bA s∧bEv P C M w x (upds M L) ((builtin b ts ty cs us.toArray).run P w):=by
 unfold mX at h
 split at h
 ·obtain ⟨y,rfl,k0⟩:=fP h
  obtain ⟨t,s1,h1,k1⟩:=aC k0;obtain ⟨e1,rfl⟩:=aE h1;obtain ⟨rfl,k3⟩:=eB k1;cases hv with
  | cons _ u _ _ hx hr =>
   cases hr;obtain ⟨g,r,h2,h3⟩:=aNr hT hM (ts:=ts) (ty:=ty) e1 hx k3 g;exact ⟨g,dO hM h2 h3⟩
 ·obtain ⟨y,z,rfl,k1⟩:=jP h
  generalize ht:ts.toList=tl at k1
  split at k1
  ·rename_i t t2
   cases hv with
   | cons _ u _ _ hx hr =>
    cases hr with
    | cons _ v _ _ hy hr =>
     cases hr;obtain ⟨g,ho⟩:=aCg hT hM (ty:=ty) hx hy k1 g;have e:ts = #[t,t2]:=by apply Array.toList_inj.1;rw [ht]
     subst e;exact ⟨g,nW ho⟩
  ·exact (aU k1).elim
 ·obtain ⟨y,z,rfl,k1⟩:=jP h
  generalize ht:ts.toList=tl at k1
  split at k1
  ·rename_i t t2
   cases hv with
   | cons _ u _ _ hx hr =>
    cases hr with
    | cons _ v _ _ hy hr =>
     cases hr;have e:ts = #[t,t2]:=by apply Array.toList_inj.1;rw [ht]
     subst e;obtain ⟨g,ho⟩:=aJk hT hM (t2:=t2) (ty:=ty) hx hy k1 g;exact ⟨g,nW ho⟩
  ·exact (aU k1).elim
 ·obtain ⟨y,rfl,k1⟩:=fP h
  generalize ht:ts.toList=tl at k1
  split at k1
  ·rename_i t
   have e:ts = #[t]:=by apply Array.toList_inj.1;rw [ht]
   subst e;cases hv with
   | cons _ u _ _ hx hr =>
    cases hr;obtain ⟨g,ho⟩:=aFt hT hM (ty:=ty) hx k1 g;exact ⟨g,nW ho⟩
  ·exact (aU k1).elim
 ·obtain ⟨rfl,k3⟩:=eB h
  obtain ⟨g,r,h2,h3⟩:=sE (big:=true) (l:=vs) (us:=us.toArray) (ts:=ts) (ty:=ty) (by simp [hv.len]) (fun i hi=>by
   have:=hv.at i hi
   rwa [← cG] at this) k3 g
  exact ⟨g,dO hM (by simpa using h2) h3⟩
 ·obtain ⟨rfl,k3⟩:=eB h
  obtain ⟨g,r,h2,h3⟩:=sE (big:=false) (l:=vs) (us:=us.toArray) (ts:=ts) (ty:=ty) (by simp [hv.len]) (fun i hi=>by
   have:=hv.at i hi
   rwa [← cG] at this) k3 g
  exact ⟨g,dO hM (by simpa using h2) h3⟩
 ·exact (aU h).elim

theorem aNf(hT:∀ t i,T t=some i→cM P t=some i)(hE:oU P E)(hM:aX P C M w){o:Oper}{ρ:Operand→Value}{id:Nat}{vs:List AV}{x:AV}{L:Upd}{s s':AS}(hv:cT C M w vs (o.op.operands.toList.map ρ))(h:core P T E o vs M id s=some ((x,L),s'))(g:bA s') :
  bA s∧bEv P C M w x (upds M L) ((execOp ρ o).run P w):=by
 unfold core at h
 unfold execOp;have mapA:∀ aS:Array Operand,(aS.toList.map ρ).toArray=aS.map ρ:=fun aS=>by apply Array.toList_inj.1;simp
 cases hop:o.op <;> simp only [hop] at h hv ⊢ <;> try exact (aU h).elim
 case move y =>
  obtain ⟨a,rfl,k1⟩:=fP h;obtain ⟨he,rfl⟩:=aH k1;cases he;exact ⟨g,C,Fr.refl ..,hM,hv.one⟩
 case assign y =>
  obtain ⟨a,rfl,k1⟩:=fP h;obtain ⟨he,rfl⟩:=aH k1;cases he;exact ⟨g,C,Fr.refl ..,hM,hv.one⟩
 case pick c a b =>
  obtain ⟨x1,x2,x3,rfl,k1⟩:=aFq h;obtain ⟨d,s1,h1,k2⟩:=aC k1;obtain ⟨he,rfl⟩:=aH k2;cases he;obtain ⟨q1,q2,q3⟩:=hv.three;obtain ⟨e1,g⟩:=oI q1 h1 g;refine ⟨g,?_⟩;rw [Sem.run_bind,e1];refine ⟨C,Fr.refl ..,hM,?_⟩;cases d
  ·exact q3
  ·exact q2
 case alloc t =>
  obtain ⟨rfl,k1⟩:=aRa h;obtain ⟨g,ho⟩:=aFy hT hM k1 g;exact ⟨g,nW ho⟩
 case box t y =>
  obtain ⟨a,rfl,k1⟩:=fP h;obtain ⟨g,ho⟩:=aNq hT hM hv.one k1 g;exact ⟨g,nW ho⟩
 case build t ps =>
  obtain ⟨rfl,k1⟩:=eB h;have hp:=cT.parts (ps:=ps.toList) (ρ:=ρ) (by simpa [Op.operands,Function.comp_def] using hv)
  obtain ⟨g,r,h1,h2⟩:=aFz hT (ps:=ps.map fun p=>(p.1,ρ p.2)) (by simpa using hp) k1 g
  exact ⟨g,dO hM h1 h2⟩
 case buildSlice t len ps =>
  have hp:=cT.parts (ps:=ps.toList) (ρ:=ρ) (by simpa [Op.operands,Function.comp_def] using hv)
  obtain ⟨g,ho⟩:=aCc hT hM (k:=ps.map fun p=>(p.1,ρ p.2)) (by simpa using hp) h g
  exact ⟨g,nW ho⟩
 case load t y =>
  obtain ⟨a,rfl,k1⟩:=fP h;obtain ⟨rfl,k2⟩:=eB k1;obtain ⟨x0,s1,k3,k4⟩:=aC k2;obtain ⟨rfl,rfl⟩:=aH k4;obtain ⟨g,r,h1,h2⟩:=xJ hT hM (pQ hv.one) k3 g;exact ⟨g,dO hM h1 (aVj h2)⟩
 case store t y z =>
  obtain ⟨a,b,rfl,k1⟩:=jP h;obtain ⟨L',s1,h1,k2⟩:=aC k1;obtain ⟨he,rfl⟩:=aH k2;cases he;obtain ⟨q1,q2⟩:=hv.two;obtain ⟨g,C',w',r1,r2,r3⟩:=aCd hT hM q1 q2 h1 g;refine ⟨g,?_⟩;rw [Sem.run_bind,r1,Result.andThen_ok,Sem.run_pure];exact ⟨rfl,C',r2,r3⟩
 case nilCheck y =>
  obtain ⟨a,rfl,k1⟩:=fP h;have hx:=pQ hv.one;generalize tY a=a' at k1 hx
  split at k1
  ·obtain ⟨_,s1,h1,k2⟩:=aC k1
   obtain ⟨e1,rfl⟩:=aE h1;obtain ⟨hl,_⟩:=bX e1;obtain ⟨he,rfl⟩:=aH k2;cases he;obtain ⟨b,hu,hb⟩:=fM hx hl;rw [hu] at hx ⊢
   exact ⟨g,C,Fr.refl ..,hM,hx⟩
  ·obtain ⟨he,rfl⟩:=aH k1
   cases he;have hp:∃ p,ρ y = .pointer (some p):=by
    generalize ρ y=u at hx
    cases hx;exact ⟨_,rfl⟩
   obtain ⟨p,hp⟩:=hp;rw [hp] at hx ⊢
   exact ⟨g,C,Fr.refl ..,hM,hx⟩
  ·exact (aU k1).elim
 case binOp op t y z _ =>
  obtain ⟨a,b,rfl,k1⟩:=jP h;obtain ⟨rfl,k2⟩:=eB k1;obtain ⟨q1,q2⟩:=hv.two;obtain ⟨g,r,h1,h2⟩:=aNe hT (o1:=y) (o2:=z) q1 q2 k2 g;exact ⟨g,dO hM h1 h2⟩
 case unOp op _ y =>
  obtain ⟨a,rfl,k1⟩:=fP h;obtain ⟨rfl,k2⟩:=eB k1;obtain ⟨g,r,h1,h2⟩:=aVi hv.one k2 g;exact ⟨g,dO hM h1 h2⟩
 case convert src dst y =>
  obtain ⟨a,rfl,k1⟩:=fP h;obtain ⟨rfl,k2⟩:=eB k1;obtain ⟨g,ho⟩:=aJd hT hM hv.one k2 g;exact ⟨g,nW ho⟩
 case makeFunc fn first caps =>
  split at h
  ·rename_i f
   obtain ⟨he,rfl⟩:=aH h;cases he;have hs:cT C M w vs ((first.map ρ).toList++(caps.map ρ).toList):=by simpa [Op.operands] using hv
   obtain ⟨q1,q2⟩:=hs.split;have hl:(first.map ρ).toList.length=first.size:=by simp
   rw [hl] at q1 q2
   refine ⟨g,dO hM (r := .func (.func f) (first.map ρ) (caps.map ρ)) rfl (.fn f _ _ _ _ ?_ ?_ (fun i hi => ?_) (fun i hi => ?_))⟩
   ·have:=q1.len;simpa using this
   ·have:=q2.len;simpa using this
   ·have:=q1.at i hi
    rwa [← cG] at this
   ·have:=q2.at i hi
    rwa [← cG] at this
  ·exact (aU h).elim
 case makeMap t r =>
  cases r with
  | some _=>exact (aU h).elim
  | none =>
   obtain ⟨rfl,k1⟩:=aRa h;obtain ⟨g,ho⟩:=aNg (t:=t) hM k1 g;exact ⟨g,nW ho⟩
 case lookup t y z ok =>
  obtain ⟨a,b,rfl,k1⟩:=jP h;obtain ⟨rfl,k2⟩:=eB k1;obtain ⟨q1,q2⟩:=hv.two;obtain ⟨g,r,h1,h2⟩:=aJj hT hM q1 q2 k2 g;exact ⟨g,dO hM h1 h2⟩
 case mapUpdate t y z v =>
  obtain ⟨a,b,c,rfl,k1⟩:=aFq h;obtain ⟨L',s1,h1,k2⟩:=aC k1;obtain ⟨he,rfl⟩:=aH k2;cases he;obtain ⟨q1,q2,q3⟩:=hv.three;obtain ⟨g,w',r1,r2,r3⟩:=aNh hT hM q1 q2 q3 h1 g;refine ⟨g,?_⟩;rw [Sem.run_bind,r1,Result.andThen_ok,Sem.run_pure];exact ⟨rfl,C,r2,r3⟩
 case makeSlice t l c =>
  obtain ⟨a,b,rfl,k1⟩:=jP h;obtain ⟨q1,q2⟩:=hv.two;obtain ⟨g,ho⟩:=aJq hT hM q1 q2 k1 g;exact ⟨g,nW ho⟩
 case slice t y lo hi mx =>
  cases mx with
  | some _=>exact (aU h).elim
  | none =>
   cases lo with
   | none =>
    cases hi with
    | none =>
     obtain ⟨a,rfl,k1⟩:=fP h;obtain ⟨rfl,k2⟩:=eB k1;obtain ⟨g,r,h1,h2⟩:=kV hT hM (lo:=none) (hi:=none) (vl:=none) (vh:=none) hv.one trivial trivial k2 g;exact ⟨g,dO hM h1 h2⟩
    | some hh =>
     obtain ⟨a,b,rfl,k1⟩:=jP h;obtain ⟨rfl,k2⟩:=eB k1;obtain ⟨q1,q2⟩:=hv.two;obtain ⟨g,r,h1,h2⟩:=kV hT hM (lo:=none) (hi:=some b) (vl:=none) (vh:=some (ρ hh)) q1 trivial q2 k2 g;exact ⟨g,dO hM h1 h2⟩
   | some ll =>
    cases hi with
    | none =>
     obtain ⟨a,b,rfl,k1⟩:=jP h;obtain ⟨rfl,k2⟩:=eB k1;obtain ⟨q1,q2⟩:=hv.two;obtain ⟨g,r,h1,h2⟩:=kV hT hM (lo:=some b) (hi:=none) (vl:=some (ρ ll)) (vh:=none) q1 q2 trivial k2 g;exact ⟨g,dO hM h1 h2⟩
    | some hh =>
     obtain ⟨a,b,c,rfl,k1⟩:=aFq h;obtain ⟨rfl,k2⟩:=eB k1;obtain ⟨q1,q2,q3⟩:=hv.three;obtain ⟨g,r,h1,h2⟩:=kV hT hM (lo:=some b) (hi:=some c) (vl:=some (ρ ll)) (vh:=some (ρ hh)) q1 q2 q3 k2 g;exact ⟨g,dO hM h1 h2⟩
 case fieldAddr t y f =>
  obtain ⟨a,rfl,k1⟩:=fP h;obtain ⟨rfl,k2⟩:=eB k1;obtain ⟨g,r,h1,h2⟩:=vU hT (pQ hv.one) k2 g;exact ⟨g,dO hM h1 h2⟩
 case field t y f =>
  obtain ⟨a,rfl,k1⟩:=fP h;obtain ⟨rfl,k2⟩:=eB k1;obtain ⟨g,r,h1,h2⟩:=aGd hT hv.one k2 g;exact ⟨g,dO hM h1 h2⟩
 case indexAddr t y z =>
  obtain ⟨a,b,rfl,k1⟩:=jP h;obtain ⟨rfl,k2⟩:=eB k1;obtain ⟨q1,q2⟩:=hv.two;obtain ⟨g,r,h1,h2⟩:=vV hT (pQ q1) q2 k2 g;exact ⟨g,dO hM h1 h2⟩
 case index t y z =>
  obtain ⟨a,b,rfl,k1⟩:=jP h;obtain ⟨rfl,k2⟩:=eB k1;obtain ⟨q1,q2⟩:=hv.two;obtain ⟨g,r,h1,h2⟩:=aGe hT q1 q2 k2 g;exact ⟨g,dO hM h1 h2⟩
 case extract y ix =>
  obtain ⟨a,rfl,k1⟩:=fP h;obtain ⟨rfl,k2⟩:=eB k1;obtain ⟨g,r,h1,h2⟩:=aNv hv.one k2 g;exact ⟨g,dO hM h1 h2⟩
 case call c =>
  cases hc:c.callee with
  | builtin b =>
   simp only [hc] at h
   have Ms:cT C M w vs (c.args.toList.map ρ):=by simpa [Op.operands,Call.operands,hc] using hv
   simp only [resolve,hc,Sem.run_bind,Sem.run_pure,Result.andThen_ok,invoke];rw [← mapA];exact zP hT hM Ms h g
  | value f =>
   simp only [hc] at h
   have Ms:cT C M w vs (ρ f::c.args.toList.map ρ):=by simpa [Op.operands,Call.operands,hc] using hv
   have:=aIv hE hM Ms h g;simp only [resolve,hc];rw [mapA] at this
   simpa using this
  | invoke r n=>simp only [hc] at h;exact (aU h).elim
end
section

variable {P:Program} {C:Cx} {M:Mem} {w:World}
def aNc(k b:Nat):Prop:=(pkC k≠0∧b=pkB k)∨∃ j,j<pkN k∧b=rkB k j
structure aNd (C:Cx) (M:Mem) (w:World) (id tO ti sz:Nat) (L:List (Nat × List PV)):Prop where
 io:C.ι id=none
 n:pkN (C.κ id)=L.length
 nc:pkN (C.κ id)≤pkC (C.κ id)
 cm:pkC (C.κ id)≤maxLen
 out:pkC (C.κ id)≠0→∃ arr,w.heap[pkB (C.κ id)]? = some (.cells arr tO (0,0))∧arr.size=pkC (C.κ id)∧∀ j,j<pkN (C.κ id)→arr.getD j undef=pqV (C.κ id) (.row j)
 row:∀ j (h:j<L.length),rkN (C.κ id) j=L[j].1∧rkN (C.κ id) j≤rkC (C.κ id) j∧rkC (C.κ id) j≤maxLen∧∃ arr,w.heap[rkB (C.κ id) j]? = some (.cells arr ti (0,0))∧arr.size=rkC (C.κ id) j*sz∧L[j].2.length=rkN (C.κ id) j*sz ∧
  (∀ i (h':i<L[j].2.length),cS C.F w L[j].2[i] (arr.getD i undef))∧∀ i,i<L[j].2.length→(arr.getD i undef).oneCell'=true
 own:∀ b,aNc (C.κ id) b→¬ C.F b∧∀ (i:Nat) (o:AO),M[i]? = some (some o)→o.live=true→C.ι i≠some b
 d1:pkC (C.κ id)≠0→∀ j,j<pkN (C.κ id)→rkB (C.κ id) j≠pkB (C.κ id)
 d2:∀ j j',j<pkN (C.κ id)→j'<pkN (C.κ id)→rkB (C.κ id) j=rkB (C.κ id) j'→j=j'
theorem aNd.lt{id tO ti sz:Nat}{L:List (Nat × List PV)}(h:aNd C M w id tO ti sz L){b:Nat}(hb:aNc (C.κ id) b):b<w.heap.size∧∃ arr ty,w.heap[b]? = some (.cells arr ty (0,0)):=by
 have:∃ arr ty,w.heap[b]? = some (.cells arr ty (0,0)):=by
  rcases hb with ⟨h1,rfl⟩ | ⟨j,h1,rfl⟩
  ·obtain ⟨arr,q,_⟩:=h.out h1
   exact ⟨arr,tO,q⟩
  ·obtain ⟨_,_,_,arr,q,_⟩:=h.row j (by rw [← h.n];exact h1)
   exact ⟨arr,ti,q⟩
 refine ⟨?_,this⟩;obtain ⟨arr,ty,q⟩:=this;exact (mF.1 q).1
theorem aNd.move{C':Cx}{M':Mem}{w':World}{id Gy tO ti sz:Nat}{L:List (Nat × List PV)}(h:aNd C M w id tO ti sz L)(hι:C'.ι Gy=none)(hκ:C'.κ Gy=C.κ id)(hF:∀ b,C.F b→C'.F b)(hz:∀ b,C.F b→w'.heap[b]? = w.heap[b]?)
  (hb:∀ b,aNc (C.κ id) b→w'.heap[b]? = w.heap[b]? ∧ ¬ C'.F b∧∀ (i:Nat) (o:AO),M'[i]? = some (some o)→o.live=true→C'.ι i≠some b):aNd C' M' w' Gy tO ti sz L:=by
 refine ⟨hι,by rw [hκ];exact h.n,by rw [hκ];exact h.nc,by rw [hκ];exact h.cm,fun h0 => ?_,fun j hj => ?_,fun b q => ?_,by rw [hκ];exact h.d1,by rw [hκ];exact h.d2⟩
 ·rw [hκ] at h0 ⊢
  obtain ⟨arr,q1,q2,q3⟩:=h.out h0;exact ⟨arr,by rw [(hb _ (.inl ⟨h0,rfl⟩)).1];exact q1,q2,q3⟩
 ·rw [hκ]
  obtain ⟨q1,q2,q3,arr,q4,q5,q6,q7,q8⟩:=h.row j hj;exact ⟨q1,q2,q3,arr,by rw [(hb _ (.inr ⟨j,by rw [h.n];exact hj,rfl⟩)).1];exact q4,q5,q6,fun i hi=>(q7 i hi).mono hF hz,q8⟩
 ·rw [hκ] at q
  exact (hb b q).2
def aIu(L:Upd):Bool:=L.all fun p => !p.2.isPk
def sB(P:Program)(T:TT)(E:Env)(o:Oper)(vs:List AV)(m:Mem)(id:Nat):Res:=fail
def Lr:List AV→Bool
 | .pa _ _::_=>true
 | _=>false
def bLm(o:Oper)(vs:List AV):Bool:=match o.op with
 | .load _ _=>Lr vs
 | .store _ _ _=>Lr vs
 | .indexAddr _ _ _=>Lr vs
 | .buildSlice _ _ _=>match vs with
  | [.own _]=>true
  | _=>false
 | .call c=>match c.callee with
  | .builtin _=>Lr vs
  | .value _=>true
  | _=>false
 | _=>false
def lP(P:Program)(T:TT)(E:Env)(o:Oper)(vs:List AV)(m:Mem)(id:Nat):Res:=fun s=>match s.auto,s.o,bLm o vs with
 | false,.q::r,true=>sB P T E o vs m id { s with o:=r }
 | _,_,_=>(do
  let r ← core P T E o vs m id
  lift (if aIu r.2=true then some () else none)
  pure r:Res) s

def Dx(m:Mem):AV→Option PV
 | .p x=>some x
 | .kb b=>some (.v (.bool b))
 | .own id=>match eZ m id with
  | some r=>some (.sl r.2.1 r.2.2)
  | none=>none
 | .fn f [] []=>some (.fn f [] [])
 | _=>none
def zO(m:Mem):List AV→Option (List PV)
 | []=>some []
 | x::r=>match Dx m x with
  | some y=>match zO m r with
   | some l=>some (y::l)
   | none=>none
  | none=>none
mutual
def view(m:Mem):AV→Option AV
 | .p x=>some (.p x)
 | .kb b=>some (.kb b)
 | .own id=>match eZ m id with
  | some r=>some (.p (.sl r.2.1 r.2.2))
  | none=>none
 | .arr id off n=>match eZ m id with
  | some r=>some (.p (.sl n ((r.2.2.drop off).take (n*(r.2.2.length / r.2.1)))))
  | none=>none
 | .agg cs=>match lQ m cs with
  | some xs=>some (iO xs)
  | none=>none
 | .fn f a b=>match lQ m a with
  | some a'=>match lQ m b with
   | some b'=>some (.fn f a' b')
   | none=>none
  | none=>none
 | .rp cs o=>some (.rp cs o)
 | .ptr id off=>match bU m id with
  | some (.row _ _ cs)=>some (.rp cs off)
  | some (.box _ cs)=>match zO m cs with
   | some xs=>some (.rp xs off)
   | none=>none
  | _=>none
 | .yld l=>some (.yld l)
 | .any=>some .any
 | _=>none
def lQ(m:Mem):List AV→Option (List AV)
 | []=>some []
 | x::r=>match view m x with
  | some y=>match lQ m r with
   | some l=>some (y::l)
   | none=>none
  | none=>none
end

def bLn(c:AV)(want:Bool):Ask Bool:=match c with
 | .tup []=>pure false
 | c=>do
  let b ← aNs c
  pure (match b,want with | true,true=>true | false,false=>true | _,_=>false)
def gQ(ops:List Oper)(o:Oper)(st:St):Ask Bool:=match o.guard with
 | none=>pure true
 | some (j,want)=>do
  let oj ← lift ops[j]?
  let d ← lift oj.dst
  let c ← lift st.t[d]?
  bLn c want

def sW(P:Program)(T:TT)(E:Env)(ops:List Oper)(o:Oper)(id:Nat)(st:St):Ask St:=do
 let go ← gQ ops o st
 match go with
 | true=>do
  let vs ← lift (evs st o.op.operands.toList)
  let r ← lP P T E o vs st.m id
  pure ⟨put st.t o.dst r.1,upds st.m r.2⟩
 | false=>pure ⟨put st.t o.dst (.tup []),st.m⟩

def bLo(P:Program)(T:TT)(E:Env)(ops:List Oper):List Oper→St→Ask St
 | [],st=>pure st
 | o::r,st=>do
  let Aj ← sW P T E ops o st.m.length st
  bLo P T E ops r Aj

end
end KV
end Go.Proofs
