/- What the card of ReportBack leans on, part 9: written with few blanks and short names by a program out of longer texts. Conditions: those of each lemma. -/
import Derived.Test.YtdmpneafeadbbaaGreatDoorPah
import Derived.Shelf.Strings.Builder1
import Derived.Shelf.Strings.Builder2
import Derived.Shelf.Strings.OnBuilder
import Derived.Shelf.Small.Strs
import Derived.Shelf.Strings.BuilderF
import Derived.Shelf.Strings.BuilderK
import Derived.Shelf.Utf8.RuneCount
import Derived.Shelf.Strconv.Atoi
import Derived.Shelf.Strconv.Itoa0
import Derived.Shelf.Strconv.Itoa1
import Derived.Shelf.LaysM
import Derived.Shelf.Strconv.Itoa2
import Derived.Shelf.Strconv.Itoa3
import Derived.Shelf.Strconv.Itoa4
import Derived.Shelf.Strconv.AtoiErrFast
import Derived.Shelf.Strconv.ParseIntEmpty
import Derived.Shelf.Strconv.AtoiFail
import Derived.Shelf.Strconv.Clone
import Derived.Shelf.Strconv.SyntaxError
import Derived.Shelf.LaysC
import Derived.Shelf.Strconv.ToError
import Derived.Shelf.Strconv.Lower
import Derived.Shelf.Strconv.ParseUint10
import Derived.Shelf.Strconv.ParseUint10Empty
import Derived.Shelf.Strconv.ParseUint10Any
import Derived.Shelf.Strconv.ParseInt10
import Derived.Shelf.Strconv.AtoiLong
import Derived.Shelf.Strconv.AtoiInnerAll
import Derived.Shelf.Strconv.RangeError
import Derived.Shelf.Strconv.ToErrorRange
import Derived.Shelf.Strconv.AtoiAll
import Derived.Shelf.Strconv.ErrVarAll
import Derived.Shelf.Strconv.ParseUintEmpty
import Derived.Shelf.Strconv.ParseUint10b64
import Derived.Shelf.Strconv.ParseUint10b32
import Derived.Shelf.Strconv.ParseUint10b16
import Derived.Shelf.Strconv.ParseUint10b8
import Derived.Shelf.Strconv.ParseUint10At
import Derived.Shelf.Strconv.ParseInt10At64
import Derived.Shelf.Strconv.ParseInt10At32
import Derived.Shelf.Strconv.ParseInt10At16
import Derived.Shelf.Strconv.ParseInt10At8
import Derived.Shelf.Strconv.ParseInt10All
import Derived.Shelf.Strconv.ParseIntPublic10
import Derived.Shelf.Strconv.ErrVarParseInt
import Derived.Ground.MpProg
import Derived.Shelf.Pu.ParseUintPublic10
import Derived.Shelf.Pu.ErrVarParseUint
import Derived.Shelf.Strings.Search1
import Derived.Shelf.Strings.Search2
import Derived.Shelf.Strings.Search3
import Derived.Shelf.Strings.Count
import Derived.Shelf.Strings.Shaped
import Derived.Shelf.GgClosure.StringsIndexFunc
import Derived.Ground.GgwProg
import Derived.Shelf.GgClosure.StringsIndexFuncTop
import Derived.Shelf.Strings.Prefix
import Derived.Shelf.Strings.Split
import Derived.Shelf.Strings.SplitShaped
import Derived.Shelf.Unicode.Decode
import Derived.Shelf.Strings.RuneCount
import Derived.Shelf.Strings.Explode
import Derived.Shelf.Unicode.DecodeSlow
import Derived.Shelf.Unicode.DecodeAny
import Derived.Test.YtdmpneafeadbbaaGreatDoorProg
import Derived.Test.YtdmpneafeadbbaaGreatDoorRows
import Derived.Shelf.Strings.BuilderX
import Derived.Lib.Builder
import Derived.Lib.Walk
import Derived.WalkKit
import Derived.Laws.Externs
import Derived.LoopTactic
import Derived.Laws.RangeString
import Derived.Laws.RangeAny
import Derived.Tactics
import Derived.Tactics2
import Derived.Defers
import Derived.Laws.Pointers
import Derived.Laws.LoneSync
import Derived.RegionTactic
import Derived.RegionCalls
import Derived.ChangeAlike
import Derived.Lib.AppendStr
set_option maxRecDepth 100000
set_option linter.unusedVariables false
set_option linter.unusedSimpArgs false
noncomputable section
namespace Go.Proofs.YtdmpneafeadbbaaGreatDoor
end Go.Proofs.YtdmpneafeadbbaaGreatDoor
namespace Go.Proofs
open Go.Shelf
def Tryz.AX:Go.Shelf.Ren:=⟨fun|137=>84|217=>113|266=>138|n=>n,fun|9=>9|5=>5|3=>3|n=>n,fun|n=>n⟩
theorem Tryz.Np:Go.Proofs.Lays.n137 Tryz.prog Tryz.AX:= {
 mixed:=by kernel_rfl
 f137:=Tryz.func84.trans (congrArg some (by kernel_rfl))
 f217:=Tryz.func113.trans (congrArg some (by kernel_rfl))
 f266:=Tryz.func138.trans (congrArg some (by kernel_rfl))
 t3:=Tryz.underlying3
 a3:=Tryz.isAgg3
 z3:=Tryz.sizeOf3
 v3:=Tryz.zeroValue3
 t5:=Tryz.underlying5
 a5:=Tryz.isAgg5
 z5:=Tryz.sizeOf5
 v5:=Tryz.zeroValue5
 t9:=Tryz.underlying9
 a9:=Tryz.isAgg9
 z9:=Tryz.sizeOf9
 v9:=Tryz.zeroValue9}
open Go.RowKit in
theorem Tryz.strings_IndexByte(s:ByteArray)(c:Int)(w:World):
  Calls Tryz.prog 84 #[.string s,.int .u8 c] w fun e w'=>e= .returned (.int .i64 (Lib.indexByte s.data.toList c.toNat.toUInt8))∧w'=w:=Any.strings_IndexByte Tryz.Np s c w
def Tryz.yK:Go.Shelf.Ren:=⟨fun|172=>85|244=>114|245=>67|247=>66|279=>96|280=>97|281=>98|282=>99|287=>68|316=>131|171=>133|205=>132|321=>100|322=>101|243=>151|246=>58|283=>89|284=>90|285=>91|286=>92|129=>121|317=>120|318=>122|319=>123|320=>124|337=>143|338=>144|n=>n,fun|9=>9|3=>3|75=>67|76=>85|4=>4|5=>5|167=>159|37=>61|0=>0|85=>68|2=>2|168=>160|53=>22|175=>70|46=>115|210=>194|127=>142|145=>220|143=>218|21=>21|171=>152|173=>155|212=>174|51=>120|20=>20|213=>175|232=>90|233=>221|80=>97|n=>n,fun|15=>1|16=>2|17=>0|18=>4|19=>5|n=>n⟩
theorem Tryz.oN:Go.Proofs.LaysC.n172 Tryz.prog Tryz.yK:= {
 mixed:=by kernel_rfl
 f129:=Tryz.func121.trans (congrArg some (by kernel_rfl))
 f171:=Tryz.func133.trans (congrArg some (by kernel_rfl))
 f172:=Tryz.func85.trans (congrArg some (by kernel_rfl))
 f205:=Tryz.func132.trans (congrArg some (by kernel_rfl))
 f243:=Tryz.func151.trans (congrArg some (by kernel_rfl))
 f244:=Tryz.func114.trans (congrArg some (by kernel_rfl))
 f245:=Tryz.func67.trans (congrArg some (by kernel_rfl))
 f246:=Tryz.func58.trans (congrArg some (by kernel_rfl))
 f247:=Tryz.func66.trans (congrArg some (by kernel_rfl))
 f279:=Tryz.func96.trans (congrArg some (by kernel_rfl))
 f280:=Tryz.func97.trans (congrArg some (by kernel_rfl))
 f281:=Tryz.func98.trans (congrArg some (by kernel_rfl))
 f282:=Tryz.func99.trans (congrArg some (by kernel_rfl))
 f283:=Tryz.func89.trans (congrArg some (by kernel_rfl))
 f284:=Tryz.func90.trans (congrArg some (by kernel_rfl))
 f285:=Tryz.func91.trans (congrArg some (by kernel_rfl))
 f286:=Tryz.func92.trans (congrArg some (by kernel_rfl))
 f287:=Tryz.func68.trans (congrArg some (by kernel_rfl))
 f316:=Tryz.func131.trans (congrArg some (by kernel_rfl))
 f317:=Tryz.func120.trans (congrArg some (by kernel_rfl))
 f318:=Tryz.func122.trans (congrArg some (by kernel_rfl))
 f319:=Tryz.func123.trans (congrArg some (by kernel_rfl))
 f320:=Tryz.func124.trans (congrArg some (by kernel_rfl))
 f321:=Tryz.func100.trans (congrArg some (by kernel_rfl))
 f322:=Tryz.func101.trans (congrArg some (by kernel_rfl))
 f337:=Tryz.func143.trans (congrArg some (by kernel_rfl))
 f338:=Tryz.func144.trans (congrArg some (by kernel_rfl))
 t0:=Tryz.underlying0
 a0:=Tryz.isAgg0
 z0:=Tryz.sizeOf0
 v0:=Tryz.zeroValue0
 t2:=Tryz.underlying2
 a2:=Tryz.isAgg2
 z2:=Tryz.sizeOf2
 v2:=Tryz.zeroValue2
 t3:=Tryz.underlying3
 a3:=Tryz.isAgg3
 z3:=Tryz.sizeOf3
 v3:=Tryz.zeroValue3
 t4:=Tryz.underlying4
 a4:=Tryz.isAgg4
 z4:=Tryz.sizeOf4
 v4:=Tryz.zeroValue4
 t5:=Tryz.underlying5
 a5:=Tryz.isAgg5
 z5:=Tryz.sizeOf5
 v5:=Tryz.zeroValue5
 t9:=Tryz.underlying9
 a9:=Tryz.isAgg9
 z9:=Tryz.sizeOf9
 v9:=Tryz.zeroValue9
 t20:=Tryz.underlying20
 a20:=Tryz.isAgg20
 z20:=Tryz.sizeOf20
 v20:=Tryz.zeroValue20
 t21:=Tryz.underlying21
 a21:=Tryz.isAgg21
 z21:=Tryz.sizeOf21
 v21:=Tryz.zeroValue21
 t37:=Tryz.underlying61
 a37:=Tryz.isAgg61
 z37:=Tryz.sizeOf61
 v37:=Tryz.zeroValue61
 t46:=Tryz.underlying115
 a46:=Tryz.isAgg115
 z46:=Tryz.sizeOf115
 v46:=Tryz.zeroValue115
 t51:=Tryz.underlying120
 a51:=Tryz.isAgg120
 z51:=Tryz.sizeOf120
 v51:=Tryz.zeroValue120
 t53:=Tryz.underlying22
 a53:=Tryz.isAgg22
 z53:=Tryz.sizeOf22
 v53:=Tryz.zeroValue22
 t75:=Tryz.underlying67
 a75:=Tryz.isAgg67
 z75:=Tryz.sizeOf67
 v75:=Tryz.zeroValue67
 t76:=Tryz.underlying85
 a76:=Tryz.isAgg85
 z76:=Tryz.sizeOf85
 v76:=Tryz.zeroValue85
 t85:=Tryz.underlying68
 a85:=Tryz.isAgg68
 z85:=Tryz.sizeOf68
 v85:=Tryz.zeroValue68
 t127:=Tryz.underlying142
 a127:=Tryz.isAgg142
 z127:=Tryz.sizeOf142
 v127:=Tryz.zeroValue142
 t143:=Tryz.underlying218
 a143:=Tryz.isAgg218
 z143:=Tryz.sizeOf218
 v143:=Tryz.zeroValue218
 t145:=Tryz.underlying220
 a145:=Tryz.isAgg220
 z145:=Tryz.sizeOf220
 v145:=Tryz.zeroValue220
 t167:=Tryz.underlying159
 a167:=Tryz.isAgg159
 z167:=Tryz.sizeOf159
 v167:=Tryz.zeroValue159
 t168:=Tryz.underlying160
 a168:=Tryz.isAgg160
 z168:=Tryz.sizeOf160
 v168:=Tryz.zeroValue160
 t171:=Tryz.underlying152
 a171:=Tryz.isAgg152
 z171:=Tryz.sizeOf152
 v171:=Tryz.zeroValue152
 t173:=Tryz.underlying155
 a173:=Tryz.isAgg155
 z173:=Tryz.sizeOf155
 v173:=Tryz.zeroValue155
 t175:=Tryz.underlying70
 a175:=Tryz.isAgg70
 z175:=Tryz.sizeOf70
 v175:=Tryz.zeroValue70
 t210:=Tryz.underlying194
 a210:=Tryz.isAgg194
 z210:=Tryz.sizeOf194
 v210:=Tryz.zeroValue194
 t212:=Tryz.underlying174
 a212:=Tryz.isAgg174
 z212:=Tryz.sizeOf174
 v212:=Tryz.zeroValue174
 t213:=Tryz.underlying175
 a213:=Tryz.isAgg175
 z213:=Tryz.sizeOf175
 t232:=Tryz.underlying90
 a232:=Tryz.isAgg90
 z232:=Tryz.sizeOf90
 v232:=Tryz.zeroValue90
 t233:=Tryz.underlying221
 a233:=Tryz.isAgg221
 z233:=Tryz.sizeOf221
 v233:=Tryz.zeroValue221
 g15:=by kernel_rfl
 g16:=by kernel_rfl
 g17:=by kernel_rfl
 g18:=by kernel_rfl
 g19:=by kernel_rfl
 t80:=Tryz.underlying97
 a80:=Tryz.isAgg97
 z80:=Tryz.sizeOf97
 v80:=Tryz.zeroValue97
 i0:=by kernel_rfl
 i2:=by kernel_rfl
 i3:=by kernel_rfl
 i4:=by kernel_rfl
 i5:=by kernel_rfl
 i9:=by kernel_rfl
 i20:=by kernel_rfl
 i21:=by kernel_rfl
 i37:=by kernel_rfl
 i46:=by kernel_rfl
 i51:=by kernel_rfl
 i53:=by kernel_rfl
 i75:=by kernel_rfl
 i76:=by kernel_rfl
 i80:=by kernel_rfl
 i85:=by kernel_rfl
 i127:=by kernel_rfl
 i143:=by kernel_rfl
 i145:=by kernel_rfl
 i167:=by kernel_rfl
 i168:=by kernel_rfl
 i171:=by kernel_rfl
 i173:=by kernel_rfl
 i175:=by kernel_rfl
 i210:=by kernel_rfl
 i212:=by kernel_rfl
 i232:=by kernel_rfl
 i233:=by kernel_rfl
 m15:=by kernel_rfl
 m16:=by kernel_rfl
 m17:=by kernel_rfl
 m18:=by kernel_rfl
 m19:=by kernel_rfl
 c0:=by kernel_rfl
 c2:=by kernel_rfl
 c3:=by kernel_rfl
 c4:=by kernel_rfl
 c5:=by kernel_rfl
 c9:=by kernel_rfl
 c20:=by kernel_rfl
 c21:=by kernel_rfl
 c37:=by kernel_rfl
 c46:=by kernel_rfl
 c51:=by kernel_rfl
 c53:=by kernel_rfl
 c75:=by kernel_rfl
 c76:=by kernel_rfl
 c80:=by kernel_rfl
 c85:=by kernel_rfl
 c127:=by kernel_rfl
 c143:=by kernel_rfl
 c145:=by kernel_rfl
 c167:=by kernel_rfl
 c168:=by kernel_rfl
 c171:=by kernel_rfl
 c173:=by kernel_rfl
 c175:=by kernel_rfl
 c210:=by kernel_rfl
 c212:=by kernel_rfl
 c213:=by kernel_rfl
 c232:=by kernel_rfl
 c233:=by kernel_rfl}
open Go.RowKit in
theorem Tryz.strconv_Atoi_ok(s:ByteArray)(hmax:s.size≤9223372036854775806)(v:Int)(h:Lib.atoiAll s.data.toList= .ok v)(w:World):
  Calls Tryz.prog 85 #[.string s] w fun e w'=>e= .returned (.tuple #[.int .i64 v,.nilIface])∧(w'=w∨∃t,w'=Lib.bytesWorld w 5 t):=Any.strconv_Atoi_ok Tryz.oN s hmax v h w
open Go.RowKit in
theorem Tryz.strconv_Atoi_syntax(s:ByteArray)(hlim:s.size≤281474976710656)(r:Lib.NumEnd Int)(h:Lib.atoiAll s.data.toList=r)(hr:∀v,r≠ .ok v)(hq:r≠ .range)(ev:Value)(w:World)(hv:w.cell? ⟨1,0,none⟩=some ev)(hev:ev= .nilIface∨∃te pe,ev= .iface te pe):
  Calls Tryz.prog 85 #[.string s] w fun e w'=>∃N,e= .returned (.tuple #[.int .i64 (0),.iface 160 (.pointer (some ⟨N,0,none⟩))])∧w.heap.size≤N∧w'.heap[N]? =some (.cells #[.string ⟨#[65,116,111,105]⟩,.string s,ev] 194 (0,0))∧Below w.heap.size w w':=by
  rcases r with v|_|_
  ·exact absurd rfl (hr v)
  ·exact Any.strconv_Atoi_syntax Tryz.oN s hlim h ev w hv hev
  ·exact absurd rfl hq
open Go.RowKit in
theorem Tryz.strconv_Atoi_range(s:ByteArray)(hlim:s.size≤281474976710656)(h:Lib.atoiAll s.data.toList= .range)(ev:Value)(w:World)(hv:w.cell? ⟨2,0,none⟩=some ev)(hev:ev= .nilIface∨∃te pe,ev= .iface te pe):
  Calls Tryz.prog 85 #[.string s] w fun e w'=>∃N,e= .returned (.tuple #[.int .i64 (Lib.atoiSat s.data.toList),.iface 160 (.pointer (some ⟨N,0,none⟩))])∧w.heap.size≤N∧w'.heap[N]? =some (.cells #[.string ⟨#[65,116,111,105]⟩,.string s,ev] 194 (0,0))∧Below w.heap.size w w':=Any.strconv_Atoi_range Tryz.oN s hlim h ev w hv hev
def Tryz.yL:Go.Shelf.Ren:=⟨fun|14=>26|16=>68|17=>67|19=>100|20=>101|21=>96|22=>97|23=>98|24=>99|25=>131|27=>133|26=>132|28=>151|29=>58|30=>89|31=>90|32=>91|33=>92|35=>121|34=>120|36=>122|37=>123|38=>124|39=>143|40=>144|n=>n,fun|9=>9|3=>3|22=>22|24=>67|25=>70|4=>4|34=>159|5=>5|36=>115|37=>61|0=>0|39=>160|21=>21|44=>194|47=>142|50=>220|48=>218|2=>2|52=>152|55=>155|59=>174|60=>120|20=>20|61=>175|65=>90|66=>221|67=>97|n=>n,fun|0=>1|1=>2|2=>0|3=>4|4=>5|n=>n⟩
theorem Tryz.tN:Go.Proofs.LaysPu.n14 Tryz.prog Tryz.yL:= {
 mixed:=by kernel_rfl
 f14:=Tryz.func26.trans (congrArg some (by kernel_rfl))
 f16:=Tryz.func68.trans (congrArg some (by kernel_rfl))
 f17:=Tryz.func67.trans (congrArg some (by kernel_rfl))
 f19:=Tryz.func100.trans (congrArg some (by kernel_rfl))
 f20:=Tryz.func101.trans (congrArg some (by kernel_rfl))
 f21:=Tryz.func96.trans (congrArg some (by kernel_rfl))
 f22:=Tryz.func97.trans (congrArg some (by kernel_rfl))
 f23:=Tryz.func98.trans (congrArg some (by kernel_rfl))
 f24:=Tryz.func99.trans (congrArg some (by kernel_rfl))
 f25:=Tryz.func131.trans (congrArg some (by kernel_rfl))
 f26:=Tryz.func132.trans (congrArg some (by kernel_rfl))
 f27:=Tryz.func133.trans (congrArg some (by kernel_rfl))
 f28:=Tryz.func151.trans (congrArg some (by kernel_rfl))
 f29:=Tryz.func58.trans (congrArg some (by kernel_rfl))
 f30:=Tryz.func89.trans (congrArg some (by kernel_rfl))
 f31:=Tryz.func90.trans (congrArg some (by kernel_rfl))
 f32:=Tryz.func91.trans (congrArg some (by kernel_rfl))
 f33:=Tryz.func92.trans (congrArg some (by kernel_rfl))
 f34:=Tryz.func120.trans (congrArg some (by kernel_rfl))
 f35:=Tryz.func121.trans (congrArg some (by kernel_rfl))
 f36:=Tryz.func122.trans (congrArg some (by kernel_rfl))
 f37:=Tryz.func123.trans (congrArg some (by kernel_rfl))
 f38:=Tryz.func124.trans (congrArg some (by kernel_rfl))
 f39:=Tryz.func143.trans (congrArg some (by kernel_rfl))
 f40:=Tryz.func144.trans (congrArg some (by kernel_rfl))
 t0:=Tryz.underlying0
 a0:=Tryz.isAgg0
 z0:=Tryz.sizeOf0
 v0:=Tryz.zeroValue0
 i0:=by kernel_rfl
 t2:=Tryz.underlying2
 a2:=Tryz.isAgg2
 z2:=Tryz.sizeOf2
 v2:=Tryz.zeroValue2
 i2:=by kernel_rfl
 t3:=Tryz.underlying3
 a3:=Tryz.isAgg3
 z3:=Tryz.sizeOf3
 v3:=Tryz.zeroValue3
 i3:=by kernel_rfl
 t4:=Tryz.underlying4
 a4:=Tryz.isAgg4
 z4:=Tryz.sizeOf4
 v4:=Tryz.zeroValue4
 i4:=by kernel_rfl
 t5:=Tryz.underlying5
 a5:=Tryz.isAgg5
 z5:=Tryz.sizeOf5
 v5:=Tryz.zeroValue5
 i5:=by kernel_rfl
 t9:=Tryz.underlying9
 a9:=Tryz.isAgg9
 z9:=Tryz.sizeOf9
 v9:=Tryz.zeroValue9
 i9:=by kernel_rfl
 t20:=Tryz.underlying20
 a20:=Tryz.isAgg20
 z20:=Tryz.sizeOf20
 v20:=Tryz.zeroValue20
 i20:=by kernel_rfl
 t21:=Tryz.underlying21
 a21:=Tryz.isAgg21
 z21:=Tryz.sizeOf21
 v21:=Tryz.zeroValue21
 i21:=by kernel_rfl
 t22:=Tryz.underlying22
 a22:=Tryz.isAgg22
 z22:=Tryz.sizeOf22
 v22:=Tryz.zeroValue22
 i22:=by kernel_rfl
 t24:=Tryz.underlying67
 a24:=Tryz.isAgg67
 z24:=Tryz.sizeOf67
 v24:=Tryz.zeroValue67
 i24:=by kernel_rfl
 t25:=Tryz.underlying70
 a25:=Tryz.isAgg70
 z25:=Tryz.sizeOf70
 v25:=Tryz.zeroValue70
 i25:=by kernel_rfl
 t34:=Tryz.underlying159
 a34:=Tryz.isAgg159
 z34:=Tryz.sizeOf159
 v34:=Tryz.zeroValue159
 i34:=by kernel_rfl
 c34:=by kernel_rfl
 t36:=Tryz.underlying115
 a36:=Tryz.isAgg115
 z36:=Tryz.sizeOf115
 v36:=Tryz.zeroValue115
 i36:=by kernel_rfl
 t37:=Tryz.underlying61
 a37:=Tryz.isAgg61
 z37:=Tryz.sizeOf61
 v37:=Tryz.zeroValue61
 i37:=by kernel_rfl
 t39:=Tryz.underlying160
 a39:=Tryz.isAgg160
 z39:=Tryz.sizeOf160
 v39:=Tryz.zeroValue160
 i39:=by kernel_rfl
 t44:=Tryz.underlying194
 a44:=Tryz.isAgg194
 z44:=Tryz.sizeOf194
 v44:=Tryz.zeroValue194
 i44:=by kernel_rfl
 t47:=Tryz.underlying142
 a47:=Tryz.isAgg142
 z47:=Tryz.sizeOf142
 v47:=Tryz.zeroValue142
 i47:=by kernel_rfl
 t48:=Tryz.underlying218
 a48:=Tryz.isAgg218
 z48:=Tryz.sizeOf218
 v48:=Tryz.zeroValue218
 i48:=by kernel_rfl
 t50:=Tryz.underlying220
 a50:=Tryz.isAgg220
 z50:=Tryz.sizeOf220
 v50:=Tryz.zeroValue220
 i50:=by kernel_rfl
 t52:=Tryz.underlying152
 a52:=Tryz.isAgg152
 z52:=Tryz.sizeOf152
 v52:=Tryz.zeroValue152
 i52:=by kernel_rfl
 t55:=Tryz.underlying155
 a55:=Tryz.isAgg155
 z55:=Tryz.sizeOf155
 v55:=Tryz.zeroValue155
 i55:=by kernel_rfl
 t59:=Tryz.underlying174
 a59:=Tryz.isAgg174
 z59:=Tryz.sizeOf174
 v59:=Tryz.zeroValue174
 i59:=by kernel_rfl
 t60:=Tryz.underlying120
 a60:=Tryz.isAgg120
 z60:=Tryz.sizeOf120
 v60:=Tryz.zeroValue120
 i60:=by kernel_rfl
 t61:=Tryz.underlying175
 a61:=Tryz.isAgg175
 z61:=Tryz.sizeOf175
 t65:=Tryz.underlying90
 a65:=Tryz.isAgg90
 z65:=Tryz.sizeOf90
 v65:=Tryz.zeroValue90
 i65:=by kernel_rfl
 t66:=Tryz.underlying221
 a66:=Tryz.isAgg221
 z66:=Tryz.sizeOf221
 v66:=Tryz.zeroValue221
 i66:=by kernel_rfl
 t67:=Tryz.underlying97
 a67:=Tryz.isAgg97
 z67:=Tryz.sizeOf97
 v67:=Tryz.zeroValue97
 i67:=by kernel_rfl
 g0:=by kernel_rfl
 m0:=by kernel_rfl
 g1:=by kernel_rfl
 m1:=by kernel_rfl
 g2:=by kernel_rfl
 m2:=by kernel_rfl
 g3:=by kernel_rfl
 m3:=by kernel_rfl
 g4:=by kernel_rfl
 m4:=by kernel_rfl}
open Go.RowKit in
theorem Tryz.strconv_ParseUint_10_at64_ok(s:ByteArray)(hmax:s.size≤9223372036854775806)(u:Nat)(h:Lib.parseUintB 64 s.data.toList= .ok u)(w:World):
  Calls Tryz.prog 26 #[.string s,.int .i64 10,.int .i64 64] w fun e w'=>e= .returned (.tuple #[.int .u64 u,.nilIface])∧(w'=w∨w'=Lib.bytesWorld w 5 s):=Any.strconv_ParseUint_10_at64_ok Tryz.tN s hmax u h w
open Go.RowKit in
theorem Tryz.strconv_ParseUint_10_at64_syntax(s:ByteArray)(hlim:s.size≤281474976710656)(r:Lib.NumEnd Nat)(h:Lib.parseUintB 64 s.data.toList=r)(hr:∀v,r≠ .ok v)(hq:r≠ .range)(ev:Value)(w:World)(hv:w.cell? ⟨1,0,none⟩=some ev)(hev:ev= .nilIface∨∃te pe,ev= .iface te pe):
  Calls Tryz.prog 26 #[.string s,.int .i64 10,.int .i64 64] w fun e w'=>∃N,e= .returned (.tuple #[.int .u64 0,.iface 160 (.pointer (some ⟨N,0,none⟩))])∧w.heap.size≤N∧w'.heap[N]? =some (.cells #[.string ⟨#[80,97,114,115,101,85,105,110,116]⟩,.string s,ev] 194 (0,0))∧Below w.heap.size w w':=by
  rcases r with v|_|_
  ·exact absurd rfl (hr v)
  ·exact Any.strconv_ParseUint_10_at64_syntax Tryz.tN s hlim h ev w hv hev
  ·exact absurd rfl hq
open Go.RowKit in
theorem Tryz.strconv_ParseUint_10_at64_range(s:ByteArray)(hlim:s.size≤281474976710656)(h:Lib.parseUintB 64 s.data.toList= .range)(ev:Value)(w:World)(hv:w.cell? ⟨2,0,none⟩=some ev)(hev:ev= .nilIface∨∃te pe,ev= .iface te pe):
  Calls Tryz.prog 26 #[.string s,.int .i64 10,.int .i64 64] w fun e w'=>∃N,e= .returned (.tuple #[.int .u64 18446744073709551615,.iface 160 (.pointer (some ⟨N,0,none⟩))])∧w.heap.size≤N∧w'.heap[N]? =some (.cells #[.string ⟨#[80,97,114,115,101,85,105,110,116]⟩,.string s,ev] 194 (0,0))∧Below w.heap.size w w':=Any.strconv_ParseUint_10_at64_range Tryz.tN s hlim h ev w hv hev
def Tryz.AY:Go.Shelf.Ren:=⟨fun|102=>54|209=>88|207=>119|n=>n,fun|9=>9|4=>4|3=>3|n=>n,fun|n=>n⟩
theorem Tryz.Nq:Go.Proofs.Lays.n102 Tryz.prog Tryz.AY:= {
 mixed:=by kernel_rfl
 f102:=Tryz.func54.trans (congrArg some (by kernel_rfl))
 f207:=Tryz.func119.trans (congrArg some (by kernel_rfl))
 f209:=Tryz.func88.trans (congrArg some (by kernel_rfl))
 t3:=Tryz.underlying3
 a3:=Tryz.isAgg3
 z3:=Tryz.sizeOf3
 v3:=Tryz.zeroValue3
 t4:=Tryz.underlying4
 a4:=Tryz.isAgg4
 z4:=Tryz.sizeOf4
 v4:=Tryz.zeroValue4
 t9:=Tryz.underlying9
 a9:=Tryz.isAgg9
 z9:=Tryz.sizeOf9
 v9:=Tryz.zeroValue9}
open Go.RowKit Go.Lib in
theorem Tryz.strings_TrimSuffix(s p:ByteArray)(w:World)(hs:s.size≤9223372036854775807):
  Calls Tryz.prog 54 #[.string s,.string p] w fun e w'=>e= .returned (.string ⟨(Lib.trimSuffix s.data.toList p.data.toList).toArray⟩)∧w'=w:=Any.strings_TrimSuffix Tryz.Nq s p w hs
def Tryz.AZ:Go.Shelf.Ren:=⟨fun|146=>53|221=>87|268=>116|138=>117|143=>118|195=>139|197=>140|218=>141|219=>142|260=>152|217=>113|225=>153|224=>154|267=>155|266=>138|314=>166|n=>n,fun|9=>9|31=>55|3=>3|4=>4|0=>0|105=>201|21=>21|5=>5|46=>115|119=>186|139=>233|138=>232|146=>234|51=>120|n=>n,fun|1=>3|3=>6|4=>7|n=>n⟩
theorem Tryz.Ns:Go.Proofs.Lays.n146 Tryz.prog Tryz.AZ:= {
 mixed:=by kernel_rfl
 f138:=Tryz.func117.trans (congrArg some (by kernel_rfl))
 f143:=Tryz.func118.trans (congrArg some (by kernel_rfl))
 f146:=Tryz.func53.trans (congrArg some (by kernel_rfl))
 f195:=Tryz.func139.trans (congrArg some (by kernel_rfl))
 f197:=Tryz.func140.trans (congrArg some (by kernel_rfl))
 f217:=Tryz.func113.trans (congrArg some (by kernel_rfl))
 f218:=Tryz.func141.trans (congrArg some (by kernel_rfl))
 f219:=Tryz.func142.trans (congrArg some (by kernel_rfl))
 f221:=Tryz.func87.trans (congrArg some (by kernel_rfl))
 f224:=Tryz.func154.trans (congrArg some (by kernel_rfl))
 f225:=Tryz.func153.trans (congrArg some (by kernel_rfl))
 f260:=Tryz.func152.trans (congrArg some (by kernel_rfl))
 f266:=Tryz.func138.trans (congrArg some (by kernel_rfl))
 f267:=Tryz.func155.trans (congrArg some (by kernel_rfl))
 f268:=Tryz.func116.trans (congrArg some (by kernel_rfl))
 f314:=Tryz.func166.trans (congrArg some (by kernel_rfl))
 t0:=Tryz.underlying0
 a0:=Tryz.isAgg0
 z0:=Tryz.sizeOf0
 v0:=Tryz.zeroValue0
 t3:=Tryz.underlying3
 a3:=Tryz.isAgg3
 z3:=Tryz.sizeOf3
 v3:=Tryz.zeroValue3
 t4:=Tryz.underlying4
 a4:=Tryz.isAgg4
 z4:=Tryz.sizeOf4
 v4:=Tryz.zeroValue4
 t5:=Tryz.underlying5
 a5:=Tryz.isAgg5
 z5:=Tryz.sizeOf5
 v5:=Tryz.zeroValue5
 t9:=Tryz.underlying9
 a9:=Tryz.isAgg9
 z9:=Tryz.sizeOf9
 v9:=Tryz.zeroValue9
 t21:=Tryz.underlying21
 a21:=Tryz.isAgg21
 z21:=Tryz.sizeOf21
 v21:=Tryz.zeroValue21
 t31:=Tryz.underlying55
 a31:=Tryz.isAgg55
 z31:=Tryz.sizeOf55
 v31:=Tryz.zeroValue55
 t46:=Tryz.underlying115
 a46:=Tryz.isAgg115
 z46:=Tryz.sizeOf115
 v46:=Tryz.zeroValue115
 t51:=Tryz.underlying120
 a51:=Tryz.isAgg120
 z51:=Tryz.sizeOf120
 v51:=Tryz.zeroValue120
 t105:=Tryz.underlying201
 a105:=Tryz.isAgg201
 z105:=Tryz.sizeOf201
 v105:=Tryz.zeroValue201
 t119:=Tryz.underlying186
 a119:=Tryz.isAgg186
 z119:=Tryz.sizeOf186
 t138:=Tryz.underlying232
 a138:=Tryz.isAgg232
 z138:=Tryz.sizeOf232
 v138:=Tryz.zeroValue232
 t139:=Tryz.underlying233
 a139:=Tryz.isAgg233
 z139:=Tryz.sizeOf233
 v139:=Tryz.zeroValue233
 t146:=Tryz.underlying234
 a146:=Tryz.isAgg234
 z146:=Tryz.sizeOf234
 v146:=Tryz.zeroValue234
 g1:=by kernel_rfl
 g3:=by kernel_rfl
 g4:=by kernel_rfl}
open Go.RowKit Go.Lib in
theorem Tryz.strings_Split(s sep:ByteArray)(m:Int)(w:World)(hs:s.size<4294967281)(hm:w.cell? ⟨3,0,none⟩=some (.int .i64 m))(h1:1≤sep.size):
  Calls Tryz.prog 53 #[.string s,.string sep] w fun e w'=>
   e= .returned (.slice (some ⟨w.heap.size,0,none⟩) (Lib.countB s sep+1) (Lib.countB s sep+1))∧w'=w.alloc (.cells ((Lib.splitB sep 0 (Lib.countB s sep) s).map Value.string).toArray 9):=Any.strings_Split Tryz.Ns (by kernel_rfl) s sep m w hs hm h1
def Tryz.r9:Go.Shelf.Ren:=⟨fun|169=>44|n=>n,fun|70=>82|9=>9|0=>0|72=>84|37=>61|127=>142|3=>3|5=>5|n=>n,fun|n=>n⟩
theorem Tryz.Nt:Go.Proofs.Lays.n169 Tryz.prog Tryz.r9:= {
 mixed:=by kernel_rfl
 f169:=Tryz.func44.trans (congrArg some (by kernel_rfl))
 t0:=Tryz.underlying0
 a0:=Tryz.isAgg0
 z0:=Tryz.sizeOf0
 v0:=Tryz.zeroValue0
 t3:=Tryz.underlying3
 a3:=Tryz.isAgg3
 z3:=Tryz.sizeOf3
 v3:=Tryz.zeroValue3
 t9:=Tryz.underlying9
 a9:=Tryz.isAgg9
 z9:=Tryz.sizeOf9
 v9:=Tryz.zeroValue9
 t37:=Tryz.underlying61
 a37:=Tryz.isAgg61
 z37:=Tryz.sizeOf61
 v37:=Tryz.zeroValue61
 t70:=Tryz.underlying82
 a70:=Tryz.isAgg82
 z70:=Tryz.sizeOf82
 v70:=Tryz.zeroValue82
 t72:=Tryz.underlying84
 a72:=Tryz.isAgg84
 z72:=Tryz.sizeOf84
 v72:=Tryz.zeroValue84
 t127:=Tryz.underlying142
 a127:=Tryz.isAgg142
 z127:=Tryz.sizeOf142
 v127:=Tryz.zeroValue142}
theorem Tryz.oO:Builder.Extra Tryz.prog Tryz.r9:= {
 sizeBuilder:=by kernel_rfl
 liesBuilder:=by kernel_rfl
 t5:=Tryz.underlying5
 a5:=Tryz.isAgg5
 z5:=Tryz.sizeOf5
 v5:=Tryz.zeroValue5
 infoByte:=by kernel_rfl
 cellsByte:=by kernel_rfl
 sizeByte:=by kernel_rfl
 neB5:=by decide}
open Go.RowKit in
theorem Tryz.Builder_String_any(B b:Nat)(l:List UInt8)(w:World)(h:Lib.IsBuilder 84 5 B b (Lib.byteCells l) w)(hBw:B≤w.heap.size):
  Calls Tryz.prog 44 #[.pointer (some ⟨b,0,none⟩)] w fun e w'=>e= .returned (.string ⟨l.toArray⟩)∧Below B w w':=Any.Builder_String_any Tryz.Nt Tryz.oO B b l w h hBw
def Tryz.yM:Go.Shelf.Ren:=⟨fun|173=>20|246=>58|283=>89|284=>90|285=>91|286=>92|129=>121|317=>120|318=>122|319=>123|320=>124|337=>143|338=>144|n=>n,fun|2=>2|3=>3|9=>9|4=>4|171=>152|0=>0|53=>22|37=>61|5=>5|173=>155|212=>174|51=>120|20=>20|213=>175|46=>115|232=>90|233=>221|n=>n,fun|17=>0|18=>4|19=>5|n=>n⟩
theorem Tryz.oP:Go.Proofs.LaysM.n173 Tryz.prog Tryz.yM:= {
 mixed:=by kernel_rfl
 f129:=Tryz.func121.trans (congrArg some (by kernel_rfl))
 f173:=Tryz.func20.trans (congrArg some (by kernel_rfl))
 f246:=Tryz.func58.trans (congrArg some (by kernel_rfl))
 f283:=Tryz.func89.trans (congrArg some (by kernel_rfl))
 f284:=Tryz.func90.trans (congrArg some (by kernel_rfl))
 f285:=Tryz.func91.trans (congrArg some (by kernel_rfl))
 f286:=Tryz.func92.trans (congrArg some (by kernel_rfl))
 f317:=Tryz.func120.trans (congrArg some (by kernel_rfl))
 f318:=Tryz.func122.trans (congrArg some (by kernel_rfl))
 f319:=Tryz.func123.trans (congrArg some (by kernel_rfl))
 f320:=Tryz.func124.trans (congrArg some (by kernel_rfl))
 f337:=Tryz.func143.trans (congrArg some (by kernel_rfl))
 f338:=Tryz.func144.trans (congrArg some (by kernel_rfl))
 t0:=Tryz.underlying0
 a0:=Tryz.isAgg0
 z0:=Tryz.sizeOf0
 v0:=Tryz.zeroValue0
 t2:=Tryz.underlying2
 a2:=Tryz.isAgg2
 z2:=Tryz.sizeOf2
 v2:=Tryz.zeroValue2
 t3:=Tryz.underlying3
 a3:=Tryz.isAgg3
 z3:=Tryz.sizeOf3
 v3:=Tryz.zeroValue3
 t4:=Tryz.underlying4
 a4:=Tryz.isAgg4
 z4:=Tryz.sizeOf4
 v4:=Tryz.zeroValue4
 t5:=Tryz.underlying5
 a5:=Tryz.isAgg5
 z5:=Tryz.sizeOf5
 v5:=Tryz.zeroValue5
 t9:=Tryz.underlying9
 a9:=Tryz.isAgg9
 z9:=Tryz.sizeOf9
 v9:=Tryz.zeroValue9
 t20:=Tryz.underlying20
 a20:=Tryz.isAgg20
 z20:=Tryz.sizeOf20
 v20:=Tryz.zeroValue20
 t37:=Tryz.underlying61
 a37:=Tryz.isAgg61
 z37:=Tryz.sizeOf61
 v37:=Tryz.zeroValue61
 t46:=Tryz.underlying115
 a46:=Tryz.isAgg115
 z46:=Tryz.sizeOf115
 v46:=Tryz.zeroValue115
 t51:=Tryz.underlying120
 a51:=Tryz.isAgg120
 z51:=Tryz.sizeOf120
 v51:=Tryz.zeroValue120
 t53:=Tryz.underlying22
 a53:=Tryz.isAgg22
 z53:=Tryz.sizeOf22
 v53:=Tryz.zeroValue22
 t171:=Tryz.underlying152
 a171:=Tryz.isAgg152
 z171:=Tryz.sizeOf152
 v171:=Tryz.zeroValue152
 t173:=Tryz.underlying155
 a173:=Tryz.isAgg155
 z173:=Tryz.sizeOf155
 v173:=Tryz.zeroValue155
 t212:=Tryz.underlying174
 a212:=Tryz.isAgg174
 z212:=Tryz.sizeOf174
 v212:=Tryz.zeroValue174
 t213:=Tryz.underlying175
 a213:=Tryz.isAgg175
 z213:=Tryz.sizeOf175
 t232:=Tryz.underlying90
 a232:=Tryz.isAgg90
 z232:=Tryz.sizeOf90
 v232:=Tryz.zeroValue90
 t233:=Tryz.underlying221
 a233:=Tryz.isAgg221
 z233:=Tryz.sizeOf221
 v233:=Tryz.zeroValue221
 g17:=by kernel_rfl
 g18:=by kernel_rfl
 g19:=by kernel_rfl
 i0:=by kernel_rfl
 i2:=by kernel_rfl
 i3:=by kernel_rfl
 i4:=by kernel_rfl
 i5:=by kernel_rfl
 i9:=by kernel_rfl
 i20:=by kernel_rfl
 i37:=by kernel_rfl
 i46:=by kernel_rfl
 i51:=by kernel_rfl
 i53:=by kernel_rfl
 i171:=by kernel_rfl
 i173:=by kernel_rfl
 i212:=by kernel_rfl
 i232:=by kernel_rfl
 i233:=by kernel_rfl
 m17:=by kernel_rfl
 m18:=by kernel_rfl
 m19:=by kernel_rfl}
open Go.RowKit Go.Sort Go.Lib in
theorem Tryz.strconv_FormatInt_10(n:Int)(h0: -9223372036854775808≤n)(h1:n≤9223372036854775807)(w:World)(htab:Lib.TabIs Tryz.prog w "internal/strconv.uint64pow10" .u64 Lib.pow10Tab):
  Calls Tryz.prog 20 #[.int .i64 n,.int .i64 10] w fun e w'=>e= .returned (.string ⟨(Lib.itoa n).toArray⟩)∧∃k os,w'=grow (w.drewN k) os:=Any.strconv_FormatInt_10 Tryz.oP n h0 h1 w htab
def Tryz.yN:Go.Shelf.Ren:=⟨fun|245=>67|279=>96|280=>97|281=>98|282=>99|316=>131|171=>133|205=>132|243=>151|246=>58|283=>89|284=>90|285=>91|286=>92|129=>121|317=>120|318=>122|319=>123|320=>124|337=>143|338=>144|n=>n,fun|9=>9|3=>3|75=>67|167=>159|4=>4|168=>160|210=>194|37=>61|0=>0|127=>142|145=>220|143=>218|2=>2|171=>152|53=>22|5=>5|173=>155|212=>174|51=>120|20=>20|213=>175|46=>115|232=>90|233=>221|80=>97|n=>n,fun|15=>1|16=>2|17=>0|18=>4|19=>5|n=>n⟩
theorem Tryz.A0:Go.Proofs.LaysC.n245 Tryz.prog Tryz.yN:= {
 mixed:=by kernel_rfl
 f129:=Tryz.func121.trans (congrArg some (by kernel_rfl))
 f171:=Tryz.func133.trans (congrArg some (by kernel_rfl))
 f205:=Tryz.func132.trans (congrArg some (by kernel_rfl))
 f243:=Tryz.func151.trans (congrArg some (by kernel_rfl))
 f245:=Tryz.func67.trans (congrArg some (by kernel_rfl))
 f246:=Tryz.func58.trans (congrArg some (by kernel_rfl))
 f279:=Tryz.func96.trans (congrArg some (by kernel_rfl))
 f280:=Tryz.func97.trans (congrArg some (by kernel_rfl))
 f281:=Tryz.func98.trans (congrArg some (by kernel_rfl))
 f282:=Tryz.func99.trans (congrArg some (by kernel_rfl))
 f283:=Tryz.func89.trans (congrArg some (by kernel_rfl))
 f284:=Tryz.func90.trans (congrArg some (by kernel_rfl))
 f285:=Tryz.func91.trans (congrArg some (by kernel_rfl))
 f286:=Tryz.func92.trans (congrArg some (by kernel_rfl))
 f316:=Tryz.func131.trans (congrArg some (by kernel_rfl))
 f317:=Tryz.func120.trans (congrArg some (by kernel_rfl))
 f318:=Tryz.func122.trans (congrArg some (by kernel_rfl))
 f319:=Tryz.func123.trans (congrArg some (by kernel_rfl))
 f320:=Tryz.func124.trans (congrArg some (by kernel_rfl))
 f337:=Tryz.func143.trans (congrArg some (by kernel_rfl))
 f338:=Tryz.func144.trans (congrArg some (by kernel_rfl))
 t0:=Tryz.underlying0
 a0:=Tryz.isAgg0
 z0:=Tryz.sizeOf0
 v0:=Tryz.zeroValue0
 t2:=Tryz.underlying2
 a2:=Tryz.isAgg2
 z2:=Tryz.sizeOf2
 v2:=Tryz.zeroValue2
 t3:=Tryz.underlying3
 a3:=Tryz.isAgg3
 z3:=Tryz.sizeOf3
 v3:=Tryz.zeroValue3
 t4:=Tryz.underlying4
 a4:=Tryz.isAgg4
 z4:=Tryz.sizeOf4
 v4:=Tryz.zeroValue4
 t5:=Tryz.underlying5
 a5:=Tryz.isAgg5
 z5:=Tryz.sizeOf5
 v5:=Tryz.zeroValue5
 t9:=Tryz.underlying9
 a9:=Tryz.isAgg9
 z9:=Tryz.sizeOf9
 v9:=Tryz.zeroValue9
 t20:=Tryz.underlying20
 a20:=Tryz.isAgg20
 z20:=Tryz.sizeOf20
 v20:=Tryz.zeroValue20
 t37:=Tryz.underlying61
 a37:=Tryz.isAgg61
 z37:=Tryz.sizeOf61
 v37:=Tryz.zeroValue61
 t46:=Tryz.underlying115
 a46:=Tryz.isAgg115
 z46:=Tryz.sizeOf115
 v46:=Tryz.zeroValue115
 t51:=Tryz.underlying120
 a51:=Tryz.isAgg120
 z51:=Tryz.sizeOf120
 v51:=Tryz.zeroValue120
 t53:=Tryz.underlying22
 a53:=Tryz.isAgg22
 z53:=Tryz.sizeOf22
 v53:=Tryz.zeroValue22
 t75:=Tryz.underlying67
 a75:=Tryz.isAgg67
 z75:=Tryz.sizeOf67
 v75:=Tryz.zeroValue67
 t127:=Tryz.underlying142
 a127:=Tryz.isAgg142
 z127:=Tryz.sizeOf142
 v127:=Tryz.zeroValue142
 t143:=Tryz.underlying218
 a143:=Tryz.isAgg218
 z143:=Tryz.sizeOf218
 v143:=Tryz.zeroValue218
 t145:=Tryz.underlying220
 a145:=Tryz.isAgg220
 z145:=Tryz.sizeOf220
 v145:=Tryz.zeroValue220
 t167:=Tryz.underlying159
 a167:=Tryz.isAgg159
 z167:=Tryz.sizeOf159
 v167:=Tryz.zeroValue159
 t168:=Tryz.underlying160
 a168:=Tryz.isAgg160
 z168:=Tryz.sizeOf160
 v168:=Tryz.zeroValue160
 t171:=Tryz.underlying152
 a171:=Tryz.isAgg152
 z171:=Tryz.sizeOf152
 v171:=Tryz.zeroValue152
 t173:=Tryz.underlying155
 a173:=Tryz.isAgg155
 z173:=Tryz.sizeOf155
 v173:=Tryz.zeroValue155
 t210:=Tryz.underlying194
 a210:=Tryz.isAgg194
 z210:=Tryz.sizeOf194
 v210:=Tryz.zeroValue194
 t212:=Tryz.underlying174
 a212:=Tryz.isAgg174
 z212:=Tryz.sizeOf174
 v212:=Tryz.zeroValue174
 t213:=Tryz.underlying175
 a213:=Tryz.isAgg175
 z213:=Tryz.sizeOf175
 t232:=Tryz.underlying90
 a232:=Tryz.isAgg90
 z232:=Tryz.sizeOf90
 v232:=Tryz.zeroValue90
 t233:=Tryz.underlying221
 a233:=Tryz.isAgg221
 z233:=Tryz.sizeOf221
 v233:=Tryz.zeroValue221
 g15:=by kernel_rfl
 g16:=by kernel_rfl
 g17:=by kernel_rfl
 g18:=by kernel_rfl
 g19:=by kernel_rfl
 t80:=Tryz.underlying97
 a80:=Tryz.isAgg97
 z80:=Tryz.sizeOf97
 v80:=Tryz.zeroValue97
 i0:=by kernel_rfl
 i2:=by kernel_rfl
 i3:=by kernel_rfl
 i4:=by kernel_rfl
 i5:=by kernel_rfl
 i9:=by kernel_rfl
 i20:=by kernel_rfl
 i37:=by kernel_rfl
 i46:=by kernel_rfl
 i51:=by kernel_rfl
 i53:=by kernel_rfl
 i75:=by kernel_rfl
 i80:=by kernel_rfl
 i127:=by kernel_rfl
 i143:=by kernel_rfl
 i145:=by kernel_rfl
 i167:=by kernel_rfl
 i168:=by kernel_rfl
 i171:=by kernel_rfl
 i173:=by kernel_rfl
 i210:=by kernel_rfl
 i212:=by kernel_rfl
 i232:=by kernel_rfl
 i233:=by kernel_rfl
 m15:=by kernel_rfl
 m16:=by kernel_rfl
 m17:=by kernel_rfl
 m18:=by kernel_rfl
 m19:=by kernel_rfl
 c0:=by kernel_rfl
 c2:=by kernel_rfl
 c3:=by kernel_rfl
 c4:=by kernel_rfl
 c5:=by kernel_rfl
 c9:=by kernel_rfl
 c20:=by kernel_rfl
 c37:=by kernel_rfl
 c46:=by kernel_rfl
 c51:=by kernel_rfl
 c53:=by kernel_rfl
 c75:=by kernel_rfl
 c80:=by kernel_rfl
 c127:=by kernel_rfl
 c143:=by kernel_rfl
 c145:=by kernel_rfl
 c167:=by kernel_rfl
 c168:=by kernel_rfl
 c171:=by kernel_rfl
 c173:=by kernel_rfl
 c210:=by kernel_rfl
 c212:=by kernel_rfl
 c213:=by kernel_rfl
 c232:=by kernel_rfl
 c233:=by kernel_rfl}
open Go.RowKit in
theorem Tryz.strconv_toError_syntax(fn s:ByteArray)(base bits:Int)(ev:Value)(w:World)(hlim:s.size≤281474976710656)(hv:w.cell? ⟨1,0,none⟩=some ev)(hev:ev= .nilIface∨∃te pe,ev= .iface te pe):
  Calls Tryz.prog 67 #[.string fn,.string s,.int .i64 base,.int .i64 bits,.iface 159 (.int .i64 2)] w fun e w'=>∃N,e= .returned (.iface 160 (.pointer (some ⟨N,0,none⟩)))∧w.heap.size≤N∧w'.heap[N]? =some (.cells #[.string fn,.string s,ev] 194 (0,0))∧Below w.heap.size w w':=Any.strconv_toError_syntax Tryz.A0 fn s base bits ev w hlim hv hev
def Tryz.A1:Go.Shelf.Ren:=⟨fun|321=>100|n=>n,fun|5=>5|n=>n,fun|n=>n⟩
theorem Tryz.Nu:Go.Proofs.Lays.n321 Tryz.prog Tryz.A1:= {
 mixed:=by kernel_rfl
 f321:=Tryz.func100.trans (congrArg some (by kernel_rfl))
 t5:=Tryz.underlying5
 a5:=Tryz.isAgg5
 z5:=Tryz.sizeOf5
 v5:=Tryz.zeroValue5}
open Go.RowKit in
theorem Tryz.internal_strconv_lower(c:Int)(w:World):
  Calls Tryz.prog 100 #[.int .u8 c] w fun e w'=>e= .returned (.int .u8 (bits .or .u8 c 32))∧w'=w:=Any.internal_strconv_lower Tryz.Nu c w
open Go.RowKit in
theorem Tryz.strconv_toError_range(fn s:ByteArray)(base bits:Int)(ev:Value)(w:World)(hlim:s.size≤281474976710656)(hv:w.cell? ⟨2,0,none⟩=some ev)(hev:ev= .nilIface∨∃te pe,ev= .iface te pe):
  Calls Tryz.prog 67 #[.string fn,.string s,.int .i64 base,.int .i64 bits,.iface 159 (.int .i64 1)] w fun e w'=>∃N,e= .returned (.iface 160 (.pointer (some ⟨N,0,none⟩)))∧w.heap.size≤N∧w'.heap[N]? =some (.cells #[.string fn,.string s,ev] 194 (0,0))∧Below w.heap.size w w':=Any.strconv_toError_range Tryz.A0 fn s base bits ev w hlim hv hev
def Tryz.yO:Go.Shelf.Ren:=⟨fun|174=>25|247=>66|245=>67|287=>68|279=>96|280=>97|281=>98|282=>99|321=>100|322=>101|316=>131|171=>133|205=>132|243=>151|246=>58|283=>89|284=>90|285=>91|286=>92|129=>121|317=>120|318=>122|319=>123|320=>124|337=>143|338=>144|n=>n,fun|9=>9|3=>3|2=>2|75=>67|85=>68|4=>4|167=>159|5=>5|53=>22|175=>70|46=>115|168=>160|37=>61|0=>0|210=>194|21=>21|127=>142|145=>220|143=>218|171=>152|173=>155|212=>174|51=>120|20=>20|213=>175|232=>90|233=>221|80=>97|n=>n,fun|15=>1|16=>2|17=>0|18=>4|19=>5|n=>n⟩
theorem Tryz.tO:Go.Proofs.LaysC.n174 Tryz.prog Tryz.yO:= {
 mixed:=by kernel_rfl
 f129:=Tryz.func121.trans (congrArg some (by kernel_rfl))
 f171:=Tryz.func133.trans (congrArg some (by kernel_rfl))
 f174:=Tryz.func25.trans (congrArg some (by kernel_rfl))
 f205:=Tryz.func132.trans (congrArg some (by kernel_rfl))
 f243:=Tryz.func151.trans (congrArg some (by kernel_rfl))
 f245:=Tryz.func67.trans (congrArg some (by kernel_rfl))
 f246:=Tryz.func58.trans (congrArg some (by kernel_rfl))
 f247:=Tryz.func66.trans (congrArg some (by kernel_rfl))
 f279:=Tryz.func96.trans (congrArg some (by kernel_rfl))
 f280:=Tryz.func97.trans (congrArg some (by kernel_rfl))
 f281:=Tryz.func98.trans (congrArg some (by kernel_rfl))
 f282:=Tryz.func99.trans (congrArg some (by kernel_rfl))
 f283:=Tryz.func89.trans (congrArg some (by kernel_rfl))
 f284:=Tryz.func90.trans (congrArg some (by kernel_rfl))
 f285:=Tryz.func91.trans (congrArg some (by kernel_rfl))
 f286:=Tryz.func92.trans (congrArg some (by kernel_rfl))
 f287:=Tryz.func68.trans (congrArg some (by kernel_rfl))
 f316:=Tryz.func131.trans (congrArg some (by kernel_rfl))
 f317:=Tryz.func120.trans (congrArg some (by kernel_rfl))
 f318:=Tryz.func122.trans (congrArg some (by kernel_rfl))
 f319:=Tryz.func123.trans (congrArg some (by kernel_rfl))
 f320:=Tryz.func124.trans (congrArg some (by kernel_rfl))
 f321:=Tryz.func100.trans (congrArg some (by kernel_rfl))
 f322:=Tryz.func101.trans (congrArg some (by kernel_rfl))
 f337:=Tryz.func143.trans (congrArg some (by kernel_rfl))
 f338:=Tryz.func144.trans (congrArg some (by kernel_rfl))
 t0:=Tryz.underlying0
 a0:=Tryz.isAgg0
 z0:=Tryz.sizeOf0
 v0:=Tryz.zeroValue0
 t2:=Tryz.underlying2
 a2:=Tryz.isAgg2
 z2:=Tryz.sizeOf2
 v2:=Tryz.zeroValue2
 t3:=Tryz.underlying3
 a3:=Tryz.isAgg3
 z3:=Tryz.sizeOf3
 v3:=Tryz.zeroValue3
 t4:=Tryz.underlying4
 a4:=Tryz.isAgg4
 z4:=Tryz.sizeOf4
 v4:=Tryz.zeroValue4
 t5:=Tryz.underlying5
 a5:=Tryz.isAgg5
 z5:=Tryz.sizeOf5
 v5:=Tryz.zeroValue5
 t9:=Tryz.underlying9
 a9:=Tryz.isAgg9
 z9:=Tryz.sizeOf9
 v9:=Tryz.zeroValue9
 t20:=Tryz.underlying20
 a20:=Tryz.isAgg20
 z20:=Tryz.sizeOf20
 v20:=Tryz.zeroValue20
 t21:=Tryz.underlying21
 a21:=Tryz.isAgg21
 z21:=Tryz.sizeOf21
 v21:=Tryz.zeroValue21
 t37:=Tryz.underlying61
 a37:=Tryz.isAgg61
 z37:=Tryz.sizeOf61
 v37:=Tryz.zeroValue61
 t46:=Tryz.underlying115
 a46:=Tryz.isAgg115
 z46:=Tryz.sizeOf115
 v46:=Tryz.zeroValue115
 t51:=Tryz.underlying120
 a51:=Tryz.isAgg120
 z51:=Tryz.sizeOf120
 v51:=Tryz.zeroValue120
 t53:=Tryz.underlying22
 a53:=Tryz.isAgg22
 z53:=Tryz.sizeOf22
 v53:=Tryz.zeroValue22
 t75:=Tryz.underlying67
 a75:=Tryz.isAgg67
 z75:=Tryz.sizeOf67
 v75:=Tryz.zeroValue67
 t85:=Tryz.underlying68
 a85:=Tryz.isAgg68
 z85:=Tryz.sizeOf68
 v85:=Tryz.zeroValue68
 t127:=Tryz.underlying142
 a127:=Tryz.isAgg142
 z127:=Tryz.sizeOf142
 v127:=Tryz.zeroValue142
 t143:=Tryz.underlying218
 a143:=Tryz.isAgg218
 z143:=Tryz.sizeOf218
 v143:=Tryz.zeroValue218
 t145:=Tryz.underlying220
 a145:=Tryz.isAgg220
 z145:=Tryz.sizeOf220
 v145:=Tryz.zeroValue220
 t167:=Tryz.underlying159
 a167:=Tryz.isAgg159
 z167:=Tryz.sizeOf159
 v167:=Tryz.zeroValue159
 t168:=Tryz.underlying160
 a168:=Tryz.isAgg160
 z168:=Tryz.sizeOf160
 v168:=Tryz.zeroValue160
 t171:=Tryz.underlying152
 a171:=Tryz.isAgg152
 z171:=Tryz.sizeOf152
 v171:=Tryz.zeroValue152
 t173:=Tryz.underlying155
 a173:=Tryz.isAgg155
 z173:=Tryz.sizeOf155
 v173:=Tryz.zeroValue155
 t175:=Tryz.underlying70
 a175:=Tryz.isAgg70
 z175:=Tryz.sizeOf70
 v175:=Tryz.zeroValue70
 t210:=Tryz.underlying194
 a210:=Tryz.isAgg194
 z210:=Tryz.sizeOf194
 v210:=Tryz.zeroValue194
 t212:=Tryz.underlying174
 a212:=Tryz.isAgg174
 z212:=Tryz.sizeOf174
 v212:=Tryz.zeroValue174
 t213:=Tryz.underlying175
 a213:=Tryz.isAgg175
 z213:=Tryz.sizeOf175
 t232:=Tryz.underlying90
 a232:=Tryz.isAgg90
 z232:=Tryz.sizeOf90
 v232:=Tryz.zeroValue90
 t233:=Tryz.underlying221
 a233:=Tryz.isAgg221
 z233:=Tryz.sizeOf221
 v233:=Tryz.zeroValue221
 g15:=by kernel_rfl
 g16:=by kernel_rfl
 g17:=by kernel_rfl
 g18:=by kernel_rfl
 g19:=by kernel_rfl
 t80:=Tryz.underlying97
 a80:=Tryz.isAgg97
 z80:=Tryz.sizeOf97
 v80:=Tryz.zeroValue97
 i0:=by kernel_rfl
 i2:=by kernel_rfl
 i3:=by kernel_rfl
 i4:=by kernel_rfl
 i5:=by kernel_rfl
 i9:=by kernel_rfl
 i20:=by kernel_rfl
 i21:=by kernel_rfl
 i37:=by kernel_rfl
 i46:=by kernel_rfl
 i51:=by kernel_rfl
 i53:=by kernel_rfl
 i75:=by kernel_rfl
 i80:=by kernel_rfl
 i85:=by kernel_rfl
 i127:=by kernel_rfl
 i143:=by kernel_rfl
 i145:=by kernel_rfl
 i167:=by kernel_rfl
 i168:=by kernel_rfl
 i171:=by kernel_rfl
 i173:=by kernel_rfl
 i175:=by kernel_rfl
 i210:=by kernel_rfl
 i212:=by kernel_rfl
 i232:=by kernel_rfl
 i233:=by kernel_rfl
 m15:=by kernel_rfl
 m16:=by kernel_rfl
 m17:=by kernel_rfl
 m18:=by kernel_rfl
 m19:=by kernel_rfl
 c0:=by kernel_rfl
 c2:=by kernel_rfl
 c3:=by kernel_rfl
 c4:=by kernel_rfl
 c5:=by kernel_rfl
 c9:=by kernel_rfl
 c20:=by kernel_rfl
 c21:=by kernel_rfl
 c37:=by kernel_rfl
 c46:=by kernel_rfl
 c51:=by kernel_rfl
 c53:=by kernel_rfl
 c75:=by kernel_rfl
 c80:=by kernel_rfl
 c85:=by kernel_rfl
 c127:=by kernel_rfl
 c143:=by kernel_rfl
 c145:=by kernel_rfl
 c167:=by kernel_rfl
 c168:=by kernel_rfl
 c171:=by kernel_rfl
 c173:=by kernel_rfl
 c175:=by kernel_rfl
 c210:=by kernel_rfl
 c212:=by kernel_rfl
 c213:=by kernel_rfl
 c232:=by kernel_rfl
 c233:=by kernel_rfl}
open Go.RowKit in
theorem Tryz.strconv_ParseInt_10_at64_ok(s:ByteArray)(hmax:s.size≤9223372036854775806)(v:Int)(h:Lib.parseIntB 64 s.data.toList= .ok v)(w:World):
  Calls Tryz.prog 25 #[.string s,.int .i64 10,.int .i64 64] w fun e w'=>e= .returned (.tuple #[.int .i64 v,.nilIface])∧(w'=w∨∃t,w'=Lib.bytesWorld w 5 t):=Any.strconv_ParseInt_10_at64_ok Tryz.tO s hmax v h w
open Go.RowKit in
theorem Tryz.strconv_ParseInt_10_at64_range(s:ByteArray)(hlim:s.size≤281474976710656)(h:Lib.parseIntB 64 s.data.toList= .range)(ev:Value)(w:World)(hv:w.cell? ⟨2,0,none⟩=some ev)(hev:ev= .nilIface∨∃te pe,ev= .iface te pe):
  Calls Tryz.prog 25 #[.string s,.int .i64 10,.int .i64 64] w fun e w'=>∃N,e= .returned (.tuple #[.int .i64 (Lib.intSat 64 s.data.toList),.iface 160 (.pointer (some ⟨N,0,none⟩))])∧w.heap.size≤N∧w'.heap[N]? =some (.cells #[.string ⟨#[80,97,114,115,101,73,110,116]⟩,.string s,ev] 194 (0,0))∧Below w.heap.size w w':=Any.strconv_ParseInt_10_at64_range Tryz.tO s hlim h ev w hv hev
def Tryz.A2:Go.Shelf.Ren:=⟨fun|138=>117|195=>139|218=>141|143=>118|219=>142|217=>113|225=>153|224=>154|267=>155|266=>138|314=>166|n=>n,fun|9=>9|3=>3|4=>4|5=>5|0=>0|46=>115|146=>234|51=>120|n=>n,fun|1=>3|n=>n⟩
theorem Tryz.Nv:Go.Proofs.Lays.n138 Tryz.prog Tryz.A2:= {
 mixed:=by kernel_rfl
 f138:=Tryz.func117.trans (congrArg some (by kernel_rfl))
 f143:=Tryz.func118.trans (congrArg some (by kernel_rfl))
 f195:=Tryz.func139.trans (congrArg some (by kernel_rfl))
 f217:=Tryz.func113.trans (congrArg some (by kernel_rfl))
 f218:=Tryz.func141.trans (congrArg some (by kernel_rfl))
 f219:=Tryz.func142.trans (congrArg some (by kernel_rfl))
 f224:=Tryz.func154.trans (congrArg some (by kernel_rfl))
 f225:=Tryz.func153.trans (congrArg some (by kernel_rfl))
 f266:=Tryz.func138.trans (congrArg some (by kernel_rfl))
 f267:=Tryz.func155.trans (congrArg some (by kernel_rfl))
 f314:=Tryz.func166.trans (congrArg some (by kernel_rfl))
 t0:=Tryz.underlying0
 a0:=Tryz.isAgg0
 z0:=Tryz.sizeOf0
 v0:=Tryz.zeroValue0
 t3:=Tryz.underlying3
 a3:=Tryz.isAgg3
 z3:=Tryz.sizeOf3
 v3:=Tryz.zeroValue3
 t4:=Tryz.underlying4
 a4:=Tryz.isAgg4
 z4:=Tryz.sizeOf4
 v4:=Tryz.zeroValue4
 t5:=Tryz.underlying5
 a5:=Tryz.isAgg5
 z5:=Tryz.sizeOf5
 v5:=Tryz.zeroValue5
 t9:=Tryz.underlying9
 a9:=Tryz.isAgg9
 z9:=Tryz.sizeOf9
 v9:=Tryz.zeroValue9
 t46:=Tryz.underlying115
 a46:=Tryz.isAgg115
 z46:=Tryz.sizeOf115
 v46:=Tryz.zeroValue115
 t51:=Tryz.underlying120
 a51:=Tryz.isAgg120
 z51:=Tryz.sizeOf120
 v51:=Tryz.zeroValue120
 t146:=Tryz.underlying234
 a146:=Tryz.isAgg234
 z146:=Tryz.sizeOf234
 v146:=Tryz.zeroValue234
 g1:=by kernel_rfl}
open Go.RowKit Go.Lib in
theorem Tryz.strings_Count_one(s:ByteArray)(c:UInt8)(w:World):
  Calls Tryz.prog 117 #[.string s,.string ⟨#[c]⟩] w fun e w'=>e= .returned (.int .i64 (Lib.countByte s.data.toList c))∧w'=w:=Any.strings_Count_one Tryz.Nv s c w
def Tryz.yP:Go.Shelf.Ren:=⟨fun|15=>72|20=>105|n=>n,fun|9=>9|23=>139|3=>3|4=>4|0=>0|21=>21|n=>n,fun|n=>n⟩
theorem Tryz.I3:Go.Proofs.LaysGw.n15 Tryz.prog Tryz.yP:= {
 mixed:=by kernel_rfl
 f15:=Tryz.func72.trans (congrArg some (by kernel_rfl))
 f20:=Tryz.func105.trans (congrArg some (by kernel_rfl))
 t0:=Tryz.underlying0
 a0:=Tryz.isAgg0
 z0:=Tryz.sizeOf0
 v0:=Tryz.zeroValue0
 i0:=by kernel_rfl
 t3:=Tryz.underlying3
 a3:=Tryz.isAgg3
 z3:=Tryz.sizeOf3
 v3:=Tryz.zeroValue3
 i3:=by kernel_rfl
 t4:=Tryz.underlying4
 a4:=Tryz.isAgg4
 z4:=Tryz.sizeOf4
 v4:=Tryz.zeroValue4
 i4:=by kernel_rfl
 t9:=Tryz.underlying9
 a9:=Tryz.isAgg9
 z9:=Tryz.sizeOf9
 v9:=Tryz.zeroValue9
 i9:=by kernel_rfl
 t21:=Tryz.underlying21
 a21:=Tryz.isAgg21
 z21:=Tryz.sizeOf21
 v21:=Tryz.zeroValue21
 i21:=by kernel_rfl
 t23:=Tryz.underlying139
 a23:=Tryz.isAgg139
 z23:=Tryz.sizeOf139
 v23:=Tryz.zeroValue139
 i23:=by kernel_rfl}
open Go.RowKit Go.Lib in
theorem Tryz.strings_IndexFunc(g:Nat)(lb:Array Value)(eg:∀args w,(callFunc g args).run Tryz.prog w= .ok (.enter g args) w)(p:Nat→Bool)(s:ByteArray)(w:World)(hp:PredAt Tryz.prog g lb encR p w):
  Calls Tryz.prog 72 #[.string s,.func (.func g) #[] lb] w fun e w'=>e= .returned (.int .i64 (Lib.idxFunc p true s))∧Below w.heap.size w w':=Any.strings_IndexFunc Tryz.I3 g lb eg p s w hp
end Go.Proofs
namespace Go.Proofs.YtdmpneafeadbbaaGreatDoor
section
open Go Go.az
namespace Tb
def pA:bP:=fun g=>Nat.blt g 0
def y1:TI:=⟨Tryz.t1,Tryz.t1.desc,nat_lit 1,false,false,false⟩
theorem VD:aL Tryz.prog 1 y1:= .of (by kernel_rfl) (by kernel_rfl) (by kernel_rfl)
def y2:TI:=⟨Tryz.t2,Tryz.t2.desc,nat_lit 1,false,false,false⟩
theorem VE:aL Tryz.prog 2 y2:= .of (by kernel_rfl) (by kernel_rfl) (by kernel_rfl)
def y3:TI:=⟨Tryz.t3,Tryz.t3.desc,nat_lit 1,false,false,false⟩
theorem VF:aL Tryz.prog 3 y3:= .of (by kernel_rfl) (by kernel_rfl) (by kernel_rfl)
def y4:TI:=⟨Tryz.t4,Tryz.t4.desc,nat_lit 1,false,false,false⟩
theorem VG:aL Tryz.prog 4 y4:= .of (by kernel_rfl) (by kernel_rfl) (by kernel_rfl)
def y5:TI:=⟨Tryz.t5,Tryz.t5.desc,nat_lit 1,false,false,false⟩
theorem VH:aL Tryz.prog 5 y5:= .of (by kernel_rfl) (by kernel_rfl) (by kernel_rfl)
def y9:TI:=⟨Tryz.t9,Tryz.t9.desc,nat_lit 1,false,false,false⟩
theorem VI:aL Tryz.prog 9 y9:= .of (by kernel_rfl) (by kernel_rfl) (by kernel_rfl)
def Zy:TI:=⟨Tryz.t21,Tryz.t21.desc,nat_lit 1,false,false,false⟩
theorem R5:aL Tryz.prog 21 Zy:= .of (by kernel_rfl) (by kernel_rfl) (by kernel_rfl)
def Zz:TI:=⟨Tryz.t22,Tryz.t22.desc,nat_lit 1,false,false,false⟩
theorem R6:aL Tryz.prog 22 Zz:= .of (by kernel_rfl) (by kernel_rfl) (by kernel_rfl)
def ZA:TI:=⟨Tryz.t23,Tryz.t23.desc,nat_lit 4,true,false,false⟩
theorem R7:aL Tryz.prog 23 ZA:= .of (by kernel_rfl) (by kernel_rfl) (by kernel_rfl)
def ZB:TI:=⟨Tryz.t24,Tryz.t23.desc,nat_lit 4,true,false,false⟩
theorem R8:aL Tryz.prog 24 ZB:= .of (by kernel_rfl) (by kernel_rfl) (by kernel_rfl)
def ZC:TI:=⟨Tryz.t25,Tryz.t3.desc,nat_lit 1,false,false,false⟩
theorem R9:aL Tryz.prog 25 ZC:= .of (by kernel_rfl) (by kernel_rfl) (by kernel_rfl)
def ZD:TI:=⟨Tryz.t39,Tryz.t39.desc,nat_lit 1,false,false,false⟩
theorem Sa:aL Tryz.prog 39 ZD:= .of (by kernel_rfl) (by kernel_rfl) (by kernel_rfl)
def ZE:TI:=⟨Tryz.t40,Tryz.t40.desc,nat_lit 1,true,false,false⟩
theorem Sb:aL Tryz.prog 40 ZE:= .of (by kernel_rfl) (by kernel_rfl) (by kernel_rfl)
def ZF:TI:=⟨Tryz.t41,Tryz.t40.desc,nat_lit 1,true,false,false⟩
theorem Sc:aL Tryz.prog 41 ZF:= .of (by kernel_rfl) (by kernel_rfl) (by kernel_rfl)
def ZG:TI:=⟨Tryz.t42,Tryz.t42.desc,nat_lit 1,false,false,false⟩
theorem Sd:aL Tryz.prog 42 ZG:= .of (by kernel_rfl) (by kernel_rfl) (by kernel_rfl)
def ZH:TI:=⟨Tryz.t43,Tryz.t43.desc,nat_lit 1,true,false,false⟩
theorem Se:aL Tryz.prog 43 ZH:= .of (by kernel_rfl) (by kernel_rfl) (by kernel_rfl)
def ZI:TI:=⟨Tryz.t44,Tryz.t43.desc,nat_lit 1,true,false,false⟩
theorem Sf:aL Tryz.prog 44 ZI:= .of (by kernel_rfl) (by kernel_rfl) (by kernel_rfl)
def ZJ:TI:=⟨Tryz.t45,Tryz.t45.desc,nat_lit 1,false,false,false⟩
theorem Sg:aL Tryz.prog 45 ZJ:= .of (by kernel_rfl) (by kernel_rfl) (by kernel_rfl)
def ZK:TI:=⟨Tryz.t46,Tryz.t46.desc,nat_lit 4,true,false,false⟩
theorem Si:aL Tryz.prog 46 ZK:= .of (by kernel_rfl) (by kernel_rfl) (by kernel_rfl)
def ZL:TI:=⟨Tryz.t47,Tryz.t46.desc,nat_lit 4,true,false,false⟩
theorem Sj:aL Tryz.prog 47 ZL:= .of (by kernel_rfl) (by kernel_rfl) (by kernel_rfl)
def ZM:TI:=⟨Tryz.t55,Tryz.t55.desc,nat_lit 1,false,false,false⟩
theorem Sk:aL Tryz.prog 55 ZM:= .of (by kernel_rfl) (by kernel_rfl) (by kernel_rfl)
def ZN:TI:=⟨Tryz.t61,Tryz.t61.desc,nat_lit 1,false,false,false⟩
theorem Sl:aL Tryz.prog 61 ZN:= .of (by kernel_rfl) (by kernel_rfl) (by kernel_rfl)
def ZO:TI:=⟨Tryz.t62,Tryz.t62.desc,nat_lit 1,false,false,false⟩
theorem Sm:aL Tryz.prog 62 ZO:= .of (by kernel_rfl) (by kernel_rfl) (by kernel_rfl)
def ZP:TI:=⟨Tryz.t64,Tryz.t64.desc,nat_lit 1,false,false,false⟩
theorem Sn:aL Tryz.prog 64 ZP:= .of (by kernel_rfl) (by kernel_rfl) (by kernel_rfl)
def ZQ:TI:=⟨Tryz.t90,Tryz.t90.desc,nat_lit 32,true,false,false⟩
theorem Sp:aL Tryz.prog 90 ZQ:= .of (by kernel_rfl) (by kernel_rfl) (by kernel_rfl)
def ZR:TI:=⟨Tryz.t91,Tryz.t90.desc,nat_lit 32,true,false,false⟩
theorem Sq:aL Tryz.prog 91 ZR:= .of (by kernel_rfl) (by kernel_rfl) (by kernel_rfl)
def ZT:TI:=⟨Tryz.t92,Tryz.t92.desc,nat_lit 33,true,false,false⟩
theorem Sr:aL Tryz.prog 92 ZT:= .of (by kernel_rfl) (by kernel_rfl) (by kernel_rfl)
def ZU:TI:=⟨Tryz.t93,Tryz.t92.desc,nat_lit 33,true,false,false⟩
theorem Ss:aL Tryz.prog 93 ZU:= .of (by kernel_rfl) (by kernel_rfl) (by kernel_rfl)
def ZV:TI:=⟨Tryz.t94,Tryz.t94.desc,nat_lit 38,true,false,false⟩
theorem Su:aL Tryz.prog 94 ZV:= .of (by kernel_rfl) (by kernel_rfl) (by kernel_rfl)
def ZW:TI:=⟨Tryz.t95,Tryz.t94.desc,nat_lit 38,true,false,false⟩
theorem Sv:aL Tryz.prog 95 ZW:= .of (by kernel_rfl) (by kernel_rfl) (by kernel_rfl)
def ZX:TI:=⟨Tryz.t97,Tryz.t97.desc,nat_lit 1,false,false,false⟩
theorem Sw:aL Tryz.prog 97 ZX:= .of (by kernel_rfl) (by kernel_rfl) (by kernel_rfl)
def VJ:TI:=⟨Tryz.t115,Tryz.t115.desc,nat_lit 1,false,false,false⟩
theorem OU:aL Tryz.prog 115 VJ:= .of (by kernel_rfl) (by kernel_rfl) (by kernel_rfl)
def VK:TI:=⟨Tryz.t117,Tryz.t117.desc,nat_lit 0,true,false,false⟩
theorem OV:aL Tryz.prog 117 VK:= .of (by kernel_rfl) (by kernel_rfl) (by kernel_rfl)
def VL:TI:=⟨Tryz.t118,Tryz.t117.desc,nat_lit 0,true,false,false⟩
theorem OW:aL Tryz.prog 118 VL:= .of (by kernel_rfl) (by kernel_rfl) (by kernel_rfl)
def VM:TI:=⟨Tryz.t119,Tryz.t117.desc,nat_lit 0,true,false,false⟩
theorem OX:aL Tryz.prog 119 VM:= .of (by kernel_rfl) (by kernel_rfl) (by kernel_rfl)
def VN:TI:=⟨Tryz.t120,Tryz.t120.desc,nat_lit 1,false,false,false⟩
theorem OY:aL Tryz.prog 120 VN:= .of (by kernel_rfl) (by kernel_rfl) (by kernel_rfl)
def VO:TI:=⟨Tryz.t121,Tryz.t121.desc,nat_lit 1,true,false,false⟩
theorem OZ:aL Tryz.prog 121 VO:= .of (by kernel_rfl) (by kernel_rfl) (by kernel_rfl)
def VP:TI:=⟨Tryz.t122,Tryz.t121.desc,nat_lit 1,true,false,false⟩
theorem O0:aL Tryz.prog 122 VP:= .of (by kernel_rfl) (by kernel_rfl) (by kernel_rfl)
def VQ:TI:=⟨Tryz.t123,Tryz.t123.desc,nat_lit 2,true,false,false⟩
theorem O1:aL Tryz.prog 123 VQ:= .of (by kernel_rfl) (by kernel_rfl) (by kernel_rfl)
def VS:TI:=⟨Tryz.t124,Tryz.t123.desc,nat_lit 2,true,false,false⟩
theorem O2:aL Tryz.prog 124 VS:= .of (by kernel_rfl) (by kernel_rfl) (by kernel_rfl)
def VT:TI:=⟨Tryz.t125,Tryz.t125.desc,nat_lit 2,true,false,false⟩
theorem O3:aL Tryz.prog 125 VT:= .of (by kernel_rfl) (by kernel_rfl) (by kernel_rfl)
def VU:TI:=⟨Tryz.t126,Tryz.t125.desc,nat_lit 2,true,false,false⟩
theorem O4:aL Tryz.prog 126 VU:= .of (by kernel_rfl) (by kernel_rfl) (by kernel_rfl)
def VV:TI:=⟨Tryz.t127,Tryz.t127.desc,nat_lit 3,true,false,false⟩
theorem O5:aL Tryz.prog 127 VV:= .of (by kernel_rfl) (by kernel_rfl) (by kernel_rfl)
def VW:TI:=⟨Tryz.t128,Tryz.t127.desc,nat_lit 3,true,false,false⟩
theorem O6:aL Tryz.prog 128 VW:= .of (by kernel_rfl) (by kernel_rfl) (by kernel_rfl)
def VX:TI:=⟨Tryz.t129,Tryz.t129.desc,nat_lit 1,false,false,true⟩
theorem O7:aL Tryz.prog 129 VX:= .of (by kernel_rfl) (by kernel_rfl) (by kernel_rfl)
def VY:TI:=⟨Tryz.t130,Tryz.t129.desc,nat_lit 1,false,false,true⟩
theorem O8:aL Tryz.prog 130 VY:= .of (by kernel_rfl) (by kernel_rfl) (by kernel_rfl)
def VZ:TI:=⟨Tryz.t131,Tryz.t131.desc,nat_lit 5,true,false,true⟩
theorem O9:aL Tryz.prog 131 VZ:= .of (by kernel_rfl) (by kernel_rfl) (by kernel_rfl)
def V0:TI:=⟨Tryz.t132,Tryz.t131.desc,nat_lit 5,true,false,true⟩
theorem Pb:aL Tryz.prog 132 V0:= .of (by kernel_rfl) (by kernel_rfl) (by kernel_rfl)
def V1:TI:=⟨Tryz.t144,Tryz.t144.desc,nat_lit 6,true,false,false⟩
theorem Pc:aL Tryz.prog 144 V1:= .of (by kernel_rfl) (by kernel_rfl) (by kernel_rfl)
def V2:TI:=⟨Tryz.t145,Tryz.t144.desc,nat_lit 6,true,false,false⟩
theorem Pd:aL Tryz.prog 145 V2:= .of (by kernel_rfl) (by kernel_rfl) (by kernel_rfl)
def V3:TI:=⟨Tryz.t158,Tryz.t158.desc,nat_lit 1,false,false,false⟩
theorem Pe:aL Tryz.prog 158 V3:= .of (by kernel_rfl) (by kernel_rfl) (by kernel_rfl)
def V5:TI:=⟨Tryz.t182,Tryz.t182.desc,nat_lit 1,false,false,false⟩
theorem Pf:aL Tryz.prog 182 V5:= .of (by kernel_rfl) (by kernel_rfl) (by kernel_rfl)
def V6:TI:=⟨Tryz.t184,Tryz.t184.desc,nat_lit 1,false,false,false⟩
theorem Pg:aL Tryz.prog 184 V6:= .of (by kernel_rfl) (by kernel_rfl) (by kernel_rfl)
def V7:TI:=⟨Tryz.t186,Tryz.t186.desc,nat_lit 256,true,false,false⟩
theorem Pj:aL Tryz.prog 186 V7:= .of (by kernel_rfl) (by kernel_rfl) (by kernel_rfl)
def V8:TI:=⟨Tryz.t187,Tryz.t186.desc,nat_lit 256,true,false,false⟩
theorem Pk:aL Tryz.prog 187 V8:= .of (by kernel_rfl) (by kernel_rfl) (by kernel_rfl)
def V9:TI:=⟨Tryz.t188,Tryz.t188.desc,nat_lit 1,false,false,false⟩
theorem Pl:aL Tryz.prog 188 V9:= .of (by kernel_rfl) (by kernel_rfl) (by kernel_rfl)
def Wa:TI:=⟨Tryz.t189,Tryz.t189.desc,nat_lit 256,true,false,false⟩
theorem Pm:aL Tryz.prog 189 Wa:= .of (by kernel_rfl) (by kernel_rfl) (by kernel_rfl)
def Wb:TI:=⟨Tryz.t190,Tryz.t190.desc,nat_lit 257,true,false,false⟩
theorem Pn:aL Tryz.prog 190 Wb:= .of (by kernel_rfl) (by kernel_rfl) (by kernel_rfl)
def Wc:TI:=⟨Tryz.t191,Tryz.t190.desc,nat_lit 257,true,false,false⟩
theorem Po:aL Tryz.prog 191 Wc:= .of (by kernel_rfl) (by kernel_rfl) (by kernel_rfl)
def Wd:TI:=⟨Tryz.t192,Tryz.t192.desc,nat_lit 1,false,false,false⟩
theorem Pp:aL Tryz.prog 192 Wd:= .of (by kernel_rfl) (by kernel_rfl) (by kernel_rfl)
def We:TI:=⟨Tryz.t199,Tryz.t199.desc,nat_lit 1,false,false,false⟩
theorem Pq:aL Tryz.prog 199 We:= .of (by kernel_rfl) (by kernel_rfl) (by kernel_rfl)
def Wf:TI:=⟨Tryz.t200,Tryz.t200.desc,nat_lit 1,false,false,false⟩
theorem Pr:aL Tryz.prog 200 Wf:= .of (by kernel_rfl) (by kernel_rfl) (by kernel_rfl)
def Wh:TI:=⟨Tryz.t207,Tryz.t207.desc,nat_lit 1,false,false,false⟩
theorem Ps:aL Tryz.prog 207 Wh:= .of (by kernel_rfl) (by kernel_rfl) (by kernel_rfl)
def Wi:TI:=⟨Tryz.t209,Tryz.t209.desc,nat_lit 2,true,false,false⟩
theorem Pt:aL Tryz.prog 209 Wi:= .of (by kernel_rfl) (by kernel_rfl) (by kernel_rfl)
def Wj:TI:=⟨Tryz.t210,Tryz.t209.desc,nat_lit 2,true,false,false⟩
theorem Pv:aL Tryz.prog 210 Wj:= .of (by kernel_rfl) (by kernel_rfl) (by kernel_rfl)
def Wl:TI:=⟨Tryz.t211,Tryz.t211.desc,nat_lit 1,false,false,false⟩
theorem Pw:aL Tryz.prog 211 Wl:= .of (by kernel_rfl) (by kernel_rfl) (by kernel_rfl)
def Wm:TI:=⟨Tryz.t212,Tryz.t212.desc,nat_lit 1,false,false,false⟩
theorem Px:aL Tryz.prog 212 Wm:= .of (by kernel_rfl) (by kernel_rfl) (by kernel_rfl)
def Wn:TI:=⟨Tryz.t213,Tryz.t213.desc,nat_lit 5,true,false,false⟩
theorem Py:aL Tryz.prog 213 Wn:= .of (by kernel_rfl) (by kernel_rfl) (by kernel_rfl)
def Wo:TI:=⟨Tryz.t214,Tryz.t213.desc,nat_lit 5,true,false,false⟩
theorem Pz:aL Tryz.prog 214 Wo:= .of (by kernel_rfl) (by kernel_rfl) (by kernel_rfl)
def Wq:TI:=⟨Tryz.t215,Tryz.t215.desc,nat_lit 262,true,false,false⟩
theorem PA:aL Tryz.prog 215 Wq:= .of (by kernel_rfl) (by kernel_rfl) (by kernel_rfl)
def Ws:TI:=⟨Tryz.t216,Tryz.t215.desc,nat_lit 262,true,false,false⟩
theorem PB:aL Tryz.prog 216 Ws:= .of (by kernel_rfl) (by kernel_rfl) (by kernel_rfl)
def Wt:TI:=⟨Tryz.t217,Tryz.t217.desc,nat_lit 1,false,false,false⟩
theorem PC:aL Tryz.prog 217 Wt:= .of (by kernel_rfl) (by kernel_rfl) (by kernel_rfl)
def Wu:TI:=⟨Tryz.t228,Tryz.t228.desc,nat_lit 256,true,false,false⟩
theorem PD:aL Tryz.prog 228 Wu:= .of (by kernel_rfl) (by kernel_rfl) (by kernel_rfl)
def Wv:TI:=⟨Tryz.t229,Tryz.t229.desc,nat_lit 258,true,false,false⟩
theorem PE:aL Tryz.prog 229 Wv:= .of (by kernel_rfl) (by kernel_rfl) (by kernel_rfl)
def Ww:TI:=⟨Tryz.t230,Tryz.t229.desc,nat_lit 258,true,false,false⟩
theorem PF:aL Tryz.prog 230 Ww:= .of (by kernel_rfl) (by kernel_rfl) (by kernel_rfl)
def Wx:TI:=⟨Tryz.t252,Tryz.t252.desc,nat_lit 1,false,false,false⟩
theorem PG:aL Tryz.prog 252 Wx:= .of (by kernel_rfl) (by kernel_rfl) (by kernel_rfl)
def Wy:TI:=⟨Tryz.t261,Tryz.t261.desc,nat_lit 1,false,false,false⟩
theorem PH:aL Tryz.prog 261 Wy:= .of (by kernel_rfl) (by kernel_rfl) (by kernel_rfl)
def Y:Tr TI:=(.node (.node (.node (.node (.node (.node (.node (.node .leaf (some VV) .leaf) none (.node .leaf (some Wc) .leaf)) none (.node .leaf (some ZW) .leaf)) none (.node (.node .leaf none (.node .leaf (some Wh) .leaf)) (some ZL) .leaf)) none (.node (.node (.node .leaf none (.node .leaf (some We) .leaf)) (some ZD) .leaf) (some ZA) (.node (.node .leaf none (.node .leaf (some Wq) .leaf)) (some ZM) (.node .leaf (some VM) .leaf)))) (some y3) (.node (.node (.node (.node (.node .leaf (some VZ) .leaf) none .leaf) none .leaf) none (.node (.node .leaf none (.node .leaf (some Wl) .leaf)) none (.node .leaf (some VJ) .leaf))) none (.node (.node .leaf (some ZH) .leaf) none (.node (.node .leaf (some ZR) .leaf) none (.node (.node .leaf (some V8) .leaf) (some VQ) .leaf))))) (some y1) (.node (.node (.node (.node (.node (.node .leaf (some VX) .leaf) none .leaf) none (.node .leaf (some ZX) .leaf)) none (.node (.node (.node .leaf (some V2) .leaf) none (.node .leaf (some Wi) .leaf)) none .leaf)) (some y9) (.node (.node .leaf (some ZF) .leaf) (some ZC) (.node (.node .leaf none (.node .leaf (some Wt) .leaf)) none (.node .leaf (some VO) .leaf)))) (some y5) (.node (.node (.node (.node (.node (.node .leaf (some Wy) .leaf) none .leaf) none .leaf) none (.node .leaf none (.node .leaf (some Wv) .leaf))) (some Zy) (.node (.node .leaf none (.node .leaf (some Wn) .leaf)) none (.node .leaf (some VK) .leaf))) none (.node (.node .leaf (some ZJ) .leaf) none (.node (.node .leaf (some ZU) .leaf) (some ZN) (.node (.node .leaf (some Wa) .leaf) (some VT) .leaf)))))) none (.node (.node (.node (.node (.node (.node (.node .leaf (some VW) .leaf) (some ZP) (.node .leaf (some Wd) .leaf)) none .leaf) none (.node (.node (.node .leaf (some V1) .leaf) none .leaf) none .leaf)) none (.node (.node (.node .leaf none (.node .leaf (some Wf) .leaf)) (some ZE) .leaf) (some ZB) (.node (.node .leaf none (.node .leaf (some Ws) .leaf)) none (.node (.node .leaf (some V6) .leaf) (some VN) .leaf)))) (some y4) (.node (.node (.node (.node (.node .leaf (some V0) .leaf) none .leaf) none (.node .leaf none (.node .leaf (some Wu) .leaf))) none (.node (.node .leaf none (.node .leaf (some Wm) .leaf)) none .leaf)) none (.node (.node .leaf (some ZI) .leaf) none (.node (.node .leaf (some ZT) .leaf) none (.node (.node .leaf (some V9) .leaf) (some VS) (.node .leaf (some Wx) .leaf)))))) (some y2) (.node (.node (.node (.node (.node (.node .leaf (some VY) .leaf) none .leaf) none .leaf) none (.node (.node .leaf none (.node .leaf (some Wj) .leaf)) none .leaf)) none (.node (.node .leaf (some ZG) .leaf) none (.node (.node .leaf (some ZQ) .leaf) none (.node (.node .leaf (some V7) .leaf) (some VP) .leaf)))) none (.node (.node (.node .leaf none (.node .leaf none (.node .leaf (some Ww) .leaf))) (some Zz) (.node (.node .leaf none (.node .leaf (some Wo) .leaf)) none (.node (.node .leaf (some V5) .leaf) (some VL) .leaf))) none (.node (.node .leaf (some ZK) .leaf) none (.node (.node (.node .leaf (some V3) .leaf) (some ZV) .leaf) (some ZO) (.node (.node .leaf (some Wb) .leaf) (some VU) .leaf)))))))
theorem Sx:iT Tryz.prog pA 62 Tryz.f62:= .of Tryz.func62 (by kernel_rfl)
theorem Sy:iT Tryz.prog pA 95 Tryz.f95:= .of Tryz.func95 (by kernel_rfl)
theorem PJ:iT Tryz.prog pA 129 Tryz.f129:= .of Tryz.func129 (by kernel_rfl)
theorem PK:iT Tryz.prog pA 130 Tryz.f130:= .of Tryz.func130 (by kernel_rfl)
theorem PL:iT Tryz.prog pA 149 Tryz.f149:= .of Tryz.func149 (by kernel_rfl)
theorem PM:iT Tryz.prog pA 150 Tryz.f150:= .of Tryz.func150 (by kernel_rfl)
theorem PN:iT Tryz.prog pA 164 Tryz.f164:= .of Tryz.func164 (by kernel_rfl)
theorem PO:iT Tryz.prog pA 165 Tryz.f165:= .of Tryz.func165 (by kernel_rfl)
theorem PQ:iT Tryz.prog pA 174 Tryz.f174:= .of Tryz.func174 (by kernel_rfl)
def F:Tr Func:=(.node (.node (.node (.node (.node (.node .leaf none (.node .leaf (some Tryz.f95) .leaf)) none .leaf) none .leaf) none .leaf) none (.node (.node (.node (.node (.node (.node .leaf (some Tryz.f129) .leaf) none .leaf) none .leaf) none .leaf) none .leaf) none (.node (.node (.node .leaf none (.node (.node .leaf (some Tryz.f165) .leaf) none .leaf)) none (.node (.node (.node .leaf (some Tryz.f149) .leaf) none .leaf) none .leaf)) none .leaf))) none (.node (.node .leaf none (.node (.node (.node .leaf none (.node (.node .leaf (some Tryz.f164) .leaf) none .leaf)) none .leaf) none .leaf)) none (.node (.node (.node (.node (.node (.node .leaf (some Tryz.f130) .leaf) none .leaf) none .leaf) none .leaf) none .leaf) none (.node (.node .leaf none (.node (.node (.node .leaf (some Tryz.f150) .leaf) none .leaf) none .leaf)) none (.node (.node .leaf none (.node (.node .leaf (some Tryz.f174) .leaf) none .leaf)) none (.node .leaf (some Tryz.f62) .leaf))))))
def T:ew:=⟨F,Y⟩
theorem bT:bw Tryz.prog T:=N9 (show Y.QH _ _ from⟨trivial,⟨VD,⟨VF,⟨trivial,⟨trivial,⟨trivial,⟨trivial,⟨O5,trivial,trivial⟩,⟨Po,trivial,trivial⟩⟩,⟨Sv,trivial,trivial⟩⟩,⟨Sj,⟨trivial,trivial,⟨Ps,trivial,trivial⟩⟩,trivial⟩⟩,⟨R7,⟨Sa,⟨trivial,trivial,⟨Pq,trivial,trivial⟩⟩,trivial⟩,⟨Sk,⟨trivial,trivial,⟨PA,trivial,trivial⟩⟩,⟨OX,trivial,trivial⟩⟩⟩⟩,⟨trivial,⟨trivial,⟨trivial,⟨trivial,⟨O9,trivial,trivial⟩,trivial⟩,trivial⟩,⟨trivial,⟨trivial,trivial,⟨Pw,trivial,trivial⟩⟩,⟨OU,trivial,trivial⟩⟩⟩,⟨trivial,⟨Se,trivial,trivial⟩,⟨trivial,⟨Sq,trivial,trivial⟩,⟨O1,⟨Pk,trivial,trivial⟩,trivial⟩⟩⟩⟩⟩,⟨VH,⟨VI,⟨trivial,⟨trivial,⟨trivial,⟨O7,trivial,trivial⟩,trivial⟩,⟨Sw,trivial,trivial⟩⟩,⟨trivial,⟨trivial,⟨Pd,trivial,trivial⟩,⟨Pt,trivial,trivial⟩⟩,trivial⟩⟩,⟨R9,⟨Sc,trivial,trivial⟩,⟨trivial,⟨trivial,trivial,⟨PC,trivial,trivial⟩⟩,⟨OZ,trivial,trivial⟩⟩⟩⟩,⟨trivial,⟨R5,⟨trivial,⟨trivial,⟨trivial,⟨PH,trivial,trivial⟩,trivial⟩,trivial⟩,⟨trivial,trivial,⟨PE,trivial,trivial⟩⟩⟩,⟨trivial,⟨trivial,trivial,⟨Py,trivial,trivial⟩⟩,⟨OV,trivial,trivial⟩⟩⟩,⟨trivial,⟨Sg,trivial,trivial⟩,⟨Sl,⟨Ss,trivial,trivial⟩,⟨O3,⟨Pm,trivial,trivial⟩,trivial⟩⟩⟩⟩⟩⟩,⟨VE,⟨VG,⟨trivial,⟨trivial,⟨trivial,⟨Sn,⟨O6,trivial,trivial⟩,⟨Pp,trivial,trivial⟩⟩,trivial⟩,⟨trivial,⟨trivial,⟨Pc,trivial,trivial⟩,trivial⟩,trivial⟩⟩,⟨R8,⟨Sb,⟨trivial,trivial,⟨Pr,trivial,trivial⟩⟩,trivial⟩,⟨trivial,⟨trivial,trivial,⟨PB,trivial,trivial⟩⟩,⟨OY,⟨Pg,trivial,trivial⟩,trivial⟩⟩⟩⟩,⟨trivial,⟨trivial,⟨trivial,⟨trivial,⟨Pb,trivial,trivial⟩,trivial⟩,⟨trivial,trivial,⟨PD,trivial,trivial⟩⟩⟩,⟨trivial,⟨trivial,trivial,⟨Px,trivial,trivial⟩⟩,trivial⟩⟩,⟨trivial,⟨Sf,trivial,trivial⟩,⟨trivial,⟨Sr,trivial,trivial⟩,⟨O2,⟨Pl,trivial,trivial⟩,⟨PG,trivial,trivial⟩⟩⟩⟩⟩⟩,⟨trivial,⟨trivial,⟨trivial,⟨trivial,⟨trivial,⟨O8,trivial,trivial⟩,trivial⟩,trivial⟩,⟨trivial,⟨trivial,trivial,⟨Pv,trivial,trivial⟩⟩,trivial⟩⟩,⟨trivial,⟨Sd,trivial,trivial⟩,⟨trivial,⟨Sp,trivial,trivial⟩,⟨O0,⟨Pj,trivial,trivial⟩,trivial⟩⟩⟩⟩,⟨trivial,⟨R6,⟨trivial,trivial,⟨trivial,trivial,⟨PF,trivial,trivial⟩⟩⟩,⟨trivial,⟨trivial,trivial,⟨Pz,trivial,trivial⟩⟩,⟨OW,⟨Pf,trivial,trivial⟩,trivial⟩⟩⟩,⟨trivial,⟨Si,trivial,trivial⟩,⟨Sm,⟨Su,⟨Pe,trivial,trivial⟩,trivial⟩,⟨O4,⟨Pn,trivial,trivial⟩,trivial⟩⟩⟩⟩⟩⟩⟩)
theorem fns:JL Tryz.prog T pA:=JV (by kernel_rfl) (show F.QH _ _ from⟨trivial,⟨trivial,⟨trivial,⟨trivial,⟨trivial,⟨trivial,trivial,⟨Sy,trivial,trivial⟩⟩,trivial⟩,trivial⟩,trivial⟩,⟨trivial,⟨trivial,⟨trivial,⟨trivial,⟨trivial,⟨PJ,trivial,trivial⟩,trivial⟩,trivial⟩,trivial⟩,trivial⟩,⟨trivial,⟨trivial,⟨trivial,trivial,⟨trivial,⟨PO,trivial,trivial⟩,trivial⟩⟩,⟨trivial,⟨trivial,⟨PL,trivial,trivial⟩,trivial⟩,trivial⟩⟩,trivial⟩⟩⟩,⟨trivial,⟨trivial,trivial,⟨trivial,⟨trivial,⟨trivial,trivial,⟨trivial,⟨PN,trivial,trivial⟩,trivial⟩⟩,trivial⟩,trivial⟩⟩,⟨trivial,⟨trivial,⟨trivial,⟨trivial,⟨trivial,⟨PK,trivial,trivial⟩,trivial⟩,trivial⟩,trivial⟩,trivial⟩,⟨trivial,⟨trivial,trivial,⟨trivial,⟨trivial,⟨PM,trivial,trivial⟩,trivial⟩,trivial⟩⟩,⟨trivial,⟨trivial,trivial,⟨trivial,⟨PQ,trivial,trivial⟩,trivial⟩⟩,⟨Sx,trivial,trivial⟩⟩⟩⟩⟩⟩)
end Tb
end
section
open Go Go.az
theorem mix:Tryz.prog.follows .mixedOrders=true:=by kernel_rfl
namespace L
def t2:Ty:= .int .i64
def t3:Ty:= .int .i64
def t4:Ty:= .bool
def t5:Ty:= .int .u8
def t9:Ty:= .str
def t22:Ty:= .int .u64
def t24:Ty:= .pair t5 (.pair t2 (.pair t22 (.pair t9 (.unit))))
def t25:Ty:= .int .i64
def t91:Ty:= .arr 32 t5
def t93:Ty:= .pair t9 (.pair t91 (.unit))
def t39:Ty:= .slice t93
def t41:Ty:= .pair t39 (.unit)
def t95:Ty:= .pair t9 (.pair t24 (.pair t22 (.pair t91 (.unit))))
def t42:Ty:= .slice t95
def t44:Ty:= .pair t42 (.unit)
def t45:Ty:= .slice t91
def t47:Ty:= .pair t3 (.pair t41 (.pair t44 (.pair t45 (.unit))))
def t55:Ty:= .slice t9
def t59:Ty:= .arr 8 t5
def t61:Ty:= .slice t5
def t90:Ty:= .arr 32 t5
def t115:Ty:= .int .u64
def t120:Ty:= .int .u32
def t145:Ty:= .pair t5 (.pair t9 (.pair t24 (.unit)))
def t199:Ty:= .slice t3
end L
end
section
open Go Go.az Go.RowKit
namespace Bu
theorem sizeBuilder:(Tryz.prog.info? 84).map (fun i=>i.size)=some 2:=by kernel_rfl
theorem infoByte:(Tryz.prog.info? 5).map (fun i=>(i.zero,i.size,i.bytes))=some (some (.int .u8 0),1,1):=by kernel_rfl
theorem Wz:liesAt Tryz.prog Tryz.prog.depth 84 (2 / Tryz.prog.cellsOf 84) 0 84 1=true:=by kernel_rfl
set_option maxHeartbeats 1000000 in
theorem vU(b:Nat)(w:World)(h0:w.cell? ⟨b,0,none⟩=some (.pointer (some ⟨b,0,none⟩))):
  Calls Tryz.prog 74 #[.pointer (some ⟨b,0,none⟩)] w fun e w'=>e= .returned (.tuple #[])∧w'=w:=by
 obtain⟨j,hj,_⟩:=Option.map_eq_some_iff.1 sizeBuilder
 have mixed:=mix
 go_enter Tryz.func74,Tryz.ntmps74
 go_wp2
 rw [Lib.run_neq_ptr_same w _ Tryz.underlying82 hj]
 go_wp2
 go_end0
 exact⟨rfl,rfl⟩
set_option maxHeartbeats 1000000 in
theorem lD(b:Nat)(w:World)(h0:w.cell? ⟨b,0,none⟩=some (.pointer none))(hsh:w.shape? b=some (84,2))(hfz:w.frozen? ⟨b,0,none⟩=false):
  Calls Tryz.prog 74 #[.pointer (some ⟨b,0,none⟩)] w fun e w'=>e= .returned (.tuple #[])∧w'=w.setCell ⟨b,0,none⟩ (.pointer (some ⟨b,0,none⟩)):=by
 obtain⟨j,hj,hjs⟩:=Option.map_eq_some_iff.1 sizeBuilder
 have mixed:=mix
 go_enter Tryz.func74,Tryz.ntmps74
 go_wp2
 rw [Lib.run_to_unsafe w ⟨b,0,none⟩ Tryz.underlying82 Tryz.underlying165 hj (by rw [hjs];decide) hsh (Nat.zero_lt_succ 1)]
 simp only [Result.andThen]
 rw [Oper.upon_value]
 go_wp2
 rw [run_callFunc_extern Tryz.func106 (by kernel_rfl) (by kernel_rfl) (by kernel_rfl) (e:=Extern.AbiNoEscape.same) (by kernel_rfl)]
 rw [Lib.run_noEscape]
 simp only [Result.andThen]
 rw [Oper.upon_value]
 go_wp2
 rw [Lib.run_from_unsafe w ⟨b,0,none⟩ Tryz.underlying165 Tryz.underlying82 hj hsh Wz]
 simp only [Result.andThen]
 rw [Oper.upon_value]
 go_wp2
 go_end0
 exact⟨rfl,rfl⟩
theorem yn(B b:Nat)(bs:List Value)(w:World)(h:Lib.IsBuilder 84 5 B b bs w):
  Calls Tryz.prog 74 #[.pointer (some ⟨b,0,none⟩)] w fun e w'=>e= .returned (.tuple #[])∧(Lib.BuilderAt 84 5 B b (.pointer (some ⟨b,0,none⟩)) bs w'∧Below B w w'):=by
 rcases h with h|h
 ·refine(lD b w h.cell0 h.shape h.frozen0).mono ?_
  rintro e w' ⟨rfl,rfl⟩
  exact⟨rfl,h.used _,(Below.refl B w).setCell (p:=⟨b,0,none⟩) h.1 _⟩
 ·refine(vU b w h.cell0).mono ?_
  rintro e w' ⟨rfl,rfl⟩
  exact⟨rfl,h,Below.refl B _⟩
set_option maxHeartbeats 2000000 in
theorem yp(B b:Nat)(bs:List Value)(c:Int)(w:World)(h:Lib.IsBuilder 84 5 B b bs w)(hlen:bs.length+1≤140737488355328)(hBw:B≤w.heap.size):
  Calls Tryz.prog 59 #[.pointer (some ⟨b,0,none⟩),.int .u8 c] w fun e w'=>e= .returned .nilIface∧(Lib.BuilderAt 84 5 B b (.pointer (some ⟨b,0,none⟩)) (bs++[.int .u8 c]) w'∧Below B w w'):=by
 obtain⟨i0,hi,hz0,hz1,hz2⟩:=info_parts infoByte
 have mixed:=mix
 go_enter Tryz.func59,Tryz.ntmps59
 go_wp2_with (go_at_call 74;refine(yn B b bs _ h).mono ?_)
 rintro e w1 ⟨rfl,h1,hb1⟩
 obtain⟨hB,v,hbk,hown,hne⟩:=h1
 have c0:w1.cell? ⟨b,0,none⟩=some (.pointer (some ⟨b,0,none⟩)):=by rw [Lib.cell_of_heap hbk];rfl
 have c1:w1.cell? ⟨b,1,none⟩=some v:=by rw [Lib.cell_of_heap hbk];rfl
 go_wp2_with (at_builtin;refine wpList_append_own _ rfl _ _ 61 rfl B 5 i0 (.int .u8 0) 1 1 Tryz.underlying61 hi hz0 hz1 hz2 rfl (by decide) _ _ _ rfl (hown.alloc _) ⟨w1.heap.size,0,none⟩ 1 1 [.int .u8 c] rfl rfl ?c1 ?c2 ?c3 ?c4 ?c5 ?_)
 case c1=>
  intro j u hj
  match j,hj with
  |0,hj=>simp at hj;subst hj;simp [Addr.add]
 case c2=>intro u hu;simp at hu;subst hu;rfl
 case c3=>unfold maxLen;omega
 case c4=>omega
 case c5=>have:=hb1.size;simp;omega
 intro v' w2 hown' hgrow _
 have hlt:b<w1.heap.size:=by
  rcases Nat.lt_or_ge b w1.heap.size with h'|h'
  ·exact h'
  ·simp [Array.getElem?_eq_none h']at hbk
 have hb2:w2.heap[b]? =some (.cells #[.pointer (some ⟨b,0,none⟩),v] 84 (0,0)):=by
  rw [hgrow.block b (by simp;omega) (fun e=>hne e.symm),Lib.alloc_old w1 _ b hlt]
  exact hbk
 have d0:w2.cell? ⟨b,0,none⟩=some (.pointer (some ⟨b,0,none⟩)):=by rw [Lib.cell_of_heap hb2];rfl
 have d1:w2.cell? ⟨b,1,none⟩=some v:=by rw [Lib.cell_of_heap hb2];rfl
 have f1:w2.frozen? ⟨b,1,none⟩=false:=Lib.frozen_of_heap hb2 1
 obtain⟨g,cap,rfl⟩:∃g cap,v'= .slice (some ⟨g,0,none⟩) (bs.length+1) cap:=by
  rcases hown'.2 with⟨_,h0⟩|⟨g,cap,cur,hv,_⟩
  ·omega
  ·exact⟨g,cap,hv⟩
 go_wp2
 go_ret
 refine⟨rfl,?_,?_⟩
 ·exact Lib.BuilderAt.put (T:=84) (e:=5) hB hb2 (bs':=bs++[.int .u8 c]) (by simpa using hown') (by decide)
 ·exact((hb1.alloc (by have:=hb1.size;omega) _).grown hgrow (by have:=hb1.size;simp;omega) (fun k hk=>(hown.lt k hk).1)).setCell (p:=⟨b,1,none⟩) hB _
end Bu
end
section
open Go Go.az Go.RowKit
namespace Bd
def Im:List UInt8:=[48,49,50,51,52,53,54,55,56,57,97,98,99,100,101,102]
def AU(n:Nat):UInt8:=Im.getD n 0
def hex:List UInt8→List UInt8
 | []=>[]
 |b::l=>AU (b.toNat / 16)::AU (b.toNat % 16)::hex l
theorem EB(a b:List UInt8):hex (a++b)=hex a++hex b:=by
 induction a with
 |nil=>rfl
 |cons x a ih=>simp [hex,ih]
theorem jb(a:List UInt8):(hex a).length=2*a.length:=by
 induction a with
 |nil=>rfl
 |cons x a ih=>simp [hex,ih];omega
theorem Lp(i:Nat)(h:i<16):((⟨#[48,49,50,51,52,53,54,55,56,57,97,98,99,100,101,102]⟩:ByteArray)[i]'h)=AU i:=by
 have:∀i:Fin 16,((⟨#[48,49,50,51,52,53,54,55,56,57,97,98,99,100,101,102]⟩:ByteArray)[i.1]'i.2)=AU i.1:=by decide
 exact this ⟨i,h⟩
theorem Lq(zs:List UInt8)(k:Nat)(h:k<zs.length):Lib.byteCells (hex (zs.take (k+1)))=Lib.byteCells (hex (zs.take k))++[.int .u8 (AU ((zs.getD k 0).toNat / 16)).toNat]++[.int .u8 (AU ((zs.getD k 0).toNat % 16)).toNat]:=by
 rw [List.take_succ_eq_append_getElem h,EB]
 have:zs.getD k 0=zs[k]:=by simp [List.getD,List.getElem?_eq_getElem h]
 rw [this]
 simp [Lib.byteCells,hex]
theorem fresh(w:World):Lib.BuilderAt 84 5 w.heap.size w.heap.size (.pointer none) (Lib.byteCells (hex ([].take 0))) (w.alloc (.cells #[.pointer none,.slice none 0 0] 84)):=by
 refine⟨Nat.le_refl _,.slice none 0 0,?_,⟨rfl,.inl ⟨rfl,rfl⟩⟩,by simp [Value.ownBlock]⟩
 show(w.heap.push _)[w.heap.size]? =_
 simp
set_option maxHeartbeats 4000000 in
theorem QY(bm off cap:Nat)(zs:List UInt8)(w:World)(hn:zs.length≤1000)(hblk:bm<w.heap.size)(hc:∀j,j<zs.length→w.cell? ⟨bm,off+j,none⟩=some (.int .u8 (zs.getD j 0).toNat)):
  Calls Tryz.prog 21 #[.slice (some ⟨bm,off,none⟩) zs.length cap] w fun e w'=>e= .returned (.string ⟨(hex zs).toArray⟩)∧Below w.heap.size w w':=by
 have mixed:=mix
 generalize hN:zs.length=n at*
 have HN:=Lib.hid hN
 clear hN
 go_enter Tryz.func21,Tryz.ntmps21
 go_wp2
 go_loopw [8] (fun vi wr=>∃k:Nat,vi= .int .i64 k∧k≤n∧Lib.IsBuilder 84 5 w.heap.size w.heap.size (Lib.byteCells (hex (zs.take k))) wr∧Below w.heap.size w wr) (fun vi _=>n-(intOf vi).toNat)
 case atStart=>
  refine⟨0,rfl,Nat.zero_le _,.inl ?_,(Below.refl _ _).alloc (Nat.le_refl _) _⟩
  exact fresh w
 case round=>
  obtain⟨k,rfl,hk,hb,hw⟩:=hrel
  by_cases hlt:k<n
  ·have hcell:wr.cell? ⟨bm,off+k,none⟩=some (.int .u8 (zs.getD k 0).toNat):=by rw [hw.cell hblk];exact hc k hlt
   have hT:=Lib.hid (Lq zs k (by rw [HN.out];exact hlt))
   have hlen:(Lib.byteCells (hex (zs.take k))).length≤2000:=by rw [Lib.byteCells_length,jb,List.length_take];omega
   generalize zs.getD k 0=c at hcell hT
   generalize Lib.byteCells (hex (zs.take k))=bs at hb hT hlen
   have hc0:(c.toNat:Int) / 16<16:=by have:=c.toNat_lt;omega
   have hc1:0≤(c.toNat:Int) / 16:=by omega
   go_wp2_with (go_at_call 59;refine(Bu.yp w.heap.size w.heap.size bs _ wr hb (by omega) hw.size).mono ?_)
   rintro e w1 ⟨rfl,hb1,hw1⟩
   rw [Lp]at hb1
   have hw1:=hw.trans hw1
   have hc2:(c.toNat:Int) % 16<16:=by omega
   have hc3:0≤(c.toNat:Int) % 16:=by omega
   go_wp2_with (go_at_call 59;refine(Bu.yp w.heap.size w.heap.size _ _ w1 (.inr hb1) (by simp;omega) hw1.size).mono ?_)
   rintro e w2 ⟨rfl,hb2,hw2⟩
   have hw2:=hw1.trans hw2
   go_wp2
   rw [Lp]at hb2
   exact⟨⟨k+1,by go_num,by omega,.inr (by rw [hT.out];exact hb2),hw2⟩,by simp [intOf];omega⟩
  ·have hk:k=n:=by omega
   subst hk
   have hz:zs.take k=zs:=List.take_of_length_le (by rw [HN.out];exact Nat.le_refl _)
   rw [hz]at hb
   clear hz
   go_wp2_with (go_at_call 44;refine(Tryz.Builder_String_any w.heap.size w.heap.size (hex zs) wr hb hw.size).mono ?_)
   rintro e w1 ⟨rfl,hw1⟩
   have hw1:=hw.trans hw1
   go_wp2
   go_ret
   exact⟨rfl,hw1⟩
end Bd
end
section
open Go Go.az Go.RowKit
namespace Tx
def pr(x:Nat):Bool:=decide (x<32)||decide (126<x)
def dh(l:List UInt8):Bool:=l.all fun b=> !pr b.toNat
theorem Lr(s:ByteArray):∀f pos,s.size≤f+pos→(0≤Lib.idxFuncFrom pr true s f pos↔dh (s.data.toList.drop pos)=false)
 |0,pos,h=>by
  have hl:s.data.toList.length=s.size:=rfl
  rw [List.drop_eq_nil_of_le (by omega)]
  simp [Lib.idxFuncFrom,dh]
 |f+1,pos,h=>by
  have hl:s.data.toList.length=s.size:=rfl
  unfold Lib.idxFuncFrom
  by_cases hp:pos<s.size
  ·rw [if_pos hp,List.drop_eq_getElem_cons (by omega:pos<s.data.toList.length)]
   have hb:s.data.toList[pos]'(by omega)=s[pos]'hp:=rfl
   rw [hb]
   by_cases ha:(s[pos]'hp).toNat<128
   ·rw [Go.decode_ascii s pos hp ha]
    cases hq:pr (s[pos]'hp).toNat with
    |true=>simp [dh,hq]
    |false=>
     rw [if_neg (by simp [hq])]
     have:=Lr s f (pos+1) (by omega)
     rw [this]
     simp [dh,hq]
   ·have hh:=Go.decode_high s pos hp (by omega)
    have h1:pr (Utf8.decode s pos).1=true:=by simp [pr];omega
    have h2:pr (s[pos]'hp).toNat=true:=by simp [pr];omega
    simp [h1,h2,dh]
  ·rw [if_neg hp,List.drop_eq_nil_of_le (by omega)]
   simp [dh]
theorem Io(s:ByteArray):0≤Lib.idxFunc pr true s↔dh s.data.toList=false:=by
 have:=Lr s s.size 0 (by omega)
 rwa [List.drop_zero]at this
theorem pred(x:Nat)(w:World):Calls Tryz.prog 73 #[.int .i32 x] w fun e w'=>e= .returned (.bool (pr x))∧w'=w:=by
 have mixed:=mix
 by_cases h1:x<32
 ·have e:pr x=true:=by simp [pr,h1]
  rw [e]
  have h2:decide ((x:Int)<32)=true:=decide_eq_true (by omega)
  go_enter Tryz.func73,Tryz.ntmps73
  go_wp2
  go_ret
  exact⟨rfl,rfl⟩
 ·have h2:decide ((x:Int)<32)=false:=decide_eq_false (by omega)
  by_cases h3:126<x
  ·have e:pr x=true:=by simp [pr,h3]
   rw [e]
   have h4:decide ((x:Int)>126)=true:=decide_eq_true (by omega)
   have h5:decide (126<(x:Int))=true:=decide_eq_true (by omega)
   go_enter Tryz.func73,Tryz.ntmps73
   go_wp2
   go_ret
   exact⟨rfl,rfl⟩
  ·have e:pr x=false:=by simp [pr,h1,h3]
   rw [e]
   have h5:decide (126<(x:Int))=false:=decide_eq_false (by omega)
   go_enter Tryz.func73,Tryz.ntmps73
   go_wp2
   go_ret
   exact⟨rfl,rfl⟩
theorem Ls(w:World):PredAt Tryz.prog 73 #[] encR pr w:=fun W x _=>(pred x W).mono fun e w' ⟨h1,h2⟩=>⟨h1,0,h2⟩
def CO(s:ByteArray):Value:=
 if 30<s.size then .tuple #[.agg #[.int .u8 0,.int .i64 0,.int .u64 0,.string ⟨#[]⟩],.int .i64 4]
 else if dh s.data.toList=true then .tuple #[.agg #[.int .u8 3,.int .i64 0,.int .u64 0,.string s],.int .i64 0]
 else .tuple #[.agg #[.int .u8 0,.int .i64 0,.int .u64 0,.string ⟨#[]⟩],.int .i64 8]
theorem mD{w:World}{b:Nat}{v0 v1 v2 v3:Value}{T:TypeId}(h:w.heap[b]? =some (.cells #[v0,v1,v2,v3] T (0,0))):
  (w.cell? ⟨b,0,none⟩=some v0∧w.cell? ⟨b,1,none⟩=some v1∧w.cell? ⟨b,2,none⟩=some v2∧w.cell? ⟨b,3,none⟩=some v3)∧
  (w.frozen? ⟨b,0,none⟩=false∧w.frozen? ⟨b,1,none⟩=false∧w.frozen? ⟨b,2,none⟩=false∧w.frozen? ⟨b,3,none⟩=false):=by
 refine⟨⟨?_,?_,?_,?_⟩,Lib.frozen_of_heap h 0,Lib.frozen_of_heap h 1,Lib.frozen_of_heap h 2,Lib.frozen_of_heap h 3⟩<;>(rw [Lib.cell_of_heap h];rfl)
theorem aw(w:World)(o:Obj):(w.alloc o).heap[w.heap.size]? =some o:=by
 show(w.heap.push o)[w.heap.size]? =_
 simp
set_option maxHeartbeats 1000000 in
theorem text(s:ByteArray)(w:World)(hs:s.size≤maxLen):Calls Tryz.prog 36 #[.string s] w fun e w'=>e= .returned (CO s)∧Below w.heap.size w w':=by
 have mixed:=mix
 unfold maxLen at hs
 by_cases h1:30<s.size
 ·unfold CO
  rw [if_pos h1]
  go_enter Tryz.func36,Tryz.ntmps36
  go_wp2
  exact bodyPost_ret (by simp [results,Tryz.results36,go_sem]) rfl ⟨rfl,(Below.refl _ _).alloc (Nat.le_refl _) _⟩
 ·have hI:=Io s
  have hR:=Tryz.strings_IndexFunc 73 #[] (enters_of Tryz.func73 (by kernel_rfl) rfl) pr s
  unfold CO
  rw [if_neg h1]
  generalize Lib.idxFunc pr true s=i at hI hR
  by_cases h2:dh s.data.toList=true
  ·rw [if_pos h2]
   have h3:i<0:=by
    rw [h2]at hI
    have:¬0≤i:=fun h=>by cases hI.1 h
    omega
   clear hI h2
   go_enter Tryz.func36,Tryz.ntmps36
   go_wp2_with (go_at_call 72;refine(hR _ (Ls _)).mono ?_)
   rintro e w1 ⟨rfl,hw1⟩
   have hbk:w1.heap[w.heap.size]? =some (.cells #[.int .u8 0,.int .i64 0,.int .u64 0,.string ⟨#[]⟩] 24 (0,0)):=(hw1.block _ (by simp)).trans (aw _ _)
   obtain⟨⟨c0,c1,c2,c3⟩,f0,f1,f2,f3⟩:=mD hbk
   have hw1:=((Below.refl _ _).alloc (Nat.le_refl _) (Obj.cells #[Value.int IntKind.u8 0,Value.int IntKind.i64 0,Value.int IntKind.u64 0,Value.string {data:= #[]}] 24)).trans (hw1.mono (by simp))
   go_wp2
   exact bodyPost_ret (by simp [results,Tryz.results36,go_sem,c0,c1,c2,c3]) rfl ⟨rfl,(((hw1.setCell (p:=⟨w.heap.size,0,none⟩) (Nat.le_refl _) _).setCell (p:=⟨w.heap.size,1,none⟩) (Nat.le_refl _) _).setCell (p:=⟨w.heap.size,2,none⟩) (Nat.le_refl _) _).setCell (p:=⟨w.heap.size,3,none⟩) (Nat.le_refl _) _⟩
  ·rw [if_neg h2]
   have h3:0≤i:=hI.2 (by simpa using h2)
   clear hI h2
   go_enter Tryz.func36,Tryz.ntmps36
   go_wp2_with (go_at_call 72;refine(hR _ (Ls _)).mono ?_)
   rintro e w1 ⟨rfl,hw1⟩
   have hbk:w1.heap[w.heap.size]? =some (.cells #[.int .u8 0,.int .i64 0,.int .u64 0,.string ⟨#[]⟩] 24 (0,0)):=(hw1.block _ (by simp)).trans (aw _ _)
   obtain⟨⟨c0,c1,c2,c3⟩,f0,f1,f2,f3⟩:=mD hbk
   have hw1:=((Below.refl _ _).alloc (Nat.le_refl _) (Obj.cells #[Value.int IntKind.u8 0,Value.int IntKind.i64 0,Value.int IntKind.u64 0,Value.string {data:= #[]}] 24)).trans (hw1.mono (by simp))
   go_wp2
   exact bodyPost_ret (by simp [results,Tryz.results36,go_sem,c0,c1,c2,c3]) rfl ⟨rfl,(((hw1.setCell (p:=⟨w.heap.size,0,none⟩) (Nat.le_refl _) _).setCell (p:=⟨w.heap.size,1,none⟩) (Nat.le_refl _) _).setCell (p:=⟨w.heap.size,2,none⟩) (Nat.le_refl _) _).setCell (p:=⟨w.heap.size,3,none⟩) (Nat.le_refl _) _⟩
end Tx
end
section
open Go Go.az Go.RowKit
namespace On
theorem disable(w:World):(callFunc 156 #[]).run Tryz.prog w= .ok (.value (.tuple #[])) w:=run_call_mark0 Tryz.func156 (by kernel_rfl) (by kernel_rfl) (by kernel_rfl) .disable (by kernel_rfl) w
theorem enable(w:World):(callFunc 158 #[]).run Tryz.prog w= .ok (.value (.tuple #[])) w:=run_call_mark0 Tryz.func158 (by kernel_rfl) (by kernel_rfl) (by kernel_rfl) .enable (by kernel_rfl) w
theorem acquire(a:Addr)(w:World):(callFunc 159 #[.pointer (some a)]).run Tryz.prog w= .ok (.value (.tuple #[])) w:=run_call_marked Tryz.func159 (by kernel_rfl) (by kernel_rfl) (by kernel_rfl) .acquire (by kernel_rfl) a w
theorem releaseMerge(a:Addr)(w:World):(callFunc 161 #[.pointer (some a)]).run Tryz.prog w= .ok (.value (.tuple #[])) w:=run_call_marked Tryz.func161 (by kernel_rfl) (by kernel_rfl) (by kernel_rfl) .releaseMerge (by kernel_rfl) a w
theorem vW(a:Addr)(x:Value)(u:FrameMode)(w:World)(hc:w.cell? a=some x)(hz:w.frozen? a=false):
  CallsD Tryz.prog 128 #[.pointer (some a),.bool true] u w fun e u' w'=>u'=u∧(e= .returned (.tuple #[])∧w'=w.drew.setCell a (.int .u32 1)):=by
 have mixed:=mix
 have hc':w.drew.cell? a=some x:=by go_simp
 have hz':w.drew.frozen? a=false:=by go_simp
 have hst:=run_call_store (P:=Tryz.prog) Tryz.func147 (by kernel_rfl) (by kernel_rfl) (by kernel_rfl) (by kernel_rfl) (k:= .u32) (y:=1) hc' hz'
 go_enter_d Tryz.func128,Tryz.ntmps128
 go_wp2
 go_region_calls
 all_goals (go_end0;exact⟨rfl,rfl⟩)
theorem ta(a:Addr)(u:FrameMode)(w:World)(hc:w.cell? a=some (.int .i32 1))(hz:w.frozen? a=false):
  CallsD Tryz.prog 127 #[.pointer (some a)] u w fun e u' w'=>u'=u∧(e= .returned (.tuple #[])∧w'=w.setCell a (.int .i32 0)):=by
 have mixed:=mix
 have hd:=disable
 have he:=enable
 have hr:=releaseMerge
 have hadd:=run_call_add (P:=Tryz.prog) Tryz.func162 (by kernel_rfl) (by kernel_rfl) (by kernel_rfl) .i32 (by kernel_rfl) (y:= -1) (s:=0) hc hz (by simp [go_sem];rfl)
 have hcv:=run_convert_to_unsafe (P:=Tryz.prog) (src:=222) (dst:=165) Tryz.underlying222 Tryz.underlying165 (by kernel_rfl) hc
 go_enter_d Tryz.func127,Tryz.ntmps127
 go_wp2
 go_end0
 go_wp2
 go_end0
 exact⟨rfl,rfl⟩
theorem Ip(a:Addr)(w:World)(hc:w.cell? a=some (.int .i32 0))(hz:w.frozen? a=false):
  Calls Tryz.prog 126 #[.pointer (some a)] w fun e w'=>e= .returned (.tuple #[])∧w'=w.setCell a (.int .i32 1):=by
 have mixed:=mix
 have hd:=disable
 have he:=enable
 have ha:=acquire
 have hcas:=run_call_cas_hit (P:=Tryz.prog) Tryz.func157 (by kernel_rfl) (by kernel_rfl) (by kernel_rfl) .i32 (by kernel_rfl) (y:=1) hc hz
 have hc':(w.setCell a (.int .i32 1)).cell? a=some (.int .i32 1):=World.cell?_setCell_same w a _ hc
 have hcv:=run_convert_to_unsafe (P:=Tryz.prog) (src:=222) (dst:=165) Tryz.underlying222 Tryz.underlying165 (by kernel_rfl) hc'
 go_enter Tryz.func126,Tryz.ntmps126
 go_wp2
 first|go_end0|(simp only [Exit.inBlock,Exit.then];refine bodyPost_ret (results_none rfl _ _ _) rfl ?_)|refine bodyPost_ret (results_none rfl _ _ _) rfl ?_
 go_wp2
 go_end0
 exact⟨rfl,rfl⟩
def Lt(b off:Nat)(w:World):Prop:=(∃x,w.cell? ⟨b,off,none⟩=some x)∧w.cell? ⟨b,off+1,none⟩=some (.int .i32 1)∧w.frozen? ⟨b,off,none⟩=false∧w.frozen? ⟨b,off+1,none⟩=false
def Lu(R:World→Prop)(b off:Nat)(w':World):Prop:=∃w1,R w1∧w'=(w1.drew.setCell ⟨b,off,none⟩ (.int .u32 1)).setCell ⟨b,off+1,none⟩ (.int .i32 0)
set_option maxHeartbeats 1600000 in
theorem Yc(b off:Nat)(w:World)(R:World→Prop)
  (h0:w.cell? ⟨b,off,none⟩=some (.int .u32 0)) (h1:w.cell? ⟨b,off+1,none⟩=some (.int .i32 0)) (f0:w.frozen? ⟨b,off,none⟩=false) (f1:w.frozen? ⟨b,off+1,none⟩=false)
  (hR:∀w1,R w1→Lt b off w1)
  (hf:Calls Tryz.prog 62 #[.pointer (some ⟨b,off,none⟩)] (w.setCell ⟨b,off+1,none⟩ (.int .i32 1)) fun e w1=>e= .returned (.tuple #[])∧R w1):
  Calls Tryz.prog 94 #[.pointer (some ⟨b,off,none⟩),.func (.func 62) #[.pointer (some ⟨b,off,none⟩)] #[]] w fun e w'=>e= .returned (.tuple #[])∧Lu R b off w':=by
 have mixed:=mix
 have hl:=run_call_load (P:=Tryz.prog) Tryz.func125 (by kernel_rfl) (by kernel_rfl) (by kernel_rfl) .u32 (by kernel_rfl) (w:=w.setCell ⟨b,off+1,none⟩ (.int .i32 1)) (a:=⟨b,off,none⟩) (x:=0) ((World.cell?_setCell_other _ ⟨b,off+1,none⟩ ⟨b,off,none⟩ _ (by simp)).trans h0)
 have hnot:∀(x:Bool)(w:World),(Op.unary .not (.bool x)).run Tryz.prog w= .ok (.bool (!x)) w:=fun _ _=>rfl
 go_enter_defers Tryz.func94,Tryz.ntmps94
 go_wp2_with (first|(go_at_call 126;refine(Ip ⟨b,off+1,none⟩ _ (by go_simp) (by go_simp)).mono ?_;rintro e w' ⟨rfl,rfl⟩)|(go_at_call 62;refine hf.mono ?_;rintro e w1 ⟨rfl,hr⟩)|(go_at_call 93;go_in))
 obtain⟨⟨x,c0⟩,c1,g0,g1⟩:=hR w1 hr
 refine leaves_cons (f:=128) (args:= #[.pointer (some ⟨b,off,none⟩),.bool true]) (by simp) (by simp [go_sem]) ?_
 refine(vW ⟨b,off,none⟩ x .returning _ c0 g0).mono ?_
 rintro e u' w'' ⟨rfl,rfl,rfl⟩
 refine leaves_cons (f:=127) (args:= #[.pointer (some ⟨b,off+1,none⟩)]) (by simp [settle]) (by simp [go_sem]) ?_
 refine(ta ⟨b,off+1,none⟩ _ _ ?_ (by simp [g1])).mono ?_
 ·refine(World.cell?_setCell_other _ ⟨b,off,none⟩ ⟨b,off+1,none⟩ _ (by simp)).trans ?_
  rw [World.cell?_drew]
  exact c1
 rintro e u' w'' ⟨rfl,rfl,rfl⟩
 have hA:Lu R b off ((w1.drew.setCell ⟨b,off,none⟩ (.int .u32 1)).setCell ⟨b,off+1,none⟩ (.int .i32 0)):=⟨w1,hr,rfl⟩
 simp [Leaves,settle,results,Tryz.results94]
 exact hA
theorem Lv(b off:Nat)(w:World)(R:World→Prop)
  (h0:w.cell? ⟨b,off,none⟩=some (.int .u32 0)) (h1:w.cell? ⟨b,off+1,none⟩=some (.int .i32 0)) (f0:w.frozen? ⟨b,off,none⟩=false) (f1:w.frozen? ⟨b,off+1,none⟩=false)
  (hR:∀w1,R w1→Lt b off w1)
  (hf:Calls Tryz.prog 62 #[.pointer (some ⟨b,off,none⟩)] (w.setCell ⟨b,off+1,none⟩ (.int .i32 1)) fun e w1=>e= .returned (.tuple #[])∧R w1):
  Calls Tryz.prog 61 #[.pointer (some ⟨b,off,none⟩),.func (.func 62) #[.pointer (some ⟨b,off,none⟩)] #[]] w fun e w'=>e= .returned (.tuple #[])∧Lu R b off w':=by
 have mixed:=mix
 have hl:=run_call_load (P:=Tryz.prog) Tryz.func125 (by kernel_rfl) (by kernel_rfl) (by kernel_rfl) .u32 (by kernel_rfl) h0
 have hnot:∀(x:Bool)(w:World),(Op.unary .not (.bool x)).run Tryz.prog w= .ok (.bool (!x)) w:=fun _ _=>rfl
 have hs:=Yc b off w R h0 h1 f0 f1 hR hf
 go_enter Tryz.func61,Tryz.ntmps61
 go_wp2_with (first|(go_at_call 94;refine hs.mono ?_;rintro e w' ⟨rfl,hA⟩)|(go_at_call 93;go_in))
 go_end0
 exact⟨rfl,hA⟩
end On
end
section
open Go Go.az Go.RowKit
namespace Rb
def str(l:List UInt8):Value:= .string ⟨⟨l⟩⟩
def c0:List Value:=[.int .u32 0,.int .i32 1,.int .u32 0,.nilIface,.slice (some ⟨1,0,some 1⟩) 4 4]
def I2(xs:List Value):aD:=⟨(Tr.leaf.set 0 (.cells c0 none 0 false false)).set 1 (.cells xs (some 1) 1 false false),2,2,2⟩
theorem Yd(xs:List Value)(k:Nat):(I2 xs).obj k=if k=1 then some (.cells xs (some 1) 1 false false)else if k=0 then some (.cells c0 none 0 false false)else none:=by
 show((Tr.leaf.set 0 (aN.cells c0 none 0 false false)).set 1 (.cells xs (some 1) 1 false false)).get k=_
 rw [Tr.dm,Tr.dm]
 rfl
def QZ(N M cap:Nat):aK:=⟨fun k=>if k=0 then some ⟨N,0,5,none,0,false,5⟩else if k=1 then some ⟨M,0,cap,some 1,1,false,4⟩else none,fun _=>none⟩
def Ye:Nat→Option aN:=fun _=>none
theorem Yf{xs:List Value}{sF:aD}(hx:xs.length=4)(hs:∀v∈xs,jH v=true)(hn:2≤sF.next){w:World}{N M cap:Nat}{cur:Array Value}
  (hN:w.heap[N]? =some (.cells #[.int .u32 0,.int .i32 1,.int .u32 0,.nilIface,.slice (some ⟨M,0,none⟩) 4 cap] 132 (0,0))) (hM:w.heap[M]? =some (.cells cur 9 (0,0)))
  (hsz:cur.size=cap) (hcap:4≤cap) (htake:cur.toList.take 4=xs) (hne:N≠M):cC (I2 xs) sF (QZ N M cap) No No Ye w where
 rel:=by
  refine⟨fun k i hk=>?_,fun k i hk=>?_,fun B cc h=>(by cases h),fun k i _ _=>rfl,fun k₁ k₂ i₁ i₂ h12 h1 h2 hb=>?_⟩
  ·unfold QZ at hk
   simp only at hk
   split at hk
   ·rename_i h0
    subst h0
    cases hk
    refine⟨.cells c0 none 0 false false,by unfold ext;rw [if_pos (show 0<(I2 xs).next from(by decide:0<2))];rfl,_,132,(0,0),hN,rfl,(show 0+5≤5 by decide),fun v hv=>?_,?_,fun _ x _=>by omega,rfl,rfl,rfl,rfl⟩
    ·simp only [c0,List.mem_cons,List.not_mem_nil,or_false]at hv
     rcases hv with rfl|rfl|rfl|rfl|rfl<;>rfl
    ·exact .cons (.int _ _) (.cons (.int _ _) (.cons (.int _ _) (.cons .nilIface (.cons (.slo 4 4 cap (Nat.le_refl _) rfl ⟨rfl,hcap,.inl ⟨⟨M,0,cap,some 1,1,false,4⟩,rfl,rfl,rfl,.inl ⟨rfl,(show 0+cap*1=cap by omega)⟩⟩⟩) .nil))))
   ·split at hk
    ·rename_i h0 h1
     subst h1
     cases hk
     refine⟨.cells xs (some 1) 1 false false,by unfold ext;rw [if_pos (show 1<(I2 xs).next from(by decide:1<2))];rfl,cur,9,(0,0),hM,hsz,by show 0+xs.length≤cap;omega,fun v hv=>Gv (hs v hv),?_,fun _ x _=>by omega,rfl,rfl,rfl,hx.symm⟩
     show aR _ _ xs ((cur.toList.drop 0).take xs.length)
     rw [List.drop_zero,hx,htake]
     exact .pl hs
    ·cases hk
  ·unfold QZ at hk
   simp only at hk
   split at hk
   ·rename_i h0
    cases hk
    exact⟨Nat.zero_le _,fun _=>h0.symm⟩
   ·split at hk
    ·rename_i h1
     cases hk
     exact⟨by show 1≤k;omega,fun h=>(by cases h)⟩
    ·cases hk
  ·unfold QZ at h1 h2
   simp only at h1 h2
   exfalso
   split at h1
   ·cases h1
    split at h2
    ·omega
    ·split at h2
     ·cases h2;exact hne hb
     ·cases h2
   ·split at h1
    ·cases h1
     split at h2
     ·cases h2;exact hne hb.symm
     ·split at h2
      ·omega
      ·cases h2
    ·cases h1
 wf:=fun k hk=>by
  have hk:2≤k:=hk
  rw [Yd,if_neg (by omega),if_neg (by omega)]
 Rw:=hn
 fresh:=fun k hk _=>by
  have hk:2≤k:=hk
  show(if k=0 then _ else if k=1 then _ else none)=none
  rw [if_neg (by omega),if_neg (by omega)]
 Ng:=fun k h=>h.elim
 Ju:=fun k i h=>h.elim
 Nh:=fun k i hk hl=>by
  unfold QZ at hk
  simp only at hk
  split at hk
  ·omega
  ·split at hk
   ·omega
   ·cases hk
 dead:=fun k h=>h.elim
def Made(sF:aD)(w:World)(N M:Nat)(w1:World):Prop:=
 ∃π δ D H,cC sF sF π δ D H w1∧AR π D ⟨0,0,none⟩ ⟨N,0,none⟩∧(w1.os=w.os∧w1.tape=w.tape∧w1.output=w.output∧w.heap.size≤w1.heap.size)∧∀B,B<w.heap.size→B≠N→B≠M→w1.heap[B]? =w.heap[B]?
theorem Ly{xs:List Value}{sF:aD}(hx:xs.length=4)(hs:∀v∈xs,jH v=true)(hrun:nD Tb.T 300 12 62 [.pointer (some ⟨0,0,none⟩)] (I2 xs)=some (.tuple ⟨[]⟩,sF))(hn:2≤sF.next){w:World}{N M cap:Nat}{cur:Array Value}
  (hN:w.heap[N]? =some (.cells #[.int .u32 0,.int .i32 1,.int .u32 0,.nilIface,.slice (some ⟨M,0,none⟩) 4 cap] 132 (0,0))) (hM:w.heap[M]? =some (.cells cur 9 (0,0)))
  (hsz:cur.size=cap) (hcap:4≤cap) (htake:cur.toList.take 4=xs) (hne:N≠M):
  Calls Tryz.prog 62 #[.pointer (some ⟨N,0,none⟩)] w fun e w1=>e= .returned (.tuple #[])∧Made sF w N M w1:=by
 have hp:=Yf (sF:=sF) hx hs hn hN hM hsz hcap htake hne
 have ha:AR (QZ N M cap) No ⟨0,0,none⟩ ⟨N,0,none⟩:=⟨rfl,.inl ⟨⟨N,0,5,none,0,false,5⟩,rfl,rfl,rfl⟩⟩
 obtain⟨_,h⟩:=xP (lf:=300) Tb.bT Tb.fns 12 _ _ _ _ _ hrun
 refine(h (Nat.le_refl _) (QZ N M cap) No No Ye w [.pointer (some ⟨N,0,none⟩)] (fun g hg=>?_) (.one (.ptr rfl ha)) hp).mono fun e w1 ⟨v',π',D',h1,h2,h3⟩=>?_
 ·cases (show Nat.blt g 0=true from hg)
 ·have hv:v'= .tuple #[]:=by
   cases h2 with
   |tuple _ hc hcs=>rw [aR.empty ⟨hc,hcs⟩]
  subst hv
  refine⟨h1,π',_,D',Ye,hp.second h3 (.refl sF),ha.mono (h3.lv hp),⟨h3.fr.os,h3.fr.tape,h3.fr.output,h3.fr.size⟩,fun B hB g1 g2=>h3.fr.kF B hB fun k i hk _ hb=>?_⟩
  unfold QZ at hk
  simp only at hk
  split at hk
  ·cases hk;exact g1 hb.symm
  ·split at hk
   ·cases hk;exact g2 hb.symm
   ·cases hk
end Rb
end
section
open Go Go.az Go.RowKit
namespace Re
open Rb
def xs:List Value:=[str [32],str [92,115],str [92],str [92,92]]
def WA(b:Nat):Value:=if b=32 then .slice (some ⟨9,0,some 1⟩) 2 2 else if b=92 then .slice (some ⟨6,0,some 1⟩) 2 2 else .slice none 0 0
def row(b:Nat):Value:=if b=256 then .slice (some ⟨2,0,none⟩) 2 2 else WA b
def tab:List Value:=(List.range 257).map row
def sF:aD:=
 ⟨((((((((((Tr.leaf.set 0 (.cells [.int .u32 0,.int .i32 1,.int .u32 0,.iface 192 (.pointer (some ⟨3,0,none⟩)),.slice none 0 0] none 0 false false)).set 1 (.cells xs (some 1) 1 false false)).set 2 (.cells [str [92],str [32]] none 2 false false)).set 3 (.cells tab none 3 false false)).set 4
  (.cells [.int .u8 92] none 4 false false)).set 5 (.cells [str [92]] none 5 false false)).set 6 (.cells [.int .u8 92,.int .u8 92] (some 1) 6 false false)).set 7 (.cells [.int .u8 32] none 7 false false)).set 8 (.cells [str [32]] none 8 false false)).set 9
  (.cells [.int .u8 92,.int .u8 115] (some 1) 9 false false)),10,0,2⟩
set_option maxHeartbeats 4000000 in
theorem run:nD Tb.T 300 12 62 [.pointer (some ⟨0,0,none⟩)] (I2 xs)=some (.tuple ⟨[]⟩,sF):=by kernel_rfl
theorem o0:sF.obj 0=some (.cells [.int .u32 0,.int .i32 1,.int .u32 0,.iface 192 (.pointer (some ⟨3,0,none⟩)),.slice none 0 0] none 0 false false):=by kernel_rfl
theorem o2:sF.obj 2=some (.cells [str [92],str [32]] none 2 false false):=by kernel_rfl
theorem o3:sF.obj 3=some (.cells tab none 3 false false):=by kernel_rfl
theorem o6:sF.obj 6=some (.cells [.int .u8 92,.int .u8 92] (some 1) 6 false false):=by kernel_rfl
theorem o9:sF.obj 9=some (.cells [.int .u8 92,.int .u8 115] (some 1) 9 false false):=by kernel_rfl
theorem EC(b:Nat)(h:b<257):tab[b]? =some (row b):=by
 unfold tab
 rw [List.getElem?_map,List.getElem?_range h];rfl
def vY(a1 a2:Addr)(c1 c2 b:Nat):Value:=if b=32 then .slice (some a1) 2 c1 else if b=92 then .slice (some a2) 2 c2 else .slice none 0 0
structure CQ(w:World)(N:Nat)(B x:Nat)(a1 a2 a3:Addr)(c1 c2 c3:Nat):Prop where
 r:w.cell? ⟨N,3,none⟩=some (.iface 192 (.pointer (some ⟨B,x,none⟩)))
 tab:∀b,b<256→w.cell? ⟨B,x+b,none⟩=some (vY a1 a2 c1 c2 b)
 list:w.cell? ⟨B,x+256,none⟩=some (.slice (some a3) 2 c3)
 b1:w.cell? ⟨a1.block,a1.off,none⟩=some (.int .u8 92)∧w.cell? ⟨a1.block,a1.off+1,none⟩=some (.int .u8 115)
 b2:w.cell? ⟨a2.block,a2.off,none⟩=some (.int .u8 92)∧w.cell? ⟨a2.block,a2.off+1,none⟩=some (.int .u8 92)
 b3:w.cell? ⟨a3.block,a3.off,none⟩=some (str [92])∧w.cell? ⟨a3.block,a3.off+1,none⟩=some (str [32])
 CR:a1.spot=none∧a2.spot=none∧a3.spot=none
 WB:2≤c1∧2≤c2∧2≤c3
 ne:B≠N∧a1.block≠N∧a2.block≠N∧a3.block≠N
 lt:B<w.heap.size∧a1.block<w.heap.size∧a2.block<w.heap.size∧a3.block<w.heap.size
theorem facts{w w1:World}{N M:Nat}(h:Made sF w N M w1):On.Lt N 0 w1∧∃B x a1 a2 a3 c1 c2 c3,CQ w1 N B x a1 a2 a3 c1 c2 c3:=by
 obtain⟨π,δ,D,H,hp,ha,_,_⟩:=h
 have q0:=fq o0
 obtain⟨v,g0,_⟩:=hp.cell q0 ha (j:=0) rfl
 obtain⟨v1,g1,h1⟩:=hp.cell q0 ha (j:=1) rfl
 obtain⟨v3,g3,h3⟩:=hp.cell q0 ha (j:=3) rfl
 rw [h1.aZ]at g1
 obtain⟨u3,rfl,h4⟩:=h3.gu
 obtain⟨a,rfl,ha0,hA⟩:=h4.vX
 have f0:=hp.free o0 ha (j:=0) (by decide)
 have f1:=hp.free o0 ha (j:=1) (by decide)
 refine⟨⟨⟨v,g0⟩,g1,f0,f1⟩,?_⟩
 have q3:=fq o3
 have T:=fun b hb=>hp.cell q3 hA (j:=b) (v:=row b) (by rw [Nat.zero_add];exact EC b hb)
 obtain⟨v32,g32,h32⟩:=T 32 (by decide)
 obtain⟨v92,g92,h92⟩:=T 92 (by decide)
 obtain⟨vl,gl,hl⟩:=T 256 (by decide)
 obtain⟨a1,c1,rfl,k1,s1,hA1⟩:=VR.mE (show VR π D (.slice (some ⟨9,0,some 1⟩) 2 2) v32 from h32) (by decide)
 obtain⟨a2,c2,rfl,k2,s2,hA2⟩:=VR.mE (show VR π D (.slice (some ⟨6,0,some 1⟩) 2 2) v92 from h92) (by decide)
 obtain⟨a3,c3,rfl,k3,s3,hA3⟩:=VR.mE (show VR π D (.slice (some ⟨2,0,none⟩) 2 2) vl from hl) (by decide)
 have q9:=fq o9
 have q6:=fq o6
 have q2:=fq o2
 obtain⟨_,e1,r1⟩:=hp.cell q9 hA1 (j:=0) rfl
 obtain⟨_,e2,r2⟩:=hp.cell q9 hA1 (j:=1) rfl
 obtain⟨_,e3,r3⟩:=hp.cell q6 hA2 (j:=0) rfl
 obtain⟨_,e4,r4⟩:=hp.cell q6 hA2 (j:=1) rfl
 obtain⟨_,e5,r5⟩:=hp.cell q2 hA3 (j:=0) rfl
 obtain⟨_,e6,r6⟩:=hp.cell q2 hA3 (j:=1) rfl
 rw [r1.aZ]at e1
 rw [r2.aZ]at e2
 rw [r3.aZ]at e3
 rw [r4.aZ]at e4
 rw [r5.bn]at e5
 rw [r6.bn]at e6
 have hB:a=⟨a.block,a.off,none⟩:=by
  obtain⟨b,o,s⟩:=a
  simp only at ha0
  subst ha0;rfl
 refine⟨a.block,a.off,a1,a2,a3,c1,c2,c3,by rw [←hB];exact g3,fun b hb=>?_,gl,⟨e1,e2⟩,⟨e3,e4⟩,⟨e5,e6⟩,⟨s1,s2,s3⟩,⟨k1,k2,k3⟩,⟨?_,?_,?_,?_⟩,hp.aB q3 hA,hp.aB q9 hA1,hp.aB q6 hA2,hp.aB q2 hA3⟩
 ·unfold vY
  by_cases h32:b=32
  ·subst h32;exact g32
  ·by_cases h92:b=92
   ·subst h92;exact g92
   ·obtain⟨vb,gb,hb'⟩:=T b (by omega)
    rw [if_neg h32,if_neg h92]
    have:row b= .slice none 0 0:=by
     unfold row WA
     rw [if_neg (by omega),if_neg h32,if_neg h92]
    rw [this]at hb'
    rw [hb'.ju]at gb
    exact gb
 ·exact hp.apart o3 o0 (by decide) (by decide) hA ha
 ·exact hp.apart o9 o0 (by decide) (by decide) hA1 ha
 ·exact hp.apart o6 o0 (by decide) (by decide) hA2 ha
 ·exact hp.apart o2 o0 (by decide) (by decide) hA3 ha
end Re
end
section
open Go Go.az Go.RowKit
namespace Nr
theorem An:(Tryz.prog.info? 9).map (fun i=>(i.zero,i.size,i.bytes))=some (some (.string ⟨#[]⟩),1,16):=by kernel_rfl
def SA(xs:List Value)(w:World)(N:Nat)(w':World):Prop:=∃M cap cur,w'.heap[N]? =some (.cells #[.int .u32 0,.int .i32 0,.int .u32 0,.nilIface,.slice (some ⟨M,0,none⟩) 4 cap] 132 (0,0))∧w'.heap[M]? =some (.cells cur 9 (0,0))∧
 cur.size=cap∧4≤cap∧cur.toList.take 4=xs∧N≠M∧w.heap.size≤N∧w.heap.size≤M∧Below w.heap.size w w'
set_option maxHeartbeats 2000000 in
theorem sO(xs:List Value)(bm cap0:Nat)(w0 w:World)(hx:xs.length=4)(hone:∀v∈xs,jH v=true)(hc:∀j v,xs[j]? =some v→w.cell? ⟨bm,j,none⟩=some v)(hw:Below w0.heap.size w0 w):
  Calls Tryz.prog 60 #[.slice (some ⟨bm,0,none⟩) 4 cap0] w fun e w'=>∃N,e= .returned (.pointer (some ⟨N,0,none⟩))∧SA xs w0 N w':=by
 obtain⟨i0,hi,hz0,hz1,hz2⟩:=info_parts An
 have mixed:=mix
 have hown:w.ownsRow w0.heap.size 9 1 (.slice none 0 0) 0 []:=⟨rfl,.inl ⟨rfl,rfl⟩⟩
 go_enter Tryz.func60,Tryz.ntmps60
 go_wp2_with (at_builtin;refine wpList_append_own _ rfl _ _ 55 rfl w0.heap.size 9 i0 (.string ⟨#[]⟩) 1 16 Tryz.underlying55 hi hz0 hz1 hz2 rfl (by decide) _ _ _ rfl hown ⟨bm,0,none⟩ 4 cap0 xs rfl ?c0 ?c1 ?c2 ?c3 ?c4 ?c5 ?_)
 case c0=>omega
 case c1=>
  intro j u hj
  have:(⟨bm,0,none⟩:Addr).add j=⟨bm,j,none⟩:=by
   cases j with
   |zero=>rfl
   |succ j=>simp [Addr.add]
  rw [this]
  exact hc j u hj
 case c2=>intro u hu;have:=hone u hu;cases u<;>first|rfl|cases this
 case c3=>unfold maxLen;omega
 case c4=>omega
 case c5=>exact hw.size
 intro v' w1 hown1 hgrow hnn
 obtain⟨M,cap,cur,rfl,hM1,hM2,hM3,hM4,hM5,hM6⟩:∃M cap cur,v'= .slice (some ⟨M,0,none⟩) 4 cap∧w0.heap.size≤M∧w1.heap[M]? =some (.cells cur 9 (0,0))∧4≤cap∧cap≤maxLen∧cur.size=cap*1∧cur.toList.take (4*1)=xs:=by
  rcases hown1.2 with⟨h,_⟩|⟨g,cap,cur,h1,h2,h3,h4,h5,h6,h7⟩
  ·exact absurd h hnn
  ·exact⟨g,cap,cur,h1,h2,h3,h4,h5,h6,h7⟩
 have hw1:Below w0.heap.size w0 w1:=hw.grown hgrow hw.size (fun k hk=>by cases hk)
 have hlt:M<w1.heap.size:=by
  rcases Nat.lt_or_ge M w1.heap.size with h'|h'
  ·exact h'
  ·rw [Array.getElem?_eq_none h']at hM2;cases hM2
 have hN:Hid (SA xs w0 w1.heap.size (w1.alloc (.cells #[.int .u32 0,.int .i32 0,.int .u32 0,.nilIface,.slice (some ⟨M,0,none⟩) 4 cap] 132))):=by
  refine⟨M,cap,cur,Tx.aw _ _,?_,by omega,hM3,by simpa using hM6,by omega,hw1.size,hM1,hw1.alloc hw1.size _⟩
  rw [Below.heap_alloc _ _ _ hlt];exact hM2
 clear hw1 hM2 hM5 hM6 hown1 hgrow hnn hc hone hx hi hz0 hz1 hz2 hown
 go_wp2
 go_ret
 exact⟨_,rfl,hN.out⟩
theorem Lz{w:World}{b:Nat}{v0 v1 v2 v3:Value}{T:TypeId}{fz:Nat×Nat}(h:w.heap[b]? =some (.cells #[v0,v1,v2,v3] T fz)):∀(j:Nat)(v:Value),[v0,v1,v2,v3][j]? =some v→w.cell? ⟨b,j,none⟩=some v:=fun j v hv=>by
 rw [Lib.cell_of_heap h,←hv,←Array.getElem?_toList]
set_option maxHeartbeats 2000000 in
theorem PS(w:World):Calls Tryz.prog 22 #[] w fun e w'=>∃N,e= .returned (.pointer (some ⟨N,0,none⟩))∧SA Re.xs w N w':=by
 have mixed:=mix
 have hs:=sO Re.xs w.heap.size 4 w (w.alloc (.cells #[.string ⟨#[32]⟩,.string ⟨#[92,115]⟩,.string ⟨#[92]⟩,.string ⟨#[92,92]⟩] 9)) rfl (fun v hv=>by
  simp only [Re.xs,List.mem_cons,List.not_mem_nil,or_false]at hv
  rcases hv with rfl|rfl|rfl|rfl<;>rfl) (Lz (Tx.aw _ _)) ((Below.refl _ _).alloc (Nat.le_refl _) _)
 go_enter Tryz.func22,Tryz.ntmps22
 go_wp2_with (go_at_call 60;refine hs.mono ?_)
 rintro e w1 ⟨N,rfl,hN⟩
 have hN:=Lib.hid hN
 go_wp2
 go_ret
 exact⟨N,rfl,hN.out⟩
end Nr
end
section
open Go Go.az Go.RowKit
namespace Bu
set_option maxHeartbeats 2000000 in
theorem writeString(B b:Nat)(bs:List Value)(s:ByteArray)(w:World)(h:Lib.IsBuilder 84 5 B b bs w)(hlen:bs.length+s.size≤140737488355328)(hBw:B≤w.heap.size):
  Calls Tryz.prog 40 #[.pointer (some ⟨b,0,none⟩),.string s] w fun e w'=>e= .returned (.tuple #[.int .i64 s.size,.nilIface])∧(Lib.BuilderAt 84 5 B b (.pointer (some ⟨b,0,none⟩)) (bs++Lib.strCells s) w'∧Below B w w'):=by
 obtain⟨i0,hi,hz0,hz1,hz2⟩:=info_parts infoByte
 have mixed:=mix
 go_enter Tryz.func40,Tryz.ntmps40
 go_wp2_with (go_at_call 74;refine(yn B b bs _ h).mono ?_)
 rintro e w1 ⟨rfl,h1,hb1⟩
 obtain⟨hB,v,hbk,hown,hne⟩:=h1
 have c0:w1.cell? ⟨b,0,none⟩=some (.pointer (some ⟨b,0,none⟩)):=by rw [Lib.cell_of_heap hbk];rfl
 have c1:w1.cell? ⟨b,1,none⟩=some v:=by rw [Lib.cell_of_heap hbk];rfl
 have hB1:B≤w1.heap.size:=Nat.le_trans hBw hb1.size
 go_wp2_with (at_builtin;refine Lib.wpList_append_own_string _ rfl _ _ 61 9 rfl B 5 i0 Tryz.underlying61 Tryz.underlying9 hi hz0 hz1 hz2 _ _ _ rfl hown s rfl ?c1 hlen hB1 ?_)
 case c1=>unfold maxLen;omega
 intro v' w2 hown' hgrow _
 have hlt:b<w1.heap.size:=by
  rcases Nat.lt_or_ge b w1.heap.size with h'|h'
  ·exact h'
  ·simp [Array.getElem?_eq_none h']at hbk
 have hb2:w2.heap[b]? =some (.cells #[.pointer (some ⟨b,0,none⟩),v] 84 (0,0)):=by
  rw [hgrow.block b hlt (fun e=>hne e.symm)]
  exact hbk
 have d0:w2.cell? ⟨b,0,none⟩=some (.pointer (some ⟨b,0,none⟩)):=by rw [Lib.cell_of_heap hb2];rfl
 have d1:w2.cell? ⟨b,1,none⟩=some v:=by rw [Lib.cell_of_heap hb2];rfl
 have f1:w2.frozen? ⟨b,1,none⟩=false:=Lib.frozen_of_heap hb2 1
 obtain⟨x,n,c,hx⟩:∃x n c,v'= .slice x n c:=by
  rcases hown'.2 with⟨h,_⟩|⟨g,cap,cur,h,_⟩<;>exact⟨_,_,_,h⟩
 have hl:(bs++Lib.strCells s).length=bs.length+s.size:=by have:=hown'.1;simpa using this
 have HA:Hid (Lib.BuilderAt 84 5 B b (.pointer (some ⟨b,0,none⟩)) (bs++Lib.strCells s) (w2.setCell ⟨b,1,none⟩ v')):=
  Lib.hid (Lib.BuilderAt.put (T:=84) (e:=5) hB hb2 (bs':=bs++Lib.strCells s) (by rw [hl];exact hown') (by decide))
 have hbb:Below B w w2:=hb1.grown hgrow hB1 (fun k hk=>(hown.lt k hk).1)
 clear hown' hgrow hown hbk hb2 hi hz0 hz1 hz2 hne c0 hl
 subst hx
 go_wp2
 go_ret2
 exact⟨rfl,HA.out,hbb.setCell (p:=⟨b,1,none⟩) hB _⟩
theorem sizeByte:(Tryz.prog.info? 5).map (fun i=>i.size)=some 1:=by kernel_rfl
set_option maxHeartbeats 4000000 in
theorem grow(B b n:Nat)(w:World)(hB:B≤b)(hbk:w.heap[b]? =some (.cells #[.pointer (some ⟨b,0,none⟩),.slice none 0 0] 84 (0,0)))(hBw:B≤w.heap.size)(hn:n≤281474976710656):
  Calls Tryz.prog 107 #[.pointer (some ⟨b,0,none⟩),.int .i64 n] w fun e w'=>e= .returned (.tuple #[])∧(Lib.BuilderAt 84 5 B b (.pointer (some ⟨b,0,none⟩)) [] w'∧Below B w w'):=by
 obtain⟨cs,hrun,hle,hmax⟩:=Lib.run_makeNoZero (P:=Tryz.prog) w.drew #[3] 61 5 Tryz.underlying61 n hn
 have hw:IntKind.i64.wrap (IntKind.i64.wrap 0+(n:Int))=n:=by
  rw [IntKind.wrap_i64,IntKind.wrap_i64]
  omega
 have hcall:(callFunc 135 #[.int .i64 (IntKind.i64.wrap (IntKind.i64.wrap 0+(n:Int)))]).run Tryz.prog w.drew= .ok (.value (.slice (some ⟨w.drew.heap.size,0,none⟩) n cs.size)) (w.drew.drew.drew.alloc (.cells cs 5)):=by
  rw [hw,run_callFunc_extern Tryz.func135 (by kernel_rfl) (by kernel_rfl) (by kernel_rfl) (e:=Extern.BytealgMakeNoZero.makeNoZero #[3] #[61]) (by kernel_rfl),hrun]
  rfl
 have hlt:b<w.heap.size:=by
  rcases Nat.lt_or_ge b w.heap.size with h'|h'
  ·exact h'
  ·simp [Array.getElem?_eq_none h']at hbk
 have c1:w.drew.cell? ⟨b,1,none⟩=some (.slice none 0 0):=by
  have:w.drew.heap[b]? =_:=hbk
  rw [Lib.cell_of_heap this];rfl
 have c2:(w.alloc (.cells cs 5)).cell? ⟨b,1,none⟩=some (.slice none 0 0):=by
  have:(w.alloc (.cells cs 5)).heap[b]? =_:=(Lib.alloc_old w _ b hlt).trans hbk
  rw [Lib.cell_of_heap this];rfl
 have f2:(w.alloc (.cells cs 5)).frozen? ⟨b,1,none⟩=false:=Lib.frozen_of_heap ((Lib.alloc_old w _ b hlt).trans hbk) 1
 have hcopy:∀W:World,(Builtin.copy_ #[61,61] 3 #[.slice (some ⟨w.heap.size,0,none⟩) 0 cs.size,.slice none 0 0]).run Tryz.prog W= .ok (goInt 0) W:=
  fun W=>run_copy_none W 61 61 3 5 _ _ 0 cs.size 0 0 Tryz.underlying61 sizeByte rfl
 clear hw hlt
 have mixed:=mix
 go_enter Tryz.func107,Tryz.ntmps107
 go_wp2
 have hfin:=Lib.grown_fresh (T:=84) (e:=5) (cs:=cs) hB hbk hBw (hmax (by unfold maxLen;omega)) (by decide)
 go_region_o
 all_goals (go_wp2;go_end0;exact⟨rfl,hfin⟩)
set_option maxHeartbeats 4000000 in
theorem Grow(B b n:Nat)(w:World)(hB:B≤b)(hbk:w.heap[b]? =some (.cells #[.pointer none,.slice none 0 0] 84 (0,0)))(hBw:B≤w.heap.size)(hn:n≤281474976710656):
  Calls Tryz.prog 75 #[.pointer (some ⟨b,0,none⟩),.int .i64 n] w fun e w'=>e= .returned (.tuple #[])∧(Lib.BuilderAt 84 5 B b (.pointer (some ⟨b,0,none⟩)) [] w'∧Below B w w'):=by
 have hbk1:(w.setCell ⟨b,0,none⟩ (.pointer (some ⟨b,0,none⟩))).heap[b]? =some (.cells #[.pointer (some ⟨b,0,none⟩),.slice none 0 0] 84 (0,0)):=by
  simp [World.setCell,Array.getElem?_modify,hbk]
 have c1:(w.setCell ⟨b,0,none⟩ (.pointer (some ⟨b,0,none⟩))).cell? ⟨b,1,none⟩=some (.slice none 0 0):=by rw [Lib.cell_of_heap hbk1];rfl
 have hb1:Below B w (w.setCell ⟨b,0,none⟩ (.pointer (some ⟨b,0,none⟩))):=(Below.refl B w).setCell (p:=⟨b,0,none⟩) hB _
 have mixed:=mix
 have hU:Lib.BuilderAt 84 5 B b (.pointer (some ⟨b,0,none⟩)) [] (w.setCell ⟨b,0,none⟩ (.pointer (some ⟨b,0,none⟩))):=⟨hB,.slice none 0 0,hbk1,World.ownsRow_nil _ _ _ _,by simp [Value.ownBlock]⟩
 have c1':(w.setCell ⟨b,0,none⟩ (.pointer (some ⟨b,0,none⟩))).drew.cell? ⟨b,1,none⟩=some (.slice none 0 0):=c1
 go_enter Tryz.func75,Tryz.ntmps75
 go_wp2_with (go_at_call 74;refine(lD b w (by rw [Lib.cell_of_heap hbk];rfl) (by simp [World.shape?,hbk]) (Lib.frozen_of_heap hbk 0)).mono ?_;rintro e w' ⟨rfl,rfl⟩)
 go_region_o
 all_goals go_wp2_with (go_at_call 107;refine(grow B b n (w.setCell ⟨b,0,none⟩ (.pointer (some ⟨b,0,none⟩))).drew hB hbk1 (by simpa [World.setCell,World.drew,-World.drew_eq]using hBw) hn).mono ?_;rintro e w' ⟨rfl,h1,h2⟩)
 all_goals first
  |(go_end0;exact⟨rfl,h1,hb1.drew.trans h2⟩)
  |(go_end0;exact⟨rfl,hU.drew,hb1.drew⟩)
end Bu
end
section
open Go Go.az Go.RowKit
namespace Jn
def cd:List (List UInt8)→List UInt8
 | []=>[]
 | [a]=>a
 |a::b::l=>a++32::cd (b::l)
theorem yq:∀(l:List (List UInt8))(b:List UInt8),l≠[]→cd (l++[b])=cd l++32::b
 | [],_,h=>absurd rfl h
 | [a],b,_=>rfl
 |a::c::l,b,_=>by
  have:=yq (c::l) b (by simp)
  rw [show a::c::l++[b]=a::c::(l++[b])from rfl]
  unfold cd
  rw [show c::(l++[b])=c::l++[b]from rfl,this]
  simp
def wd(ws:List (List UInt8))(j:Nat):List UInt8:=ws.getD j []
def wB(ws:List (List UInt8))(j:Nat):ByteArray:=⟨⟨wd ws j⟩⟩
theorem CS{ws:List (List UInt8)}{j:Nat}(h:j<ws.length):wd ws j=ws[j]:=by simp [wd,List.getD,List.getElem?_eq_getElem h]
def qd(ws:List (List UInt8))(k:Nat):Nat:=((ws.take k).map List.length).sum
theorem yr(ws:List (List UInt8))(k:Nat)(h:k<ws.length):qd ws (k+1)=qd ws k+(wd ws k).length:=by
 unfold qd
 rw [List.take_succ_eq_append_getElem h,List.map_append,List.sum_append]
 rw [CS h]
 simp
theorem Ao(ws:List (List UInt8))(M:Nat)(hm:∀x∈ws,x.length≤M):∀k,k≤ws.length→qd ws k≤k*M
 |0,_=>by simp [qd]
 |k+1,h=>by
  have h1:=Ao ws M hm k (by omega)
  have h2:(wd ws k).length≤M:=by
   rw [CS (show k<ws.length by omega)]
   exact hm _ (List.getElem_mem _)
  rw [yr ws k (by omega),Nat.succ_mul]
  omega
theorem Iq(ws:List (List UInt8))(k:Nat)(h:k+1<ws.length):cd (ws.take (k+2))=cd (ws.take (k+1))++32::wd ws (k+1):=by
 have hne:ws.take (k+1)≠[]:=by
  cases ws with
  |nil=>simp at h
  |cons a l=>simp
 rw [List.take_succ_eq_append_getElem h,yq _ _ hne,CS h]
theorem qe:∀(l:List (List UInt8)),(cd l).length≤(l.map List.length).sum+l.length
 | []=>by simp [cd]
 | [a]=>by simp [cd]
 |a::b::l=>by
  have:=qe (b::l)
  simp [cd]at this ⊢
  omega
theorem PT(n:Nat)(h2:2≤n)(h:n≤1000):¬9223372036854775807 / ((n:Int)-1)≤1:=by
 have:(2:Int)*((n:Int)-1)≤9223372036854775807:=by omega
 have:=(Int.le_ediv_iff_mul_le (by omega:(0:Int)<(n:Int)-1)).2 this
 omega
set_option maxHeartbeats 4000000 in
theorem join(bm off cap:Nat)(ws:List (List UInt8))(w:World)(h2:2≤ws.length)(hn:ws.length≤1000)(hm:∀x∈ws,x.length≤1000)(hcap:ws.length≤cap)(hblk:bm<w.heap.size)
  (hc:∀j,j<ws.length→w.cell? ⟨bm,off+j,none⟩=some (.string (wB ws j))):
  Calls Tryz.prog 41 #[.slice (some ⟨bm,off,none⟩) ws.length cap,.string ⟨#[32]⟩] w fun e w'=>e= .returned (.string ⟨(cd ws).toArray⟩)∧Below w.heap.size w w':=by
 have mixed:=mix
 generalize hN:ws.length=n at*
 have HN:=Lib.hid hN
 have hsum:=Ao ws 1000 hm
 rw [hN]at hsum
 have htd:=PT n h2 hn
 have hq:decide (9223372036854775807 / ((n:Int)-1)≤1)=false:=decide_eq_false htd
 have hn0:((n:Int)==0)=false:=by simp;omega
 have hn1:((n:Int)==1)=false:=by simp;omega
 have hml:∀j,j<n→(wd ws j).length≤1000:=fun j hj=>by
  rw [CS (show j<ws.length by omega)]
  exact hm _ (List.getElem_mem _)
 clear hN hm
 have HC:=Lib.hid hc
 have HM:=Lib.hid hml
 clear hc hml
 go_enter Tryz.func41,Tryz.ntmps41
 go_wp2
 go_loopw [5,41] (fun v5 v41 wr=>∃k:Nat,v41= .int .i64 k∧k≤n∧v5= .int .i64 ((n:Int)-1+qd ws k)∧wr=w) (fun _ v41 _=>n-(intOf v41).toNat)
 case atStart=>exact⟨0,rfl,Nat.zero_le _,by simp [qd],rfl⟩
 case round=>
  obtain⟨k,rfl,hk,rfl,rfl⟩:=hrel
  have hsk:=hsum k hk
  by_cases hlt:k<n
  ·have hck:=HC.out k hlt
   have hlk:=HM.out k hlt
   have hss:=yr ws k (by rw [HN.out];exact hlt)
   have hsl:(wB ws k).size=(wd ws k).length:=rfl
   generalize wB ws k=x at hck hsl
   rw [←hsl]at hlk hss
   have hd:decide (9223372036854775807-((n:Int)-1+(qd ws k:Nat))<(x.size:Int))=false:=decide_eq_false (by omega)
   have hd':decide ((x.size:Int)>9223372036854775807-((n:Int)-1+(qd ws k:Nat)))=false:=hd
   go_wp2
   exact⟨⟨k+1,by go_num,by omega,by rw [hss];go_num,trivial⟩,by simp [intOf];omega⟩
  ·obtain rfl:k=n:=by omega
   have hS:((k:Int)-1+(qd ws k:Nat))=((k-1+qd ws k:Nat):Int):=by omega
   rw [hS]
   generalize hM:k-1+qd ws k=M
   have hMb:M≤281474976710656:=by omega
   have HS:=Lib.hid hsum
   clear hM hS htd hq hn0 hn1 hsum hsk hlt hk
   rename World=>w0
   have q0:w0.cell? ⟨bm,off,none⟩=some (.string (wB ws 0)):=HC.out 0 (by omega)
   have l0:(wB ws 0).size≤1000:=HM.out 0 (by omega)
   have hk1:decide ((1:Int)≤(k:Int))=true:=decide_eq_true (by omega)
   go_wp2_with (go_at_call 75;refine(Bu.Grow w0.heap.size w0.heap.size M _ (Nat.le_refl _) (Tx.aw _ _) (by simp) hMb).mono ?_)
   rintro e w1 ⟨rfl,k1,b1⟩
   have b1:=((Below.refl _ w0).alloc (Nat.le_refl _) (.cells #[.pointer none,.slice none 0 0] 84)).trans b1
   have q0:=(b1.cell (p:=⟨bm,off,none⟩) hblk).trans q0
   go_wp2_with (go_at_call 40;refine(Bu.writeString w0.heap.size w0.heap.size [] (wB ws 0) w1 (.inr k1) (by simp;omega) b1.size).mono ?_)
   rintro e w2 ⟨rfl,k2,b2⟩
   have b2:=b1.trans b2
   have k2:Lib.BuilderAt 84 5 w0.heap.size w0.heap.size (.pointer (some ⟨w0.heap.size,0,none⟩)) (Lib.byteCells (cd (ws.take (0+1)))) w2:=by
    have e0:cd (ws.take (0+1))=wd ws 0:=by
     cases ws with
     |nil=>rfl
     |cons a l=>rfl
    rw [e0];exact k2
   clear k1 b1 q0 l0
   go_wp2
   go_loopw [65] (fun v65 wr=>∃j:Nat,v65= .int .i64 j∧j+1≤k∧Lib.BuilderAt 84 5 w0.heap.size w0.heap.size (.pointer (some ⟨w0.heap.size,0,none⟩)) (Lib.byteCells (cd (ws.take (j+1)))) wr∧Below w0.heap.size w0 wr) (fun v65 _=>k-(intOf v65).toNat)
   case atStart=>exact⟨0,rfl,by omega,k2,b2⟩
   case round=>
    obtain⟨j,rfl,hj,k3,b3⟩:=hrel
    by_cases hlt:j+1<k
    ·have hcj:wr.cell? ⟨bm,off+(j+1),none⟩=some (.string (wB ws (j+1))):=(b3.cell (p:=⟨bm,off+(j+1),none⟩) hblk).trans (HC.out (j+1) hlt)
     have hcj:wr.cell? ⟨bm,off+1+j,none⟩=some (.string (wB ws (j+1))):=by rw [Nat.add_assoc,Nat.add_comm 1 j];exact hcj
     have lj:(wB ws (j+1)).size≤1000:=HM.out (j+1) hlt
     have hjs:=Iq ws j (by rw [HN.out];exact hlt)
     have hlen:(Lib.byteCells (cd (ws.take (j+1)))).length≤2000000:=by
      have e1:=qe (ws.take (j+1))
      have e2:=HS.out (j+1) (by omega)
      unfold qd at e2
      have e3:(ws.take (j+1)).length≤j+1:=by rw [List.length_take];omega
      rw [Lib.byteCells_length]
      omega
     have hfin:Lib.byteCells (cd (ws.take (j+1)))++Lib.strCells ⟨#[32]⟩++Lib.strCells (wB ws (j+1))=Lib.byteCells (cd (ws.take (j+2))):=by
      rw [hjs]
      simp [Lib.byteCells,Lib.strCells,wB]
     have HF:=Lib.hid hfin
     clear hfin hjs
     generalize Lib.byteCells (cd (ws.take (j+1)))=bs at k3 hlen HF
     generalize wB ws (j+1)=x at hcj lj HF
     go_wp2_with (go_at_call 40;refine(Bu.writeString w0.heap.size w0.heap.size bs ⟨#[32]⟩ wr (.inr k3) (by show bs.length+1≤_;omega) b3.size).mono ?_)
     rintro e w4 ⟨rfl,k4,b4⟩
     have b4:=b3.trans b4
     have hcj:=(b4.cell (p:=⟨bm,off+1+j,none⟩) hblk).trans ((b3.cell (p:=⟨bm,off+1+j,none⟩) hblk).symm.trans hcj)
     go_wp2_with (go_at_call 40;refine(Bu.writeString w0.heap.size w0.heap.size _ x w4 (.inr k4) (by rw [List.length_append];show bs.length+1+x.size≤_;omega) b4.size).mono ?_)
     rintro e w5 ⟨rfl,k5,b5⟩
     have b5:=b4.trans b5
     rw [HF.out]at k5
     go_wp2
     exact⟨⟨j+1,by go_num,by omega,k5,b5⟩,by simp [intOf];omega⟩
    ·obtain rfl:k=j+1:=by omega
     have hz:ws.take (j+1)=ws:=List.take_of_length_le (by rw [HN.out];exact Nat.le_refl _)
     rw [hz]at k3
     go_wp2_with (go_at_call 44;refine(Tryz.Builder_String_any w0.heap.size w0.heap.size (cd ws) wr (.inr k3) b3.size).mono ?_)
     rintro e w4 ⟨rfl,b4⟩
     have b4:=b3.trans b4
     go_wp2
     go_ret
     exact⟨rfl,b4⟩
end Jn
end
end Go.Proofs.YtdmpneafeadbbaaGreatDoor
end
