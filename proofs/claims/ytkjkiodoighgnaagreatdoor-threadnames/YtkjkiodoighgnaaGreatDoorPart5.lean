/- What is proved: the law ThreadNames returns true. Conditions: none beyond the card's own.
   Texts: S02D, L02D, C02A, H02A, T02a, T02i, T02j, T02k, T02l, T02b, T02c, T02d, T02e, T02f, T02m, T02n, T02o, T02p.
-/
import Derived.Test.YtkjkiodoighgnaaGreatDoorPart4
import Derived.Shelf.Strings.Builder1
import Derived.Shelf.Small.Bits
import Derived.Shelf.Strings.BuilderF
import Derived.Shelf.Strconv.Atoi
import Derived.Shelf.Strconv.Itoa0
import Derived.Shelf.Strconv.Itoa1
import Derived.Shelf.LaysM
import Derived.Shelf.Strconv.Itoa2
import Derived.Shelf.Strconv.Itoa3
import Derived.Shelf.Strconv.AtoiErrFast
import Derived.Shelf.Strconv.ParseIntEmpty
import Derived.Shelf.Strconv.AtoiFail
import Derived.Shelf.Strconv.Clone
import Derived.Shelf.Strconv.SyntaxError
import Derived.Shelf.LaysC
import Derived.Shelf.Strconv.ToError
import Derived.Shelf.Strconv.Lower
import Derived.Shelf.Strconv.ParseUint10
import Derived.Shelf.Strconv.ParseUint10Empty
import Derived.Shelf.Strconv.ParseUint10Any
import Derived.Shelf.Strconv.ParseInt10
import Derived.Shelf.Strconv.AtoiLong
import Derived.Shelf.Strconv.AtoiInnerAll
import Derived.Shelf.Strconv.RangeError
import Derived.Shelf.Strconv.ToErrorRange
import Derived.Shelf.Strconv.AtoiAll
import Derived.Shelf.Strconv.ErrVarAll
import Derived.Shelf.Strconv.ParseUintEmpty
import Derived.Shelf.Strings.Search1
import Derived.Shelf.Strings.Search2
import Derived.Shelf.Strings.Search3
import Derived.Shelf.Strings.Shaped
import Derived.Shelf.Sort.Plain
import Derived.Shelf.Unicode.Decode
import Derived.Shelf.Bits.Mul64
import Derived.Shelf.Unicode.DecodeSlow
import Derived.Shelf.Unicode.DecodeAny
import Derived.Shelf.Slices.Turned
import Derived.Shelf.Slices.Reverse
import Derived.Ground.Names2Prog
import Derived.Shelf.Slices.Clone
import Derived.Shelf.Slices.CompactI
import Derived.Shelf.Slices.SearchI
import Derived.Shelf.Slices.Cells
import Derived.Shelf.Slices.In.SortNone
import Derived.Ground.SlgnProg
import Derived.Shelf.SlicesE.Reverse
import Derived.Shelf.SlicesE.Clone
import Derived.Test.YtkjkiodoighgnaaGreatDoorProg
import Derived.KernelRfl
import Derived.Lib.ItoaLen
import Derived.Lib.AtoiAllCases
namespace Go.Proofs
open Go.Shelf
def Tryz.laysM171_ren:Go.Shelf.Ren:=⟨fun|171=>34|243=>45|246=>60|283=>78|284=>79|285=>80|286=>81|129=>72|317=>94|318=>95|319=>96|320=>97|337=>101|338=>102|n=>n,fun|3=>3|9=>9|2=>2|4=>4|171=>112|0=>0|53=>78|37=>62|5=>5|173=>114|212=>133|51=>75|20=>20|213=>134|46=>68|232=>139|233=>140|n=>n,fun|17=>5|18=>6|19=>7|n=>n⟩
theorem Tryz.laysM171:Go.Proofs.LaysM.n171 Tryz.prog Tryz.laysM171_ren:={
 mixed:=by kernel_rfl
 f129:=Tryz.func72.trans (congrArg some (by kernel_rfl))
 f171:=Tryz.func34.trans (congrArg some (by kernel_rfl))
 f243:=Tryz.func45.trans (congrArg some (by kernel_rfl))
 f246:=Tryz.func60.trans (congrArg some (by kernel_rfl))
 f283:=Tryz.func78.trans (congrArg some (by kernel_rfl))
 f284:=Tryz.func79.trans (congrArg some (by kernel_rfl))
 f285:=Tryz.func80.trans (congrArg some (by kernel_rfl))
 f286:=Tryz.func81.trans (congrArg some (by kernel_rfl))
 f317:=Tryz.func94.trans (congrArg some (by kernel_rfl))
 f318:=Tryz.func95.trans (congrArg some (by kernel_rfl))
 f319:=Tryz.func96.trans (congrArg some (by kernel_rfl))
 f320:=Tryz.func97.trans (congrArg some (by kernel_rfl))
 f337:=Tryz.func101.trans (congrArg some (by kernel_rfl))
 f338:=Tryz.func102.trans (congrArg some (by kernel_rfl))
 t0:=Tryz.underlying0
 a0:=Tryz.isAgg0
 z0:=Tryz.sizeOf0
 v0:=Tryz.zeroValue0
 t2:=Tryz.underlying2
 a2:=Tryz.isAgg2
 z2:=Tryz.sizeOf2
 v2:=Tryz.zeroValue2
 t3:=Tryz.underlying3
 a3:=Tryz.isAgg3
 z3:=Tryz.sizeOf3
 v3:=Tryz.zeroValue3
 t4:=Tryz.underlying4
 a4:=Tryz.isAgg4
 z4:=Tryz.sizeOf4
 v4:=Tryz.zeroValue4
 t5:=Tryz.underlying5
 a5:=Tryz.isAgg5
 z5:=Tryz.sizeOf5
 v5:=Tryz.zeroValue5
 t9:=Tryz.underlying9
 a9:=Tryz.isAgg9
 z9:=Tryz.sizeOf9
 v9:=Tryz.zeroValue9
 t20:=Tryz.underlying20
 a20:=Tryz.isAgg20
 z20:=Tryz.sizeOf20
 v20:=Tryz.zeroValue20
 t37:=Tryz.underlying62
 a37:=Tryz.isAgg62
 z37:=Tryz.sizeOf62
 v37:=Tryz.zeroValue62
 t46:=Tryz.underlying68
 a46:=Tryz.isAgg68
 z46:=Tryz.sizeOf68
 v46:=Tryz.zeroValue68
 t51:=Tryz.underlying75
 a51:=Tryz.isAgg75
 z51:=Tryz.sizeOf75
 v51:=Tryz.zeroValue75
 t53:=Tryz.underlying78
 a53:=Tryz.isAgg78
 z53:=Tryz.sizeOf78
 v53:=Tryz.zeroValue78
 t171:=Tryz.underlying112
 a171:=Tryz.isAgg112
 z171:=Tryz.sizeOf112
 v171:=Tryz.zeroValue112
 t173:=Tryz.underlying114
 a173:=Tryz.isAgg114
 z173:=Tryz.sizeOf114
 v173:=Tryz.zeroValue114
 t212:=Tryz.underlying133
 a212:=Tryz.isAgg133
 z212:=Tryz.sizeOf133
 v212:=Tryz.zeroValue133
 t213:=Tryz.underlying134
 a213:=Tryz.isAgg134
 z213:=Tryz.sizeOf134
 t232:=Tryz.underlying139
 a232:=Tryz.isAgg139
 z232:=Tryz.sizeOf139
 v232:=Tryz.zeroValue139
 t233:=Tryz.underlying140
 a233:=Tryz.isAgg140
 z233:=Tryz.sizeOf140
 v233:=Tryz.zeroValue140
 g17:=by kernel_rfl
 g18:=by kernel_rfl
 g19:=by kernel_rfl
 i0:=by kernel_rfl
 i2:=by kernel_rfl
 i3:=by kernel_rfl
 i4:=by kernel_rfl
 i5:=by kernel_rfl
 i9:=by kernel_rfl
 i20:=by kernel_rfl
 i37:=by kernel_rfl
 i46:=by kernel_rfl
 i51:=by kernel_rfl
 i53:=by kernel_rfl
 i171:=by kernel_rfl
 i173:=by kernel_rfl
 i212:=by kernel_rfl
 i232:=by kernel_rfl
 i233:=by kernel_rfl
 m17:=by kernel_rfl
 m18:=by kernel_rfl
 m19:=by kernel_rfl}
open Go.RowKit Go.Sort Go.Lib in
theorem Tryz.strconv_Itoa (n:Int) (h0: -9223372036854775808≤n) (h1:n≤9223372036854775807) (w:World) (htab:Lib.TabIs Tryz.prog w "internal/strconv.uint64pow10" .u64 Lib.pow10Tab):
  Calls Tryz.prog 34 #[.int .i64 n] w fun e w'=>e= .returned (.string ⟨(Lib.itoa n).toArray⟩)∧∃ k os,w'=grow (w.drewN k) os:=Any.strconv_Itoa Tryz.laysM171 n h0 h1 w htab
def Tryz.laysC172_ren:Go.Shelf.Ren:=⟨fun|172=>33|244=>43|245=>44|247=>55|279=>56|280=>57|281=>58|282=>59|287=>75|316=>76|171=>34|205=>77|321=>92|322=>93|243=>45|246=>60|283=>78|284=>79|285=>80|286=>81|129=>72|317=>94|318=>95|319=>96|320=>97|337=>101|338=>102|n=>n,fun|9=>9|3=>3|75=>57|76=>58|4=>4|5=>5|167=>87|37=>62|0=>0|85=>88|2=>2|168=>90|53=>78|175=>106|46=>68|210=>110|127=>74|145=>131|143=>129|21=>21|171=>112|173=>114|212=>133|51=>75|20=>20|213=>134|232=>139|233=>140|80=>65|n=>n,fun|15=>0|16=>1|17=>5|18=>6|19=>7|n=>n⟩
theorem Tryz.laysC172:Go.Proofs.LaysC.n172 Tryz.prog Tryz.laysC172_ren:={
 mixed:=by kernel_rfl
 f129:=Tryz.func72.trans (congrArg some (by kernel_rfl))
 f171:=Tryz.func34.trans (congrArg some (by kernel_rfl))
 f172:=Tryz.func33.trans (congrArg some (by kernel_rfl))
 f205:=Tryz.func77.trans (congrArg some (by kernel_rfl))
 f243:=Tryz.func45.trans (congrArg some (by kernel_rfl))
 f244:=Tryz.func43.trans (congrArg some (by kernel_rfl))
 f245:=Tryz.func44.trans (congrArg some (by kernel_rfl))
 f246:=Tryz.func60.trans (congrArg some (by kernel_rfl))
 f247:=Tryz.func55.trans (congrArg some (by kernel_rfl))
 f279:=Tryz.func56.trans (congrArg some (by kernel_rfl))
 f280:=Tryz.func57.trans (congrArg some (by kernel_rfl))
 f281:=Tryz.func58.trans (congrArg some (by kernel_rfl))
 f282:=Tryz.func59.trans (congrArg some (by kernel_rfl))
 f283:=Tryz.func78.trans (congrArg some (by kernel_rfl))
 f284:=Tryz.func79.trans (congrArg some (by kernel_rfl))
 f285:=Tryz.func80.trans (congrArg some (by kernel_rfl))
 f286:=Tryz.func81.trans (congrArg some (by kernel_rfl))
 f287:=Tryz.func75.trans (congrArg some (by kernel_rfl))
 f316:=Tryz.func76.trans (congrArg some (by kernel_rfl))
 f317:=Tryz.func94.trans (congrArg some (by kernel_rfl))
 f318:=Tryz.func95.trans (congrArg some (by kernel_rfl))
 f319:=Tryz.func96.trans (congrArg some (by kernel_rfl))
 f320:=Tryz.func97.trans (congrArg some (by kernel_rfl))
 f321:=Tryz.func92.trans (congrArg some (by kernel_rfl))
 f322:=Tryz.func93.trans (congrArg some (by kernel_rfl))
 f337:=Tryz.func101.trans (congrArg some (by kernel_rfl))
 f338:=Tryz.func102.trans (congrArg some (by kernel_rfl))
 t0:=Tryz.underlying0
 a0:=Tryz.isAgg0
 z0:=Tryz.sizeOf0
 v0:=Tryz.zeroValue0
 t2:=Tryz.underlying2
 a2:=Tryz.isAgg2
 z2:=Tryz.sizeOf2
 v2:=Tryz.zeroValue2
 t3:=Tryz.underlying3
 a3:=Tryz.isAgg3
 z3:=Tryz.sizeOf3
 v3:=Tryz.zeroValue3
 t4:=Tryz.underlying4
 a4:=Tryz.isAgg4
 z4:=Tryz.sizeOf4
 v4:=Tryz.zeroValue4
 t5:=Tryz.underlying5
 a5:=Tryz.isAgg5
 z5:=Tryz.sizeOf5
 v5:=Tryz.zeroValue5
 t9:=Tryz.underlying9
 a9:=Tryz.isAgg9
 z9:=Tryz.sizeOf9
 v9:=Tryz.zeroValue9
 t20:=Tryz.underlying20
 a20:=Tryz.isAgg20
 z20:=Tryz.sizeOf20
 v20:=Tryz.zeroValue20
 t21:=Tryz.underlying21
 a21:=Tryz.isAgg21
 z21:=Tryz.sizeOf21
 v21:=Tryz.zeroValue21
 t37:=Tryz.underlying62
 a37:=Tryz.isAgg62
 z37:=Tryz.sizeOf62
 v37:=Tryz.zeroValue62
 t46:=Tryz.underlying68
 a46:=Tryz.isAgg68
 z46:=Tryz.sizeOf68
 v46:=Tryz.zeroValue68
 t51:=Tryz.underlying75
 a51:=Tryz.isAgg75
 z51:=Tryz.sizeOf75
 v51:=Tryz.zeroValue75
 t53:=Tryz.underlying78
 a53:=Tryz.isAgg78
 z53:=Tryz.sizeOf78
 v53:=Tryz.zeroValue78
 t75:=Tryz.underlying57
 a75:=Tryz.isAgg57
 z75:=Tryz.sizeOf57
 v75:=Tryz.zeroValue57
 t76:=Tryz.underlying58
 a76:=Tryz.isAgg58
 z76:=Tryz.sizeOf58
 v76:=Tryz.zeroValue58
 t85:=Tryz.underlying88
 a85:=Tryz.isAgg88
 z85:=Tryz.sizeOf88
 v85:=Tryz.zeroValue88
 t127:=Tryz.underlying74
 a127:=Tryz.isAgg74
 z127:=Tryz.sizeOf74
 v127:=Tryz.zeroValue74
 t143:=Tryz.underlying129
 a143:=Tryz.isAgg129
 z143:=Tryz.sizeOf129
 v143:=Tryz.zeroValue129
 t145:=Tryz.underlying131
 a145:=Tryz.isAgg131
 z145:=Tryz.sizeOf131
 v145:=Tryz.zeroValue131
 t167:=Tryz.underlying87
 a167:=Tryz.isAgg87
 z167:=Tryz.sizeOf87
 v167:=Tryz.zeroValue87
 t168:=Tryz.underlying90
 a168:=Tryz.isAgg90
 z168:=Tryz.sizeOf90
 v168:=Tryz.zeroValue90
 t171:=Tryz.underlying112
 a171:=Tryz.isAgg112
 z171:=Tryz.sizeOf112
 v171:=Tryz.zeroValue112
 t173:=Tryz.underlying114
 a173:=Tryz.isAgg114
 z173:=Tryz.sizeOf114
 v173:=Tryz.zeroValue114
 t175:=Tryz.underlying106
 a175:=Tryz.isAgg106
 z175:=Tryz.sizeOf106
 v175:=Tryz.zeroValue106
 t210:=Tryz.underlying110
 a210:=Tryz.isAgg110
 z210:=Tryz.sizeOf110
 v210:=Tryz.zeroValue110
 t212:=Tryz.underlying133
 a212:=Tryz.isAgg133
 z212:=Tryz.sizeOf133
 v212:=Tryz.zeroValue133
 t213:=Tryz.underlying134
 a213:=Tryz.isAgg134
 z213:=Tryz.sizeOf134
 t232:=Tryz.underlying139
 a232:=Tryz.isAgg139
 z232:=Tryz.sizeOf139
 v232:=Tryz.zeroValue139
 t233:=Tryz.underlying140
 a233:=Tryz.isAgg140
 z233:=Tryz.sizeOf140
 v233:=Tryz.zeroValue140
 g15:=by kernel_rfl
 g16:=by kernel_rfl
 g17:=by kernel_rfl
 g18:=by kernel_rfl
 g19:=by kernel_rfl
 t80:=Tryz.underlying65
 a80:=Tryz.isAgg65
 z80:=Tryz.sizeOf65
 v80:=Tryz.zeroValue65
 i0:=by kernel_rfl
 i2:=by kernel_rfl
 i3:=by kernel_rfl
 i4:=by kernel_rfl
 i5:=by kernel_rfl
 i9:=by kernel_rfl
 i20:=by kernel_rfl
 i21:=by kernel_rfl
 i37:=by kernel_rfl
 i46:=by kernel_rfl
 i51:=by kernel_rfl
 i53:=by kernel_rfl
 i75:=by kernel_rfl
 i76:=by kernel_rfl
 i80:=by kernel_rfl
 i85:=by kernel_rfl
 i127:=by kernel_rfl
 i143:=by kernel_rfl
 i145:=by kernel_rfl
 i167:=by kernel_rfl
 i168:=by kernel_rfl
 i171:=by kernel_rfl
 i173:=by kernel_rfl
 i175:=by kernel_rfl
 i210:=by kernel_rfl
 i212:=by kernel_rfl
 i232:=by kernel_rfl
 i233:=by kernel_rfl
 m15:=by kernel_rfl
 m16:=by kernel_rfl
 m17:=by kernel_rfl
 m18:=by kernel_rfl
 m19:=by kernel_rfl
 c0:=by kernel_rfl
 c2:=by kernel_rfl
 c3:=by kernel_rfl
 c4:=by kernel_rfl
 c5:=by kernel_rfl
 c9:=by kernel_rfl
 c20:=by kernel_rfl
 c21:=by kernel_rfl
 c37:=by kernel_rfl
 c46:=by kernel_rfl
 c51:=by kernel_rfl
 c53:=by kernel_rfl
 c75:=by kernel_rfl
 c76:=by kernel_rfl
 c80:=by kernel_rfl
 c85:=by kernel_rfl
 c127:=by kernel_rfl
 c143:=by kernel_rfl
 c145:=by kernel_rfl
 c167:=by kernel_rfl
 c168:=by kernel_rfl
 c171:=by kernel_rfl
 c173:=by kernel_rfl
 c175:=by kernel_rfl
 c210:=by kernel_rfl
 c212:=by kernel_rfl
 c213:=by kernel_rfl
 c232:=by kernel_rfl
 c233:=by kernel_rfl}
open Go.RowKit in
theorem Tryz.strconv_Atoi_ok (s:ByteArray) (hmax:s.size≤9223372036854775806) (v:Int) (h:Lib.atoiAll s.data.toList= .ok v) (w:World):
  Calls Tryz.prog 33 #[.string s] w fun e w'=>e= .returned (.tuple #[.int .i64 v,.nilIface])∧(w'=w∨∃ t,w'=Lib.bytesWorld w 5 t):=Any.strconv_Atoi_ok Tryz.laysC172 s hmax v h w
open Go.RowKit in
theorem Tryz.strconv_Atoi_syntax_var (s:ByteArray) (hlim:s.size≤281474976710656) (h:Lib.atoiAll s.data.toList=Lib.atoiAll []) (tp:TypeId) (p:Value) (w:World) (hvar:w.var? Tryz.prog "strconv.ErrSyntax"=some #[.iface tp p]):
  Calls Tryz.prog 33 #[.string s] w fun e w'=>∃ N,e= .returned (.tuple #[.int .i64 0,.iface 90 (.pointer (some ⟨N,0,none⟩))])∧w.heap.size≤N∧w'.heap[N]? =some (.cells #[.string ⟨#[65,116,111,105]⟩,.string s,.iface tp p] 110 (0,0))∧Below w.heap.size w w':=Any.strconv_Atoi_syntax_var Tryz.laysC172 s hlim h tp p w hvar
open Go.RowKit in
theorem Tryz.strconv_Atoi_range_var (s:ByteArray) (hlim:s.size≤281474976710656) (h:Lib.atoiAll s.data.toList= .range) (tp:TypeId) (p:Value) (w:World) (hvar:w.var? Tryz.prog "strconv.ErrRange"=some #[.iface tp p]):
  Calls Tryz.prog 33 #[.string s] w fun e w'=>∃ N,e= .returned (.tuple #[.int .i64 (Lib.atoiSat s.data.toList),.iface 90 (.pointer (some ⟨N,0,none⟩))])∧w.heap.size≤N∧w'.heap[N]? =some (.cells #[.string ⟨#[65,116,111,105]⟩,.string s,.iface tp p] 110 (0,0))∧Below w.heap.size w w':=Any.strconv_Atoi_range_var Tryz.laysC172 s hlim h tp p w hvar
def Tryz.lays189_ren:Go.Shelf.Ren:=⟨fun|189=>40|125=>51|257=>50|128=>71|129=>72|294=>62|295=>63|296=>64|297=>65|298=>66|299=>67|216=>68|300=>69|301=>70|328=>82|329=>83|330=>84|331=>85|332=>86|215=>87|343=>98|n=>n,fun|28=>22|3=>3|46=>68|0=>0|51=>75|53=>78|4=>4|183=>98|182=>97|131=>102|5=>5|9=>9|218=>116|222=>120|228=>135|229=>136|n=>n,fun|n=>n⟩
theorem Tryz.lays189:Go.Proofs.Lays.n189 Tryz.prog Tryz.lays189_ren:={
 mixed:=by kernel_rfl
 f125:=Tryz.func51.trans (congrArg some (by kernel_rfl))
 f128:=Tryz.func71.trans (congrArg some (by kernel_rfl))
 f129:=Tryz.func72.trans (congrArg some (by kernel_rfl))
 f189:=Tryz.func40.trans (congrArg some (by kernel_rfl))
 f215:=Tryz.func87.trans (congrArg some (by kernel_rfl))
 f216:=Tryz.func68.trans (congrArg some (by kernel_rfl))
 f257:=Tryz.func50.trans (congrArg some (by kernel_rfl))
 f294:=Tryz.func62.trans (congrArg some (by kernel_rfl))
 f295:=Tryz.func63.trans (congrArg some (by kernel_rfl))
 f296:=Tryz.func64.trans (congrArg some (by kernel_rfl))
 f297:=Tryz.func65.trans (congrArg some (by kernel_rfl))
 f298:=Tryz.func66.trans (congrArg some (by kernel_rfl))
 f299:=Tryz.func67.trans (congrArg some (by kernel_rfl))
 f300:=Tryz.func69.trans (congrArg some (by kernel_rfl))
 f301:=Tryz.func70.trans (congrArg some (by kernel_rfl))
 f328:=Tryz.func82.trans (congrArg some (by kernel_rfl))
 f329:=Tryz.func83.trans (congrArg some (by kernel_rfl))
 f330:=Tryz.func84.trans (congrArg some (by kernel_rfl))
 f331:=Tryz.func85.trans (congrArg some (by kernel_rfl))
 f332:=Tryz.func86.trans (congrArg some (by kernel_rfl))
 f343:=Tryz.func98.trans (congrArg some (by kernel_rfl))
 t0:=Tryz.underlying0
 a0:=Tryz.isAgg0
 z0:=Tryz.sizeOf0
 v0:=Tryz.zeroValue0
 t3:=Tryz.underlying3
 a3:=Tryz.isAgg3
 z3:=Tryz.sizeOf3
 v3:=Tryz.zeroValue3
 t4:=Tryz.underlying4
 a4:=Tryz.isAgg4
 z4:=Tryz.sizeOf4
 v4:=Tryz.zeroValue4
 t5:=Tryz.underlying5
 a5:=Tryz.isAgg5
 z5:=Tryz.sizeOf5
 v5:=Tryz.zeroValue5
 t9:=Tryz.underlying9
 a9:=Tryz.isAgg9
 z9:=Tryz.sizeOf9
 v9:=Tryz.zeroValue9
 t28:=Tryz.underlying22
 a28:=Tryz.isAgg22
 z28:=Tryz.sizeOf22
 v28:=Tryz.zeroValue22
 t46:=Tryz.underlying68
 a46:=Tryz.isAgg68
 z46:=Tryz.sizeOf68
 v46:=Tryz.zeroValue68
 t51:=Tryz.underlying75
 a51:=Tryz.isAgg75
 z51:=Tryz.sizeOf75
 v51:=Tryz.zeroValue75
 t53:=Tryz.underlying78
 a53:=Tryz.isAgg78
 z53:=Tryz.sizeOf78
 v53:=Tryz.zeroValue78
 t131:=Tryz.underlying102
 a131:=Tryz.isAgg102
 z131:=Tryz.sizeOf102
 v131:=Tryz.zeroValue102
 t182:=Tryz.underlying97
 a182:=Tryz.isAgg97
 z182:=Tryz.sizeOf97
 v182:=Tryz.zeroValue97
 t183:=Tryz.underlying98
 a183:=Tryz.isAgg98
 z183:=Tryz.sizeOf98
 v183:=Tryz.zeroValue98
 t218:=Tryz.underlying116
 a218:=Tryz.isAgg116
 z218:=Tryz.sizeOf116
 v218:=Tryz.zeroValue116
 t222:=Tryz.underlying120
 a222:=Tryz.isAgg120
 z222:=Tryz.sizeOf120
 v222:=Tryz.zeroValue120
 t228:=Tryz.underlying135
 a228:=Tryz.isAgg135
 z228:=Tryz.sizeOf135
 v228:=Tryz.zeroValue135
 t229:=Tryz.underlying136
 a229:=Tryz.isAgg136
 z229:=Tryz.sizeOf136
 v229:=Tryz.zeroValue136}
open Go.Sort Go.RowKit in
theorem Tryz.slices_Sort_int (blk off cap:Nat) (zs:List Int) (w:World) (hH:Holds (Value.int .i64) w blk off zs.toArray) (hblk:blk<w.heap.size) (hsz:zs.length<4611686018427387904):
  Calls Tryz.prog 40 #[.slice (some ⟨blk,off,none⟩) zs.length cap] w fun e w'=>
   e= .returned (.tuple #[])∧∃ n os,w'=grow (putRow (Value.int .i64) (Sort.ahead w n) blk off (zs.mergeSort fun x y=>decide (x≤y)).toArray) os:=Any.slices_Sort_int Tryz.lays189 blk off cap zs w hH hblk hsz
def Tryz.laysNm220_ren:Go.Shelf.Ren:=⟨fun|20=>29|n=>n,fun|22=>22|3=>3|4=>4|0=>0|n=>n,fun|n=>n⟩
theorem Tryz.laysNm220:Go.Proofs.Lays2.n20 Tryz.prog Tryz.laysNm220_ren:={
 mixed:=by kernel_rfl
 f20:=Tryz.func29.trans (congrArg some (by kernel_rfl))
 t0:=Tryz.underlying0
 a0:=Tryz.isAgg0
 z0:=Tryz.sizeOf0
 v0:=Tryz.zeroValue0
 t3:=Tryz.underlying3
 a3:=Tryz.isAgg3
 z3:=Tryz.sizeOf3
 v3:=Tryz.zeroValue3
 t4:=Tryz.underlying4
 a4:=Tryz.isAgg4
 z4:=Tryz.sizeOf4
 v4:=Tryz.zeroValue4
 t22:=Tryz.underlying22
 a22:=Tryz.isAgg22
 z22:=Tryz.sizeOf22
 v22:=Tryz.zeroValue22
 i3:=by kernel_rfl}
open Go.RowKit Go.Lib Go.Sort in
theorem Tryz.slices_Compact_int (blk off cap:Nat) (zs:List Int) (w:World) (hH:Holds (Value.int .i64) w blk off zs.toArray) (hsz:zs.length≤9223372036854775807) (hcap:zs.length≤cap):
  Calls Tryz.prog 29 #[.slice (some ⟨blk,off,none⟩) zs.length cap] w fun e w'=>e= .returned (.slice (some ⟨blk,off,none⟩) (Lib.compact zs).length cap)∧∃ q,w'=putRow (Value.int .i64) (Sort.ahead w q) blk off (Lib.compact zs++List.replicate (zs.length - (Lib.compact zs).length) 0).toArray:=Any.slices_Compact_int Tryz.laysNm220 blk off cap zs w hH hsz hcap
open Go.RowKit Go.Lib Go.Sort in
theorem Tryz.slices_Compact_int_empty (a:Option Addr) (cap:Nat) (w:World):
  Calls Tryz.prog 29 #[.slice a 0 cap] w fun e w'=>e= .returned (.slice a 0 cap)∧w'=w:=Any.slices_Compact_int_empty Tryz.laysNm220 a cap w
open Go.RowKit Go.Sort in
theorem Tryz.slices_Sort_int_none (p:Option Addr) (cap:Nat) (w:World):
  Calls Tryz.prog 40 #[.slice p 0 cap] w fun e w'=>e= .returned (.tuple #[])∧w'=w:=Any.slices_Sort_int_none Tryz.lays189 p cap w
end Go.Proofs
namespace Go.Proofs.YtkjkiodoighgnaaGreatDoor
open Go Go.Itp
theorem cpt_eq (zs:List Int):Lib.compact zs=cpt zs:=by
 unfold Lib.compact Lib.compactUpTo cpt
 have e:∀ j:Nat,zs.toArray[j]! =zs[j]! :=fun j=>by simp
 have e1:(Lib.keeps zs.toArray)=fun j=>decide (j=0∨zs[j]! ≠ zs[j - 1]!):=by
  funext j
  unfold Lib.keeps
  rw[e,e]
 rw[e1]
 refine List.map_congr_left fun j _=>e j
theorem sort_fact:LibFact Tryz.prog 40 0 where
 none:=fun p cap w=>Tryz.slices_Sort_int_none p cap w
 some:=fun blk off cap zs w hH hb hl hc=>Tryz.slices_Sort_int blk off cap zs w hH hb hl
theorem compact_fact:LibFact Tryz.prog 29 1 where
 none:=fun p cap w=>(Tryz.slices_Compact_int_empty p cap w)
 some:=fun blk off cap zs w hH hb hl hc=>(Tryz.slices_Compact_int blk off cap zs w hH (by omega) hc).mono fun e w' ⟨he,q,hw⟩=>⟨by rw[he,cpt_eq];rfl,q,#[],by
  rw[hw,cpt_eq]
  simp only[libL,Go.Sort.grow,Array.append_empty]⟩
end Go.Proofs.YtkjkiodoighgnaaGreatDoor
namespace Go.Proofs.YtkjkiodoighgnaaGreatDoor
open Go Go.Itp
set_option maxRecDepth 100000
/- raddle/raddlelaw02.ThreadNames -/
def c4:AFun:=⟨
 .seq (.ops [⟨(some 0),none,.mov (.const (.bool false))⟩] [])
 (.seq (.ops [⟨(some 43),none,.callF 12 [(.const (.int .i64 3)),(.const (.int .i64 5))]⟩,
   ⟨(some 42),none,.mov (.tmp 43)⟩,
   ⟨(some 44),none,.ext (.tmp 42) 0⟩,
   ⟨(some 45),none,.ext (.tmp 42) 1⟩,
   ⟨(some 1),none,.mov (.tmp 44)⟩,
   ⟨(some 2),none,.mov (.tmp 45)⟩] [1,2])
 (.seq (.ops [⟨(some 47),none,.callF 13 [(.const (.int .i64 1)),(.const (.int .i64 3))]⟩,
   ⟨(some 46),none,.mov (.tmp 47)⟩,
   ⟨(some 48),none,.ext (.tmp 46) 0⟩,
   ⟨(some 49),none,.ext (.tmp 46) 1⟩,
   ⟨(some 3),none,.mov (.tmp 48)⟩,
   ⟨(some 4),none,.mov (.tmp 49)⟩] [1,2,3,4])
 (.seq (.ops [⟨(some 51),none,.callF 13 [(.const (.int .i64 2)),(.const (.int .i64 5))]⟩,
   ⟨(some 50),none,.mov (.tmp 51)⟩,
   ⟨(some 52),none,.ext (.tmp 50) 0⟩,
   ⟨(some 53),none,.ext (.tmp 50) 1⟩,
   ⟨(some 5),none,.mov (.tmp 52)⟩,
   ⟨(some 6),none,.mov (.tmp 53)⟩] [1,2,3,4,5,6])
 (.seq (.ops [⟨(some 55),none,.mkRow 3 1 1 [(.int .i64 0)] [(0,1,(.const (.int .i64 1)))]⟩,
   ⟨(some 56),none,.mkRow 3 1 2 [(.int .i64 0)] [(0,1,(.const (.int .i64 2))),(1,1,(.const (.int .i64 3)))]⟩,
   ⟨(some 57),none,.callF 7 [(.tmp 55),(.tmp 56)]⟩,
   ⟨(some 54),none,.mov (.tmp 57)⟩,
   ⟨(some 58),none,.ext (.tmp 54) 0⟩,
   ⟨(some 59),none,.ext (.tmp 54) 1⟩,
   ⟨(some 7),none,.mov (.tmp 58)⟩,
   ⟨(some 8),none,.mov (.tmp 59)⟩] [1,2,3,4,5,6,7,8])
 (.seq (.ops [⟨(some 61),none,.mkRow 3 1 2 [(.int .i64 0)] [(0,1,(.const (.int .i64 1))),(1,1,(.const (.int .i64 2)))]⟩,
   ⟨(some 62),none,.callF 10 [(.tmp 61),(.const (.int .i64 3))]⟩,
   ⟨(some 60),none,.mov (.tmp 62)⟩,
   ⟨(some 63),none,.ext (.tmp 60) 0⟩,
   ⟨(some 64),none,.ext (.tmp 60) 1⟩,
   ⟨(some 9),none,.mov (.tmp 63)⟩,
   ⟨(some 10),none,.mov (.tmp 64)⟩] [1,2,3,4,5,6,7,8,9,10])
 (.seq (.ops [⟨(some 66),none,.mkRow 3 1 3 [(.int .i64 0)] [(0,1,(.const (.int .i64 1))),(1,1,(.const (.int .i64 2))),(2,1,(.const (.int .i64 3)))]⟩,
   ⟨(some 67),none,.callF 8 [(.tmp 66)]⟩,
   ⟨(some 65),none,.mov (.tmp 67)⟩,
   ⟨(some 68),none,.ext (.tmp 65) 0⟩,
   ⟨(some 69),none,.ext (.tmp 65) 1⟩,
   ⟨(some 11),none,.mov (.tmp 68)⟩,
   ⟨(some 12),none,.mov (.tmp 69)⟩] [1,2,3,4,5,6,7,8,9,10,11,12])
 (.seq (.ops [⟨(some 71),none,.callF 14 [(.const (.slice none 0 0)),(.const (.slice none 0 0))]⟩,
   ⟨(some 70),none,.mov (.tmp 71)⟩,
   ⟨(some 72),none,.ext (.tmp 70) 0⟩,
   ⟨(some 73),none,.ext (.tmp 70) 1⟩,
   ⟨(some 13),none,.mov (.tmp 72)⟩,
   ⟨(some 14),none,.mov (.tmp 73)⟩] [1,2,3,4,5,6,7,8,9,10,11,12,13,14])
 (.seq (.ops [⟨(some 75),none,.callF 15 [(.const (.string ⟨#[52,48,48,32,49]⟩))]⟩,
   ⟨(some 74),none,.mov (.tmp 75)⟩,
   ⟨(some 76),none,.ext (.tmp 74) 0⟩,
   ⟨(some 77),none,.ext (.tmp 74) 1⟩,
   ⟨(some 15),none,.mov (.tmp 76)⟩,
   ⟨(some 16),none,.mov (.tmp 77)⟩] [1,2,3,4,5,6,7,8,9,10,11,12,13,14,15,16])
 (.seq (.ops [⟨(some 79),none,.mkRow 3 1 3 [(.int .i64 0)] [(0,1,(.const (.int .i64 5))),(1,1,(.const (.int .i64 5))),(2,1,(.const (.int .i64 0)))]⟩,
   ⟨(some 80),none,.callF 11 [(.tmp 79)]⟩,
   ⟨(some 78),none,.mov (.tmp 80)⟩,
   ⟨(some 81),none,.ext (.tmp 78) 0⟩,
   ⟨(some 82),none,.ext (.tmp 78) 1⟩,
   ⟨(some 17),none,.mov (.tmp 81)⟩,
   ⟨(some 18),none,.mov (.tmp 82)⟩] [1,2,3,4,5,6,7,8,9,10,11,12,13,14,15,16,17,18])
 (.seq (.ops [⟨(some 84),none,.callF 10 [(.const (.slice none 0 0)),(.const (.int .i64 9223372036854775807))]⟩,
   ⟨(some 83),none,.mov (.tmp 84)⟩,
   ⟨(some 85),none,.ext (.tmp 83) 0⟩,
   ⟨(some 86),none,.ext (.tmp 83) 1⟩,
   ⟨(some 19),none,.mov (.tmp 85)⟩,
   ⟨(some 20),none,.mov (.tmp 86)⟩] [1,2,3,4,5,6,7,8,9,10,11,12,13,14,15,16,17,18,19,20])
 (.seq (.ops [⟨(some 87),none,.mov (.tmp 1)⟩,
   ⟨(some 88),none,.mov (.tmp 2)⟩,
   ⟨(some 89),none,.mkRow 3 1 5 [(.int .i64 0)] [(0,1,(.const (.int .i64 0))),(1,1,(.const (.int .i64 1))),(2,1,(.const (.int .i64 2))),(3,1,(.const (.int .i64 0))),(4,1,(.const (.int .i64 1)))]⟩,
   ⟨(some 90),none,.callF 16 [(.tmp 87),(.tmp 88),(.tmp 89)]⟩,
   ⟨(some 91),none,.mov (.tmp 90)⟩,
   ⟨(some 92),(some (91,true)),.mov (.tmp 3)⟩,
   ⟨(some 93),(some (91,true)),.mov (.tmp 4)⟩,
   ⟨(some 94),(some (91,true)),.mkRow 3 1 3 [(.int .i64 0)] [(0,1,(.const (.int .i64 0))),(1,1,(.const (.int .i64 0))),(2,1,(.const (.int .i64 0)))]⟩,
   ⟨(some 95),(some (91,true)),.callF 16 [(.tmp 92),(.tmp 93),(.tmp 94)]⟩,
   ⟨(some 96),none,.pick (.tmp 91) (.tmp 95) (.const (.bool false))⟩,
   ⟨(some 97),none,.mov (.tmp 96)⟩,
   ⟨(some 98),(some (97,true)),.mov (.tmp 5)⟩,
   ⟨(some 99),(some (97,true)),.mov (.tmp 6)⟩,
   ⟨(some 100),(some (97,true)),.mkRow 3 1 5 [(.int .i64 0)] [(0,1,(.const (.int .i64 0))),(1,1,(.const (.int .i64 1))),(2,1,(.const (.int .i64 0))),(3,1,(.const (.int .i64 1))),(4,1,(.const (.int .i64 0)))]⟩,
   ⟨(some 101),(some (97,true)),.callF 16 [(.tmp 98),(.tmp 99),(.tmp 100)]⟩,
   ⟨(some 102),none,.pick (.tmp 97) (.tmp 101) (.const (.bool false))⟩,
   ⟨(some 103),none,.mov (.tmp 102)⟩,
   ⟨(some 104),(some (103,true)),.mov (.tmp 7)⟩,
   ⟨(some 105),(some (103,true)),.mov (.tmp 8)⟩,
   ⟨(some 106),(some (103,true)),.mkRow 3 1 3 [(.int .i64 0)] [(0,1,(.const (.int .i64 1))),(1,1,(.const (.int .i64 2))),(2,1,(.const (.int .i64 3)))]⟩,
   ⟨(some 107),(some (103,true)),.callF 16 [(.tmp 104),(.tmp 105),(.tmp 106)]⟩,
   ⟨(some 108),none,.pick (.tmp 103) (.tmp 107) (.const (.bool false))⟩,
   ⟨(some 109),none,.mov (.tmp 108)⟩,
   ⟨(some 110),(some (109,true)),.mov (.tmp 9)⟩,
   ⟨(some 111),(some (109,true)),.mov (.tmp 10)⟩,
   ⟨(some 112),(some (109,true)),.mkRow 3 1 6 [(.int .i64 0)] [(0,1,(.const (.int .i64 1))),(1,1,(.const (.int .i64 2))),(2,1,(.const (.int .i64 1))),(3,1,(.const (.int .i64 2))),(4,1,(.const (.int .i64 1))),(5,1,(.const (.int .i64 2)))]⟩,
   ⟨(some 113),(some (109,true)),.callF 16 [(.tmp 110),(.tmp 111),(.tmp 112)]⟩,
   ⟨(some 114),none,.pick (.tmp 109) (.tmp 113) (.const (.bool false))⟩,
   ⟨(some 115),none,.mov (.tmp 114)⟩,
   ⟨(some 116),(some (115,true)),.mov (.tmp 11)⟩,
   ⟨(some 117),(some (115,true)),.mov (.tmp 12)⟩,
   ⟨(some 118),(some (115,true)),.mkRow 3 1 3 [(.int .i64 0)] [(0,1,(.const (.int .i64 3))),(1,1,(.const (.int .i64 2))),(2,1,(.const (.int .i64 1)))]⟩,
   ⟨(some 119),(some (115,true)),.callF 16 [(.tmp 116),(.tmp 117),(.tmp 118)]⟩,
   ⟨(some 120),none,.pick (.tmp 115) (.tmp 119) (.const (.bool false))⟩,
   ⟨(some 121),none,.mov (.tmp 120)⟩,
   ⟨(some 122),(some (121,true)),.mov (.tmp 13)⟩,
   ⟨(some 123),(some (121,true)),.mov (.tmp 14)⟩,
   ⟨(some 124),(some (121,true)),.callF 16 [(.tmp 122),(.tmp 123),(.const (.slice none 0 0))]⟩,
   ⟨(some 125),none,.pick (.tmp 121) (.tmp 124) (.const (.bool false))⟩,
   ⟨(some 126),none,.mov (.tmp 125)⟩,
   ⟨(some 127),(some (126,true)),.mov (.tmp 15)⟩,
   ⟨(some 128),(some (126,true)),.mov (.tmp 16)⟩,
   ⟨(some 129),(some (126,true)),.mkRow 3 1 2 [(.int .i64 0)] [(0,1,(.const (.int .i64 399))),(1,1,(.const (.int .i64 0)))]⟩,
   ⟨(some 130),(some (126,true)),.callF 16 [(.tmp 127),(.tmp 128),(.tmp 129)]⟩,
   ⟨(some 131),none,.pick (.tmp 126) (.tmp 130) (.const (.bool false))⟩,
   ⟨(some 132),none,.mov (.tmp 131)⟩,
   ⟨(some 133),(some (132,true)),.mov (.tmp 17)⟩,
   ⟨(some 134),(some (132,true)),.bin .eql (.tmp 133) (.const (.int .i64 2))⟩,
   ⟨(some 135),none,.pick (.tmp 132) (.tmp 134) (.const (.bool false))⟩,
   ⟨(some 136),none,.mov (.tmp 135)⟩,
   ⟨(some 137),(some (136,true)),.mov (.tmp 18)⟩,
   ⟨(some 138),(some (136,true)),.bin .eql (.tmp 137) (.const (.int .i64 0))⟩,
   ⟨(some 139),none,.pick (.tmp 136) (.tmp 138) (.const (.bool false))⟩,
   ⟨(some 140),none,.mov (.tmp 139)⟩,
   ⟨(some 141),(some (140,true)),.mov (.tmp 19)⟩,
   ⟨(some 142),(some (140,true)),.mov (.tmp 20)⟩,
   ⟨(some 143),(some (140,true)),.callF 16 [(.tmp 141),(.tmp 142),(.const (.slice none 0 0))]⟩,
   ⟨(some 144),none,.pick (.tmp 140) (.tmp 143) (.const (.bool false))⟩,
   ⟨(some 21),none,.mov (.tmp 144)⟩] [21])
 (.seq (.ops [⟨(some 146),none,.callF 12 [(.const (.int .i64 0)),(.const (.int .i64 1))]⟩,
   ⟨(some 145),none,.mov (.tmp 146)⟩,
   ⟨(some 147),none,.ext (.tmp 145) 0⟩,
   ⟨(some 148),none,.ext (.tmp 145) 1⟩,
   ⟨(some 22),none,.mov (.tmp 147)⟩,
   ⟨(some 23),none,.mov (.tmp 148)⟩] [21,23])
 (.seq (.ops [⟨(some 150),none,.callF 13 [(.const (.int .i64 401)),(.const (.int .i64 1))]⟩,
   ⟨(some 149),none,.mov (.tmp 150)⟩,
   ⟨(some 151),none,.ext (.tmp 149) 0⟩,
   ⟨(some 152),none,.ext (.tmp 149) 1⟩,
   ⟨(some 24),none,.mov (.tmp 151)⟩,
   ⟨(some 25),none,.mov (.tmp 152)⟩] [21,23,25])
 (.seq (.ops [⟨(some 154),none,.callF 12 [(.const (.int .i64 1)),(.const (.int .i64 401))]⟩,
   ⟨(some 153),none,.mov (.tmp 154)⟩,
   ⟨(some 155),none,.ext (.tmp 153) 0⟩,
   ⟨(some 156),none,.ext (.tmp 153) 1⟩,
   ⟨(some 26),none,.mov (.tmp 155)⟩,
   ⟨(some 27),none,.mov (.tmp 156)⟩] [21,23,25,27])
 (.seq (.ops [⟨(some 158),none,.mkSlice 3 1 8 [(.int .i64 0)] (.const (.int .i64 400)) (.const (.int .i64 400))⟩,
   ⟨(some 159),none,.mkRow 3 1 1 [(.int .i64 0)] [(0,1,(.const (.int .i64 1)))]⟩,
   ⟨(some 160),none,.callF 7 [(.tmp 158),(.tmp 159)]⟩,
   ⟨(some 157),none,.mov (.tmp 160)⟩,
   ⟨(some 161),none,.ext (.tmp 157) 0⟩,
   ⟨(some 162),none,.ext (.tmp 157) 1⟩,
   ⟨(some 28),none,.mov (.tmp 161)⟩,
   ⟨(some 29),none,.mov (.tmp 162)⟩] [21,23,25,27,29])
 (.seq (.ops [⟨(some 164),none,.mkRow 3 1 2 [(.int .i64 0)] [(0,1,(.const (.int .i64 1))),(1,1,(.const (.int .i64 2)))]⟩,
   ⟨(some 165),none,.callF 10 [(.tmp 164),(.const (.int .i64 201))]⟩,
   ⟨(some 163),none,.mov (.tmp 165)⟩,
   ⟨(some 166),none,.ext (.tmp 163) 0⟩,
   ⟨(some 167),none,.ext (.tmp 163) 1⟩,
   ⟨(some 30),none,.mov (.tmp 166)⟩,
   ⟨(some 31),none,.mov (.tmp 167)⟩] [21,23,25,27,29,31])
 (.seq (.ops [⟨(some 169),none,.mkRow 3 1 1 [(.int .i64 0)] [(0,1,(.const (.int .i64 1)))]⟩,
   ⟨(some 170),none,.callF 10 [(.tmp 169),(.const (.int .i64 (-1)))]⟩,
   ⟨(some 168),none,.mov (.tmp 170)⟩,
   ⟨(some 171),none,.ext (.tmp 168) 0⟩,
   ⟨(some 172),none,.ext (.tmp 168) 1⟩,
   ⟨(some 32),none,.mov (.tmp 171)⟩,
   ⟨(some 33),none,.mov (.tmp 172)⟩] [21,23,25,27,29,31,33])
 (.seq (.ops [⟨(some 174),none,.mkRow 3 1 1 [(.int .i64 0)] [(0,1,(.const (.int .i64 1)))]⟩,
   ⟨(some 175),none,.mkRow 3 1 2 [(.int .i64 0)] [(0,1,(.const (.int .i64 1))),(1,1,(.const (.int .i64 2)))]⟩,
   ⟨(some 176),none,.callF 14 [(.tmp 174),(.tmp 175)]⟩,
   ⟨(some 173),none,.mov (.tmp 176)⟩,
   ⟨(some 177),none,.ext (.tmp 173) 0⟩,
   ⟨(some 178),none,.ext (.tmp 173) 1⟩,
   ⟨(some 34),none,.mov (.tmp 177)⟩,
   ⟨(some 35),none,.mov (.tmp 178)⟩] [21,23,25,27,29,31,33,35])
 (.seq (.ops [⟨(some 180),none,.mkRow 3 1 2 [(.int .i64 0)] [(0,1,(.const (.int .i64 1))),(1,1,(.const (.int .i64 1)))]⟩,
   ⟨(some 181),none,.mkRow 3 1 2 [(.int .i64 0)] [(0,1,(.const (.int .i64 1))),(1,1,(.const (.int .i64 2)))]⟩,
   ⟨(some 182),none,.callF 14 [(.tmp 180),(.tmp 181)]⟩,
   ⟨(some 179),none,.mov (.tmp 182)⟩,
   ⟨(some 183),none,.ext (.tmp 179) 0⟩,
   ⟨(some 184),none,.ext (.tmp 179) 1⟩,
   ⟨(some 36),none,.mov (.tmp 183)⟩,
   ⟨(some 37),none,.mov (.tmp 184)⟩] [21,23,25,27,29,31,33,35,37])
 (.seq (.ops [⟨(some 186),none,.mkRow 3 1 2 [(.int .i64 0)] [(0,1,(.const (.int .i64 1))),(1,1,(.const (.int .i64 2)))]⟩,
   ⟨(some 187),none,.mkRow 3 1 2 [(.int .i64 0)] [(0,1,(.const (.int .i64 1))),(1,1,(.const (.int .i64 1)))]⟩,
   ⟨(some 188),none,.callF 14 [(.tmp 186),(.tmp 187)]⟩,
   ⟨(some 185),none,.mov (.tmp 188)⟩,
   ⟨(some 189),none,.ext (.tmp 185) 0⟩,
   ⟨(some 190),none,.ext (.tmp 185) 1⟩,
   ⟨(some 38),none,.mov (.tmp 189)⟩,
   ⟨(some 39),none,.mov (.tmp 190)⟩] [21,23,25,27,29,31,33,35,37,39])
 (.seq (.ops [⟨(some 191),none,.mov (.tmp 23)⟩,
   ⟨(some 192),none,.bin .eql (.tmp 191) (.const (.int .i64 2))⟩,
   ⟨(some 193),none,.mov (.tmp 192)⟩,
   ⟨(some 194),(some (193,true)),.mov (.tmp 25)⟩,
   ⟨(some 195),(some (193,true)),.bin .eql (.tmp 194) (.const (.int .i64 2))⟩,
   ⟨(some 196),none,.pick (.tmp 193) (.tmp 195) (.const (.bool false))⟩,
   ⟨(some 197),none,.mov (.tmp 196)⟩,
   ⟨(some 198),(some (197,true)),.mov (.tmp 27)⟩,
   ⟨(some 199),(some (197,true)),.bin .eql (.tmp 198) (.const (.int .i64 2))⟩,
   ⟨(some 200),none,.pick (.tmp 197) (.tmp 199) (.const (.bool false))⟩,
   ⟨(some 201),none,.mov (.tmp 200)⟩,
   ⟨(some 202),(some (201,true)),.mov (.tmp 29)⟩,
   ⟨(some 203),(some (201,true)),.bin .eql (.tmp 202) (.const (.int .i64 4))⟩,
   ⟨(some 204),none,.pick (.tmp 201) (.tmp 203) (.const (.bool false))⟩,
   ⟨(some 205),none,.mov (.tmp 204)⟩,
   ⟨(some 206),(some (205,true)),.mov (.tmp 31)⟩,
   ⟨(some 207),(some (205,true)),.bin .eql (.tmp 206) (.const (.int .i64 4))⟩,
   ⟨(some 208),none,.pick (.tmp 205) (.tmp 207) (.const (.bool false))⟩,
   ⟨(some 209),none,.mov (.tmp 208)⟩,
   ⟨(some 210),(some (209,true)),.mov (.tmp 33)⟩,
   ⟨(some 211),(some (209,true)),.bin .eql (.tmp 210) (.const (.int .i64 2))⟩,
   ⟨(some 212),none,.pick (.tmp 209) (.tmp 211) (.const (.bool false))⟩,
   ⟨(some 213),none,.mov (.tmp 212)⟩,
   ⟨(some 214),(some (213,true)),.mov (.tmp 35)⟩,
   ⟨(some 215),(some (213,true)),.bin .eql (.tmp 214) (.const (.int .i64 2))⟩,
   ⟨(some 216),none,.pick (.tmp 213) (.tmp 215) (.const (.bool false))⟩,
   ⟨(some 217),none,.mov (.tmp 216)⟩,
   ⟨(some 218),(some (217,true)),.mov (.tmp 37)⟩,
   ⟨(some 219),(some (217,true)),.bin .eql (.tmp 218) (.const (.int .i64 6))⟩,
   ⟨(some 220),none,.pick (.tmp 217) (.tmp 219) (.const (.bool false))⟩,
   ⟨(some 221),none,.mov (.tmp 220)⟩,
   ⟨(some 222),(some (221,true)),.mov (.tmp 39)⟩,
   ⟨(some 223),(some (221,true)),.bin .eql (.tmp 222) (.const (.int .i64 6))⟩,
   ⟨(some 224),none,.pick (.tmp 221) (.tmp 223) (.const (.bool false))⟩,
   ⟨(some 40),none,.mov (.tmp 224)⟩] [21,40])
 (.seq (.ops [⟨(some 225),none,.mkSlice 3 1 8 [(.int .i64 0)] (.const (.int .i64 401)) (.const (.int .i64 401))⟩,
   ⟨(some 226),none,.callF 17 [(.tmp 225)]⟩,
   ⟨(some 227),none,.bin .eql (.tmp 226) (.const (.int .i64 4))⟩,
   ⟨(some 228),none,.mov (.tmp 227)⟩,
   ⟨(some 229),(some (228,true)),.mkRow 3 1 1 [(.int .i64 0)] [(0,1,(.const (.int .i64 400)))]⟩,
   ⟨(some 230),(some (228,true)),.callF 17 [(.tmp 229)]⟩,
   ⟨(some 231),(some (228,true)),.bin .eql (.tmp 230) (.const (.int .i64 8))⟩,
   ⟨(some 232),none,.pick (.tmp 228) (.tmp 231) (.const (.bool false))⟩,
   ⟨(some 233),none,.mov (.tmp 232)⟩,
   ⟨(some 234),(some (233,true)),.mkRow 3 1 1 [(.int .i64 0)] [(0,1,(.const (.int .i64 (-1))))]⟩,
   ⟨(some 235),(some (233,true)),.callF 17 [(.tmp 234)]⟩,
   ⟨(some 236),(some (233,true)),.bin .eql (.tmp 235) (.const (.int .i64 8))⟩,
   ⟨(some 237),none,.pick (.tmp 233) (.tmp 236) (.const (.bool false))⟩,
   ⟨(some 238),none,.mov (.tmp 237)⟩,
   ⟨(some 239),(some (238,true)),.callF 17 [(.const (.slice none 0 0))]⟩,
   ⟨(some 240),(some (238,true)),.bin .eql (.tmp 239) (.const (.int .i64 0))⟩,
   ⟨(some 241),none,.pick (.tmp 238) (.tmp 240) (.const (.bool false))⟩,
   ⟨(some 41),none,.mov (.tmp 241)⟩] [21,40,41])
 (.seq (.ops [⟨(some 242),none,.mov (.const (.bool true))⟩,
   ⟨(some 243),(some (242,true)),.mov (.tmp 21)⟩,
   ⟨(some 244),none,.pick (.tmp 242) (.tmp 243) (.const (.bool false))⟩,
   ⟨(some 245),none,.mov (.tmp 244)⟩,
   ⟨(some 246),(some (245,true)),.mov (.tmp 40)⟩,
   ⟨(some 247),none,.pick (.tmp 245) (.tmp 246) (.const (.bool false))⟩,
   ⟨(some 248),none,.mov (.tmp 247)⟩,
   ⟨(some 249),(some (248,true)),.mov (.tmp 41)⟩,
   ⟨(some 250),none,.pick (.tmp 248) (.tmp 249) (.const (.bool false))⟩,
   ⟨(some 251),none,.mov (.tmp 250)⟩,
   ⟨(some 252),(some (251,true)),.callF 18 [(.const (.string ⟨#[32]⟩))]⟩,
   ⟨(some 253),none,.pick (.tmp 251) (.tmp 252) (.const (.bool false))⟩,
   ⟨(some 254),none,.mov (.tmp 253)⟩,
   ⟨(some 255),(some (254,true)),.callF 18 [(.const (.string ⟨#[49,32]⟩))]⟩,
   ⟨(some 256),none,.pick (.tmp 254) (.tmp 255) (.const (.bool false))⟩,
   ⟨(some 257),none,.mov (.tmp 256)⟩,
   ⟨(some 258),(some (257,true)),.callF 18 [(.const (.string ⟨#[43,49]⟩))]⟩,
   ⟨(some 259),none,.pick (.tmp 257) (.tmp 258) (.const (.bool false))⟩,
   ⟨(some 260),none,.mov (.tmp 259)⟩,
   ⟨(some 261),(some (260,true)),.callF 18 [(.const (.string ⟨#[45,49]⟩))]⟩,
   ⟨(some 262),none,.pick (.tmp 260) (.tmp 261) (.const (.bool false))⟩,
   ⟨(some 263),none,.mov (.tmp 262)⟩,
   ⟨(some 264),(some (263,true)),.callF 18 [(.const (.string ⟨#[49,44,50]⟩))]⟩,
   ⟨(some 265),none,.pick (.tmp 263) (.tmp 264) (.const (.bool false))⟩,
   ⟨(some 266),none,.mov (.tmp 265)⟩,
   ⟨(some 267),(some (266,true)),.callF 18 [(.const (.string ⟨#[57,57,57,57,57,57,57,57,57,57,57,57,57,57,57,57,57,57,57,57]⟩))]⟩,
   ⟨(some 268),none,.pick (.tmp 266) (.tmp 267) (.const (.bool false))⟩,
   ⟨(some 269),none,.mov (.tmp 268)⟩,
   ⟨(some 270),(some (269,true)),.callF 6 []⟩,
   ⟨(some 271),none,.pick (.tmp 269) (.tmp 270) (.const (.bool false))⟩,
   ⟨(some 0),none,.mov (.tmp 271)⟩] [0])
 (.ret)))))))))))))))))))))))),
 272,[(0,none)],true⟩
theorem ok4:FunOK Tryz.prog 4 c4:= .code ⟨Tryz.f4,_,c4.code,Tryz.func4,rfl,by kernel_rfl,rfl,by kernel_rfl,by kernel_rfl⟩
/- raddle/raddlelaw02.alive -/
def c6:AFun:=⟨
 .seq (.ops [⟨(some 0),none,.mov (.const (.bool false))⟩] [])
 (.seq (.ops [⟨(some 10),none,.mkRow 3 1 3 [(.int .i64 0)] [(0,1,(.const (.int .i64 0))),(1,1,(.const (.int .i64 1))),(2,1,(.const (.int .i64 9)))]⟩,
   ⟨(some 11),none,.callF 20 [(.tmp 10)]⟩,
   ⟨(some 9),none,.mov (.tmp 11)⟩,
   ⟨(some 12),none,.ext (.tmp 9) 0⟩,
   ⟨(some 13),none,.ext (.tmp 9) 1⟩,
   ⟨(some 1),none,.mov (.tmp 12)⟩,
   ⟨(some 2),none,.mov (.tmp 13)⟩] [1,2])
 (.seq (.ops [⟨(some 15),none,.mkRow 3 1 4 [(.int .i64 0)] [(0,1,(.const (.int .i64 7))),(1,1,(.const (.int .i64 3))),(2,1,(.const (.int .i64 7))),(3,1,(.const (.int .i64 0)))]⟩,
   ⟨(some 16),none,.callF 21 [(.tmp 15)]⟩,
   ⟨(some 14),none,.mov (.tmp 16)⟩,
   ⟨(some 17),none,.ext (.tmp 14) 0⟩,
   ⟨(some 18),none,.ext (.tmp 14) 1⟩,
   ⟨(some 3),none,.mov (.tmp 17)⟩,
   ⟨(some 4),none,.mov (.tmp 18)⟩] [1,2,3,4])
 (.seq (.ops [⟨(some 20),none,.mkRow 3 1 4 [(.int .i64 0)] [(0,1,(.const (.int .i64 7))),(1,1,(.const (.int .i64 3))),(2,1,(.const (.int .i64 7))),(3,1,(.const (.int .i64 0)))]⟩,
   ⟨(some 21),none,.mkRow 3 1 4 [(.int .i64 0)] [(0,1,(.const (.int .i64 1))),(1,1,(.const (.int .i64 5))),(2,1,(.const (.int .i64 1))),(3,1,(.const (.int .i64 4)))]⟩,
   ⟨(some 22),none,.callF 14 [(.tmp 20),(.tmp 21)]⟩,
   ⟨(some 19),none,.mov (.tmp 22)⟩,
   ⟨(some 23),none,.ext (.tmp 19) 0⟩,
   ⟨(some 24),none,.ext (.tmp 19) 1⟩,
   ⟨(some 5),none,.mov (.tmp 23)⟩,
   ⟨(some 6),none,.mov (.tmp 24)⟩] [1,2,3,4,5,6])
 (.seq (.ops [⟨(some 26),none,.callF 13 [(.const (.int .i64 3)),(.const (.int .i64 7))]⟩,
   ⟨(some 25),none,.mov (.tmp 26)⟩,
   ⟨(some 27),none,.ext (.tmp 25) 0⟩,
   ⟨(some 28),none,.ext (.tmp 25) 1⟩,
   ⟨(some 7),none,.mov (.tmp 27)⟩,
   ⟨(some 8),none,.mov (.tmp 28)⟩] [1,2,3,4,5,6,7,8])
 (.seq (.ops [⟨(some 29),none,.mov (.tmp 2)⟩,
   ⟨(some 30),none,.bin .eql (.tmp 29) (.const (.int .i64 0))⟩,
   ⟨(some 31),none,.mov (.tmp 30)⟩,
   ⟨(some 32),(some (31,true)),.mov (.tmp 1)⟩,
   ⟨(some 33),(some (31,true)),.bin .eql (.tmp 32) (.const (.string ⟨#[49,32,50,32,49,48]⟩))⟩,
   ⟨(some 34),none,.pick (.tmp 31) (.tmp 33) (.const (.bool false))⟩,
   ⟨(some 35),none,.mov (.tmp 34)⟩,
   ⟨(some 36),(some (35,true)),.mov (.tmp 3)⟩,
   ⟨(some 37),(some (35,true)),.mov (.tmp 4)⟩,
   ⟨(some 38),(some (35,true)),.mkRow 3 1 4 [(.int .i64 0)] [(0,1,(.const (.int .i64 0))),(1,1,(.const (.int .i64 1))),(2,1,(.const (.int .i64 0))),(3,1,(.const (.int .i64 2)))]⟩,
   ⟨(some 39),(some (35,true)),.callF 16 [(.tmp 36),(.tmp 37),(.tmp 38)]⟩,
   ⟨(some 40),none,.pick (.tmp 35) (.tmp 39) (.const (.bool false))⟩,
   ⟨(some 41),none,.mov (.tmp 40)⟩,
   ⟨(some 42),(some (41,true)),.mov (.tmp 5)⟩,
   ⟨(some 43),(some (41,true)),.mov (.tmp 6)⟩,
   ⟨(some 44),(some (41,true)),.mkRow 3 1 8 [(.int .i64 0)] [(0,1,(.const (.int .i64 4))),(1,1,(.const (.int .i64 (-1)))),(2,1,(.const (.int .i64 (-1)))),(3,1,(.const (.int .i64 5))),(4,1,(.const (.int .i64 (-1)))),(5,1,(.const (.int .i64 (-1)))),(6,1,(.const (.int .i64 (-1)))),(7,1,(.const (.int .i64 1)))]⟩,
   ⟨(some 45),(some (41,true)),.callF 16 [(.tmp 42),(.tmp 43),(.tmp 44)]⟩,
   ⟨(some 46),none,.pick (.tmp 41) (.tmp 45) (.const (.bool false))⟩,
   ⟨(some 47),none,.mov (.tmp 46)⟩,
   ⟨(some 48),(some (47,true)),.mov (.tmp 7)⟩,
   ⟨(some 49),(some (47,true)),.mov (.tmp 8)⟩,
   ⟨(some 50),(some (47,true)),.mkRow 3 1 7 [(.int .i64 0)] [(0,1,(.const (.int .i64 0))),(1,1,(.const (.int .i64 1))),(2,1,(.const (.int .i64 2))),(3,1,(.const (.int .i64 1))),(4,1,(.const (.int .i64 0))),(5,1,(.const (.int .i64 1))),(6,1,(.const (.int .i64 2)))]⟩,
   ⟨(some 51),(some (47,true)),.callF 16 [(.tmp 48),(.tmp 49),(.tmp 50)]⟩,
   ⟨(some 52),none,.pick (.tmp 47) (.tmp 51) (.const (.bool false))⟩,
   ⟨(some 53),none,.mov (.tmp 52)⟩,
   ⟨(some 54),(some (53,true)),.callF 18 [(.const (.string ⟨#[48]⟩))]⟩,
   ⟨(some 55),none,.pick (.tmp 53) (.tmp 54) (.const (.bool false))⟩,
   ⟨(some 56),none,.mov (.tmp 55)⟩,
   ⟨(some 57),(some (56,true)),.callF 18 [(.const (.string ⟨#[49,32,32,50]⟩))]⟩,
   ⟨(some 58),none,.pick (.tmp 56) (.tmp 57) (.const (.bool false))⟩,
   ⟨(some 59),none,.mov (.tmp 58)⟩,
   ⟨(some 60),(some (59,true)),.callF 18 [(.const (.string ⟨#[48,49]⟩))]⟩,
   ⟨(some 61),none,.pick (.tmp 59) (.tmp 60) (.const (.bool false))⟩,
   ⟨(some 62),none,.mov (.tmp 61)⟩,
   ⟨(some 63),(some (62,true)),.callF 18 [(.const (.string ⟨#[52,48,49]⟩))]⟩,
   ⟨(some 64),none,.pick (.tmp 62) (.tmp 63) (.const (.bool false))⟩,
   ⟨(some 0),none,.mov (.tmp 64)⟩] [0])
 (.ret)))))),
 65,[(0,none)],true⟩
theorem ok6:FunOK Tryz.prog 6 c6:= .code ⟨Tryz.f6,_,c6.code,Tryz.func6,rfl,by kernel_rfl,rfl,by kernel_rfl,by kernel_rfl⟩
/- raddle/thread.Join -/
def c7:AFun:=⟨
 .seq (.ops [⟨(some 4),none,.mov (.const (.slice none 0 0))⟩,
   ⟨(some 5),none,.mov (.const (.int .i64 0))⟩] [0,1])
 (.seq (.seq (.ops [⟨(some 7),none,.mov (.tmp 0)⟩,
   ⟨(some 8),none,.mov (.tmp 1)⟩,
   ⟨(some 9),none,.mkRow 22 1 2 [(.slice none 0 0)] [(0,1,(.tmp 7)),(1,1,(.tmp 8))]⟩,
   ⟨(some 10),none,.callF 22 [(.tmp 9)]⟩,
   ⟨(some 6),none,.mov (.tmp 10)⟩] [0,1,6])
 (.seq (.ops [⟨(some 11),none,.mov (.tmp 6)⟩,
   ⟨(some 12),none,.bin .neq (.tmp 11) (.const (.int .i64 0))⟩] [0,1,6,12])
 (.cond (.tmp 12)
  (.seq (.ops [⟨(some 13),none,.mov (.tmp 6)⟩,
    ⟨(some 4),none,.mov (.const (.slice none 0 0))⟩,
    ⟨(some 5),none,.mov (.tmp 13)⟩] [4,5])
  (.ret))
  (.skip))))
 (.seq (.seq (.ops [⟨(some 14),none,.mov (.tmp 0)⟩,
   ⟨(some 15),none,.len false (.tmp 14)⟩,
   ⟨(some 16),none,.mov (.tmp 1)⟩,
   ⟨(some 17),none,.len false (.tmp 16)⟩,
   ⟨(some 18),none,.bin .add (.tmp 15) (.tmp 17)⟩,
   ⟨(some 19),none,.bin .gtr (.tmp 18) (.const (.int .i64 400))⟩] [0,1,19])
 (.cond (.tmp 19)
  (.seq (.ops [⟨(some 4),none,.mov (.const (.slice none 0 0))⟩,
    ⟨(some 5),none,.mov (.const (.int .i64 4))⟩] [4,5])
  (.ret))
  (.skip)))
 (.seq (.ops [⟨(some 20),none,.mov (.tmp 0)⟩,
   ⟨(some 21),none,.mov (.tmp 1)⟩,
   ⟨(some 22),none,.mkRow 22 1 2 [(.slice none 0 0)] [(0,1,(.tmp 20)),(1,1,(.tmp 21))]⟩,
   ⟨(some 23),none,.callF 23 [(.tmp 22)]⟩,
   ⟨(some 4),none,.mov (.tmp 23)⟩,
   ⟨(some 5),none,.mov (.const (.int .i64 0))⟩] [4,5])
 (.ret)))),
 24,[(4,none),(5,none)],true⟩
theorem ok7:FunOK Tryz.prog 7 c7:= .code ⟨Tryz.f7,_,c7.code,Tryz.func7,rfl,by kernel_rfl,rfl,by kernel_rfl,by kernel_rfl⟩
/- raddle/thread.Reverse -/
def c8:AFun:=⟨
 .seq (.ops [⟨(some 2),none,.mov (.const (.slice none 0 0))⟩,
   ⟨(some 3),none,.mov (.const (.int .i64 0))⟩] [0])
 (.seq (.seq (.ops [⟨(some 6),none,.mov (.tmp 0)⟩,
   ⟨(some 7),none,.mkRow 22 1 1 [(.slice none 0 0)] [(0,1,(.tmp 6))]⟩,
   ⟨(some 8),none,.callF 22 [(.tmp 7)]⟩,
   ⟨(some 4),none,.mov (.tmp 8)⟩] [0,4])
 (.seq (.ops [⟨(some 9),none,.mov (.tmp 4)⟩,
   ⟨(some 10),none,.bin .neq (.tmp 9) (.const (.int .i64 0))⟩] [0,4,10])
 (.cond (.tmp 10)
  (.seq (.ops [⟨(some 11),none,.mov (.tmp 4)⟩,
    ⟨(some 2),none,.mov (.const (.slice none 0 0))⟩,
    ⟨(some 3),none,.mov (.tmp 11)⟩] [2,3])
  (.ret))
  (.skip))))
 (.seq (.ops [⟨(some 12),none,.mov (.tmp 0)⟩,
   ⟨(some 13),none,.callF 24 [(.tmp 12)]⟩,
   ⟨(some 5),none,.mov (.tmp 13)⟩] [5])
 (.seq (.ops [⟨(some 14),none,.mov (.tmp 5)⟩,
   ⟨(some 15),none,.callF 25 [(.tmp 14)]⟩] [5])
 (.seq (.ops [⟨(some 16),none,.mov (.tmp 5)⟩,
   ⟨(some 2),none,.mov (.tmp 16)⟩,
   ⟨(some 3),none,.mov (.const (.int .i64 0))⟩] [2,3])
 (.ret))))),
 17,[(2,none),(3,none)],true⟩
theorem ok8:FunOK Tryz.prog 8 c8:= .code ⟨Tryz.f8,_,c8.code,Tryz.func8,rfl,by kernel_rfl,rfl,by kernel_rfl,by kernel_rfl⟩
/- raddle/raddleref02.Same -/
def c9l0:AC:=
 .seq (.seq (.ops [⟨(some 11),none,.mov (.tmp 5)⟩,
     ⟨(some 12),none,.mov (.tmp 0)⟩,
     ⟨(some 13),none,.len false (.tmp 12)⟩,
     ⟨(some 14),none,.bin .lss (.tmp 11) (.tmp 13)⟩] [0,1,5,14])
   (.cond (.tmp 14)
    (.skip)
    (.exit 0)))
   (.seq (.block 1
    (.seq (.draw [⟨(some 17),none,.mov (.tmp 0)⟩,
      ⟨(some 18),none,.mov (.tmp 5)⟩,
      ⟨(some 19),none,.idxS 1 (.tmp 17) (.tmp 18)⟩,
      ⟨(some 20),none,.load none (.tmp 19)⟩,
      ⟨(some 21),none,.mov (.tmp 1)⟩,
      ⟨(some 22),none,.mov (.tmp 5)⟩,
      ⟨(some 23),none,.idxS 1 (.tmp 21) (.tmp 22)⟩,
      ⟨(some 24),none,.load none (.tmp 23)⟩] [⟨(some 25),none,.bin .neq (.tmp 20) (.tmp 24)⟩] [[],[],[],[],[],[],[],[]] [0,1,5,25])
    (.cond (.tmp 25)
     (.seq (.ops [⟨(some 4),none,.mov (.const (.bool false))⟩] [4])
     (.ret))
     (.skip))))
   (.ops [⟨(some 15),none,.mov (.tmp 5)⟩,
     ⟨(some 16),none,.bin .add (.tmp 15) (.const (.int .i64 1))⟩,
     ⟨(some 5),none,.mov (.tmp 16)⟩] [0,1,5]))
def c9:AFun:=⟨
 .seq (.ops [⟨(some 4),none,.mov (.const (.bool false))⟩] [0,1])
 (.seq (.seq (.ops [⟨(some 6),none,.mov (.tmp 0)⟩,
   ⟨(some 7),none,.len false (.tmp 6)⟩,
   ⟨(some 8),none,.mov (.tmp 1)⟩,
   ⟨(some 9),none,.len false (.tmp 8)⟩,
   ⟨(some 10),none,.bin .neq (.tmp 7) (.tmp 9)⟩] [0,1,10])
 (.cond (.tmp 10)
  (.seq (.ops [⟨(some 4),none,.mov (.const (.bool false))⟩] [4])
  (.ret))
  (.skip)))
 (.seq (.seq (.ops [⟨(some 5),none,.mov (.const (.int .i64 0))⟩] [0,1,5])
 (.block 0
  (.loop [0,1,5]
   c9l0)))
 (.seq (.ops [⟨(some 4),none,.mov (.const (.bool true))⟩] [4])
 (.ret)))),
 26,[(4,none)],true⟩
theorem ok9:FunOK Tryz.prog 9 c9:= .code ⟨Tryz.f9,_,c9.code,Tryz.func9,rfl,by kernel_rfl,rfl,by kernel_rfl,by kernel_rfl⟩
/- raddle/thread.Tile -/
def c10:AFun:=⟨
 .seq (.ops [⟨(some 4),none,.mov (.const (.slice none 0 0))⟩,
   ⟨(some 5),none,.mov (.const (.int .i64 0))⟩] [0,1])
 (.seq (.seq (.ops [⟨(some 7),none,.mov (.tmp 0)⟩,
   ⟨(some 8),none,.mkRow 22 1 1 [(.slice none 0 0)] [(0,1,(.tmp 7))]⟩,
   ⟨(some 9),none,.callF 22 [(.tmp 8)]⟩,
   ⟨(some 6),none,.mov (.tmp 9)⟩] [0,1,6])
 (.seq (.ops [⟨(some 10),none,.mov (.tmp 6)⟩,
   ⟨(some 11),none,.bin .neq (.tmp 10) (.const (.int .i64 0))⟩] [0,1,6,11])
 (.cond (.tmp 11)
  (.seq (.ops [⟨(some 12),none,.mov (.tmp 6)⟩,
    ⟨(some 4),none,.mov (.const (.slice none 0 0))⟩,
    ⟨(some 5),none,.mov (.tmp 12)⟩] [4,5])
  (.ret))
  (.skip))))
 (.seq (.block 0
  (.seq (.ops [⟨(some 14),none,.mov (.tmp 1)⟩,
    ⟨(some 15),none,.bin .lss (.tmp 14) (.const (.int .i64 0))⟩,
    ⟨(some 13),none,.mov (.tmp 15)⟩] [0,1,13])
  (.cond (.tmp 13)
   (.seq (.ops [⟨(some 4),none,.mov (.const (.slice none 0 0))⟩,
     ⟨(some 5),none,.mov (.const (.int .i64 2))⟩] [4,5])
   (.ret))
   (.seq (.ops [⟨(some 17),none,.mov (.tmp 0)⟩,
     ⟨(some 18),none,.len false (.tmp 17)⟩,
     ⟨(some 19),none,.bin .eql (.tmp 18) (.const (.int .i64 0))⟩,
     ⟨(some 16),none,.mov (.tmp 19)⟩] [0,1,16])
   (.cond (.tmp 16)
    (.seq (.ops [⟨(some 4),none,.mov (.const (.slice none 0 0))⟩,
      ⟨(some 5),none,.mov (.const (.int .i64 0))⟩] [4,5])
    (.ret))
    (.seq (.ops [⟨(some 21),none,.mov (.tmp 1)⟩,
      ⟨(some 22),none,.mov (.tmp 0)⟩,
      ⟨(some 23),none,.len false (.tmp 22)⟩,
      ⟨(some 24),none,.bin .quo (.const (.int .i64 400)) (.tmp 23)⟩,
      ⟨(some 25),none,.bin .gtr (.tmp 21) (.tmp 24)⟩,
      ⟨(some 20),none,.mov (.tmp 25)⟩] [0,1,20])
    (.cond (.tmp 20)
     (.seq (.ops [⟨(some 4),none,.mov (.const (.slice none 0 0))⟩,
       ⟨(some 5),none,.mov (.const (.int .i64 4))⟩] [4,5])
     (.ret))
     (.skip))))))))
 (.seq (.ops [⟨(some 26),none,.mov (.tmp 0)⟩,
   ⟨(some 27),none,.mov (.tmp 1)⟩,
   ⟨(some 28),none,.callF 26 [(.tmp 26),(.tmp 27)]⟩,
   ⟨(some 4),none,.mov (.tmp 28)⟩,
   ⟨(some 5),none,.mov (.const (.int .i64 0))⟩] [4,5])
 (.ret)))),
 29,[(4,none),(5,none)],true⟩
theorem ok10:FunOK Tryz.prog 10 c10:= .code ⟨Tryz.f10,_,c10.code,Tryz.func10,rfl,by kernel_rfl,rfl,by kernel_rfl,by kernel_rfl⟩
/- raddle/thread.Used -/
def c11:AFun:=⟨
 .seq (.ops [⟨(some 2),none,.mov (.const (.int .i64 0))⟩,
   ⟨(some 3),none,.mov (.const (.int .i64 0))⟩] [0])
 (.seq (.seq (.ops [⟨(some 6),none,.mov (.tmp 0)⟩,
   ⟨(some 7),none,.mkRow 22 1 1 [(.slice none 0 0)] [(0,1,(.tmp 6))]⟩,
   ⟨(some 8),none,.callF 22 [(.tmp 7)]⟩,
   ⟨(some 4),none,.mov (.tmp 8)⟩] [0,4])
 (.seq (.ops [⟨(some 9),none,.mov (.tmp 4)⟩,
   ⟨(some 10),none,.bin .neq (.tmp 9) (.const (.int .i64 0))⟩] [0,4,10])
 (.cond (.tmp 10)
  (.seq (.ops [⟨(some 11),none,.mov (.tmp 4)⟩,
    ⟨(some 2),none,.mov (.const (.int .i64 0))⟩,
    ⟨(some 3),none,.mov (.tmp 11)⟩] [2,3])
  (.ret))
  (.skip))))
 (.seq (.ops [⟨(some 12),none,.mov (.tmp 0)⟩,
   ⟨(some 13),none,.callF 28 [(.tmp 12)]⟩,
   ⟨(some 14),none,.callF 27 [(.tmp 13)]⟩,
   ⟨(some 5),none,.mov (.tmp 14)⟩] [5])
 (.seq (.ops [⟨(some 15),none,.mov (.tmp 5)⟩,
   ⟨(some 16),none,.callF 29 [(.tmp 15)]⟩,
   ⟨(some 17),none,.len false (.tmp 16)⟩,
   ⟨(some 2),none,.mov (.tmp 17)⟩,
   ⟨(some 3),none,.mov (.const (.int .i64 0))⟩] [2,3])
 (.ret)))),
 18,[(2,none),(3,none)],true⟩
theorem ok11:FunOK Tryz.prog 11 c11:= .code ⟨Tryz.f11,_,c11.code,Tryz.func11,rfl,by kernel_rfl,rfl,by kernel_rfl,by kernel_rfl⟩
/- raddle/thread.Straight -/
def c12l0:AC:=
 .seq (.ops [⟨(some 16),none,.bin .lss (.tmp 15) (.tmp 14)⟩] [0,6,14,15,16])
   (.seq (.cond (.tmp 16)
    (.skip)
    (.exit 0))
   (.seq (.block 1
    (.seq (.ops [⟨(some 17),none,.mov (.tmp 15)⟩,
      ⟨(some 7),none,.mov (.tmp 17)⟩] [0,6,7,14,15])
    (.ops [⟨(some 18),none,.mov (.tmp 6)⟩,
      ⟨(some 19),none,.mov (.tmp 7)⟩,
      ⟨(some 20),none,.mov (.tmp 7)⟩,
      ⟨(some 21),none,.mov (.tmp 0)⟩,
      ⟨(some 22),none,.bin .rem (.tmp 20) (.tmp 21)⟩,
      ⟨(some 23),none,.idxS 1 (.tmp 18) (.tmp 19)⟩,
      ⟨none,none,.store 1 (.tmp 23) (.tmp 22)⟩] [0,6,14,15])))
   (.ops [⟨(some 24),none,.bin .add (.tmp 15) (.const (.int .i64 1))⟩,
     ⟨(some 15),none,.mov (.tmp 24)⟩] [0,6,14,15])))
def c12:AFun:=⟨
 .seq (.ops [⟨(some 4),none,.mov (.const (.slice none 0 0))⟩,
   ⟨(some 5),none,.mov (.const (.int .i64 0))⟩] [0,1])
 (.seq (.seq (.ops [⟨(some 8),none,.mov (.tmp 0)⟩,
   ⟨(some 9),none,.mov (.tmp 1)⟩,
   ⟨(some 10),none,.callF 30 [(.tmp 8),(.tmp 9)]⟩,
   ⟨(some 11),none,.un .not (.tmp 10)⟩] [0,1,11])
 (.cond (.tmp 11)
  (.seq (.ops [⟨(some 4),none,.mov (.const (.slice none 0 0))⟩,
    ⟨(some 5),none,.mov (.const (.int .i64 2))⟩] [4,5])
  (.ret))
  (.skip)))
 (.seq (.ops [⟨(some 12),none,.mov (.tmp 1)⟩,
   ⟨(some 13),none,.mkSlice 3 1 8 [(.int .i64 0)] (.tmp 12) (.tmp 12)⟩,
   ⟨(some 6),none,.mov (.tmp 13)⟩] [0,1,6])
 (.seq (.seq (.ops [⟨(some 14),none,.mov (.tmp 1)⟩,
   ⟨(some 15),none,.mov (.const (.int .i64 0))⟩] [0,6,14,15])
 (.block 0
  (.loop [0,6,14,15]
   c12l0)))
 (.seq (.ops [⟨(some 25),none,.mov (.tmp 6)⟩,
   ⟨(some 4),none,.mov (.tmp 25)⟩,
   ⟨(some 5),none,.mov (.const (.int .i64 0))⟩] [4,5])
 (.ret))))),
 26,[(4,none),(5,none)],true⟩
theorem ok12:FunOK Tryz.prog 12 c12:= .code ⟨Tryz.f12,_,c12.code,Tryz.func12,rfl,by kernel_rfl,rfl,by kernel_rfl,by kernel_rfl⟩
/- raddle/thread.Pointed -/
def c13l0:AC:=
 .seq (.ops [⟨(some 22),none,.bin .lss (.tmp 21) (.tmp 20)⟩] [6,7,20,21,22])
   (.seq (.cond (.tmp 22)
    (.skip)
    (.exit 0))
   (.seq (.block 1
    (.seq (.ops [⟨(some 23),none,.mov (.tmp 21)⟩,
      ⟨(some 8),none,.mov (.tmp 23)⟩] [6,7,8,20,21])
    (.seq (.ops [⟨(some 24),none,.mov (.tmp 8)⟩,
      ⟨(some 25),none,.mov (.tmp 7)⟩,
      ⟨(some 26),none,.bin .rem (.tmp 24) (.tmp 25)⟩,
      ⟨(some 9),none,.mov (.tmp 26)⟩] [6,7,8,9,20,21])
    (.ops [⟨(some 27),none,.mov (.tmp 6)⟩,
      ⟨(some 28),none,.mov (.tmp 8)⟩,
      ⟨(some 29),none,.mov (.tmp 9)⟩,
      ⟨(some 30),none,.mov (.tmp 7)⟩,
      ⟨(some 31),none,.mov (.tmp 9)⟩,
      ⟨(some 32),none,.bin .sub (.tmp 30) (.tmp 31)⟩,
      ⟨(some 33),none,.mm false (.tmp 29) (.tmp 32)⟩,
      ⟨(some 34),none,.idxS 1 (.tmp 27) (.tmp 28)⟩,
      ⟨none,none,.store 1 (.tmp 34) (.tmp 33)⟩] [6,7,20,21]))))
   (.ops [⟨(some 35),none,.bin .add (.tmp 21) (.const (.int .i64 1))⟩,
     ⟨(some 21),none,.mov (.tmp 35)⟩] [6,7,20,21])))
def c13:AFun:=⟨
 .seq (.ops [⟨(some 4),none,.mov (.const (.slice none 0 0))⟩,
   ⟨(some 5),none,.mov (.const (.int .i64 0))⟩] [0,1])
 (.seq (.seq (.ops [⟨(some 10),none,.mov (.tmp 0)⟩,
   ⟨(some 11),none,.mov (.tmp 1)⟩,
   ⟨(some 12),none,.callF 30 [(.tmp 10),(.tmp 11)]⟩,
   ⟨(some 13),none,.un .not (.tmp 12)⟩] [0,1,13])
 (.cond (.tmp 13)
  (.seq (.ops [⟨(some 4),none,.mov (.const (.slice none 0 0))⟩,
    ⟨(some 5),none,.mov (.const (.int .i64 2))⟩] [4,5])
  (.ret))
  (.skip)))
 (.seq (.ops [⟨(some 14),none,.mov (.tmp 1)⟩,
   ⟨(some 15),none,.mkSlice 3 1 8 [(.int .i64 0)] (.tmp 14) (.tmp 14)⟩,
   ⟨(some 6),none,.mov (.tmp 15)⟩] [0,1,6])
 (.seq (.ops [⟨(some 16),none,.mov (.tmp 0)⟩,
   ⟨(some 17),none,.bin .mul (.const (.int .i64 2)) (.tmp 16)⟩,
   ⟨(some 18),none,.bin .sub (.tmp 17) (.const (.int .i64 2))⟩,
   ⟨(some 19),none,.mm true (.const (.int .i64 1)) (.tmp 18)⟩,
   ⟨(some 7),none,.mov (.tmp 19)⟩] [1,6,7])
 (.seq (.seq (.ops [⟨(some 20),none,.mov (.tmp 1)⟩,
   ⟨(some 21),none,.mov (.const (.int .i64 0))⟩] [6,7,20,21])
 (.block 0
  (.loop [6,7,20,21]
   c13l0)))
 (.seq (.ops [⟨(some 36),none,.mov (.tmp 6)⟩,
   ⟨(some 4),none,.mov (.tmp 36)⟩,
   ⟨(some 5),none,.mov (.const (.int .i64 0))⟩] [4,5])
 (.ret)))))),
 37,[(4,none),(5,none)],true⟩
theorem ok13:FunOK Tryz.prog 13 c13:= .code ⟨Tryz.f13,_,c13.code,Tryz.func13,rfl,by kernel_rfl,rfl,by kernel_rfl,by kernel_rfl⟩
/- raddle/thread.Match -/
def c14l0:AC:=
 .seq (.ops [⟨(some 43),none,.bin .lss (.tmp 42) (.tmp 41)⟩] [1,7,9,40,41,42,43])
   (.seq (.cond (.tmp 43)
    (.skip)
    (.exit 2))
   (.seq (.block 3
    (.seq (.ops [⟨(some 44),none,.mov (.tmp 42)⟩,
      ⟨(some 45),none,.idxS 1 (.tmp 40) (.tmp 42)⟩,
      ⟨(some 46),none,.load none (.tmp 45)⟩,
      ⟨(some 10),none,.mov (.tmp 44)⟩,
      ⟨(some 11),none,.mov (.tmp 46)⟩] [1,7,9,10,11,40,41,42])
    (.block 4
     (.seq (.draw [⟨(some 60),none,.mov (.tmp 7)⟩,
       ⟨(some 61),none,.mov (.tmp 11)⟩,
       ⟨(some 62),none,.idxS 1 (.tmp 60) (.tmp 61)⟩,
       ⟨(some 63),none,.load none (.tmp 62)⟩,
       ⟨(some 64),none,.mov (.tmp 1)⟩,
       ⟨(some 65),none,.mov (.tmp 10)⟩,
       ⟨(some 66),none,.idxS 1 (.tmp 64) (.tmp 65)⟩,
       ⟨(some 67),none,.load none (.tmp 66)⟩] [⟨(some 68),none,.bin .eql (.tmp 63) (.tmp 67)⟩,
       ⟨(some 59),none,.mov (.tmp 68)⟩] [[],[],[],[],[],[],[],[]] [1,7,9,10,11,40,41,42,59])
     (.cond (.tmp 59)
      (.skip)
      (.seq (.ops [⟨(some 70),none,.mov (.tmp 7)⟩,
        ⟨(some 71),none,.mov (.tmp 11)⟩,
        ⟨(some 72),none,.idxS 1 (.tmp 70) (.tmp 71)⟩,
        ⟨(some 73),none,.load none (.tmp 72)⟩,
        ⟨(some 74),none,.bin .geq (.tmp 73) (.const (.int .i64 0))⟩,
        ⟨(some 75),none,.mov (.tmp 74)⟩,
        ⟨(some 76),(some (75,false)),.mov (.tmp 1)⟩,
        ⟨(some 77),(some (75,false)),.mov (.tmp 10)⟩,
        ⟨(some 78),(some (75,false)),.idxS 1 (.tmp 76) (.tmp 77)⟩,
        ⟨(some 79),(some (75,false)),.load none (.tmp 78)⟩,
        ⟨(some 80),(some (75,false)),.idxA 400 1 (.tmp 9) (.tmp 79)⟩,
        ⟨(some 81),(some (75,false)),.load none (.tmp 80)⟩,
        ⟨(some 82),none,.pick (.tmp 75) (.const (.bool true)) (.tmp 81)⟩,
        ⟨(some 69),none,.mov (.tmp 82)⟩] [1,7,9,10,11,40,41,42,69])
      (.cond (.tmp 69)
       (.seq (.ops [⟨(some 4),none,.mov (.const (.slice none 0 0))⟩,
         ⟨(some 5),none,.mov (.const (.int .i64 6))⟩] [4,5])
       (.ret))
       (.draw [⟨(some 47),none,.mov (.tmp 7)⟩,
         ⟨(some 48),none,.mov (.tmp 11)⟩,
         ⟨(some 49),none,.mov (.tmp 1)⟩,
         ⟨(some 50),none,.mov (.tmp 10)⟩,
         ⟨(some 51),none,.idxS 1 (.tmp 49) (.tmp 50)⟩,
         ⟨(some 52),none,.load none (.tmp 51)⟩,
         ⟨(some 53),none,.mov (.tmp 1)⟩,
         ⟨(some 54),none,.mov (.tmp 10)⟩,
         ⟨(some 55),none,.idxS 1 (.tmp 53) (.tmp 54)⟩,
         ⟨(some 56),none,.load none (.tmp 55)⟩] [⟨(some 57),none,.idxS 1 (.tmp 47) (.tmp 48)⟩,
         ⟨none,none,.store 1 (.tmp 57) (.tmp 56)⟩,
         ⟨(some 58),none,.idxA 400 1 (.tmp 9) (.tmp 52)⟩,
         ⟨none,none,.store 1 (.tmp 58) (.const (.bool true))⟩] [[],[],[],[],[],[],[],[],[],[]] [1,7,9,40,41,42]))))))))
   (.ops [⟨(some 83),none,.bin .add (.tmp 42) (.const (.int .i64 1))⟩,
     ⟨(some 42),none,.mov (.tmp 83)⟩] [1,7,9,40,41,42])))
def c14l1:AC:=
 .seq (.ops [⟨(some 34),none,.bin .lss (.tmp 33) (.tmp 32)⟩] [0,1,7,32,33,34])
   (.seq (.cond (.tmp 34)
    (.skip)
    (.exit 0))
   (.seq (.block 1
    (.seq (.ops [⟨(some 35),none,.mov (.tmp 33)⟩,
      ⟨(some 8),none,.mov (.tmp 35)⟩] [0,1,7,8,32,33])
    (.ops [⟨(some 36),none,.mov (.tmp 7)⟩,
      ⟨(some 37),none,.mov (.tmp 8)⟩,
      ⟨(some 38),none,.idxS 1 (.tmp 36) (.tmp 37)⟩,
      ⟨none,none,.store 1 (.tmp 38) (.const (.int .i64 (-1)))⟩] [0,1,7,32,33])))
   (.ops [⟨(some 39),none,.bin .add (.tmp 33) (.const (.int .i64 1))⟩,
     ⟨(some 33),none,.mov (.tmp 39)⟩] [0,1,7,32,33])))
def c14:AFun:=⟨
 .seq (.ops [⟨(some 4),none,.mov (.const (.slice none 0 0))⟩,
   ⟨(some 5),none,.mov (.const (.int .i64 0))⟩] [0,1])
 (.seq (.seq (.ops [⟨(some 12),none,.mov (.tmp 0)⟩,
   ⟨(some 13),none,.mov (.tmp 1)⟩,
   ⟨(some 14),none,.mkRow 22 1 2 [(.slice none 0 0)] [(0,1,(.tmp 12)),(1,1,(.tmp 13))]⟩,
   ⟨(some 15),none,.callF 22 [(.tmp 14)]⟩,
   ⟨(some 6),none,.mov (.tmp 15)⟩] [0,1,6])
 (.seq (.ops [⟨(some 16),none,.mov (.tmp 6)⟩,
   ⟨(some 17),none,.bin .neq (.tmp 16) (.const (.int .i64 0))⟩] [0,1,6,17])
 (.cond (.tmp 17)
  (.seq (.ops [⟨(some 18),none,.mov (.tmp 6)⟩,
    ⟨(some 4),none,.mov (.const (.slice none 0 0))⟩,
    ⟨(some 5),none,.mov (.tmp 18)⟩] [4,5])
  (.ret))
  (.skip))))
 (.seq (.seq (.ops [⟨(some 19),none,.mov (.tmp 0)⟩,
   ⟨(some 20),none,.len false (.tmp 19)⟩,
   ⟨(some 21),none,.mov (.tmp 1)⟩,
   ⟨(some 22),none,.len false (.tmp 21)⟩,
   ⟨(some 23),none,.bin .neq (.tmp 20) (.tmp 22)⟩] [0,1,23])
 (.cond (.tmp 23)
  (.seq (.ops [⟨(some 4),none,.mov (.const (.slice none 0 0))⟩,
    ⟨(some 5),none,.mov (.const (.int .i64 2))⟩] [4,5])
  (.ret))
  (.skip)))
 (.seq (.seq (.ops [⟨(some 24),none,.mov (.tmp 0)⟩,
   ⟨(some 25),none,.len false (.tmp 24)⟩,
   ⟨(some 26),none,.bin .eql (.tmp 25) (.const (.int .i64 0))⟩] [0,1,26])
 (.cond (.tmp 26)
  (.seq (.ops [⟨(some 4),none,.mov (.const (.slice none 0 0))⟩,
    ⟨(some 5),none,.mov (.const (.int .i64 0))⟩] [4,5])
  (.ret))
  (.skip)))
 (.seq (.ops [⟨(some 27),none,.mov (.tmp 0)⟩,
   ⟨(some 28),none,.callF 31 [(.tmp 27)]⟩,
   ⟨(some 29),none,.bin .add (.tmp 28) (.const (.int .i64 1))⟩,
   ⟨(some 30),none,.mkSlice 3 1 8 [(.int .i64 0)] (.tmp 29) (.tmp 29)⟩,
   ⟨(some 7),none,.mov (.tmp 30)⟩] [0,1,7])
 (.seq (.seq (.ops [⟨(some 31),none,.mov (.tmp 7)⟩,
   ⟨(some 32),none,.len false (.tmp 31)⟩,
   ⟨(some 33),none,.mov (.const (.int .i64 0))⟩] [0,1,7,32,33])
 (.block 0
  (.loop [0,1,7,32,33]
   c14l1)))
 (.seq (.ops [⟨(some 9),none,.alloc 52 [(400,(.bool false))]⟩] [0,1,7,9])
 (.seq (.seq (.ops [⟨(some 40),none,.mov (.tmp 0)⟩,
   ⟨(some 41),none,.len false (.tmp 40)⟩,
   ⟨(some 42),none,.mov (.const (.int .i64 0))⟩] [1,7,9,40,41,42])
 (.block 2
  (.loop [1,7,9,40,41,42]
   c14l0)))
 (.seq (.ops [⟨(some 84),none,.mov (.tmp 7)⟩,
   ⟨(some 4),none,.mov (.tmp 84)⟩,
   ⟨(some 5),none,.mov (.const (.int .i64 0))⟩] [4,5])
 (.ret))))))))),
 85,[(4,none),(5,none)],true⟩
theorem ok14:FunOK Tryz.prog 14 c14:= .code ⟨Tryz.f14,_,c14.code,Tryz.func14,rfl,by kernel_rfl,rfl,by kernel_rfl,by kernel_rfl⟩
/- raddle/thread.Parse -/
def c15a0:AC:=
 (.ops [⟨(some 5),none,.mov (.tmp 12)⟩] [2,3,4,5])
def c15b0:AC:=
 (.block 1
    (.seq (.ops [⟨(some 14),none,.mov (.tmp 5)⟩,
      ⟨(some 15),none,.callF 33 [(.tmp 14)]⟩,
      ⟨(some 13),none,.mov (.tmp 15)⟩,
      ⟨(some 16),none,.ext (.tmp 13) 0⟩,
      ⟨(some 17),none,.ext (.tmp 13) 1⟩,
      ⟨(some 6),none,.mov (.tmp 16)⟩,
      ⟨(some 7),none,.mov (.tmp 17)⟩] [2,3,4,5,6,7])
    (.seq (.seq (.ops [⟨(some 18),none,.mov (.tmp 7)⟩,
      ⟨(some 19),none,.eqIf true true [2,3,5,6,12,21,25,68,75,78,87,97,116,147,148,150,151] (.tmp 18) (.const .nilIface)⟩,
      ⟨(some 20),none,.mov (.tmp 19)⟩,
      ⟨(some 21),(some (20,false)),.mov (.tmp 6)⟩,
      ⟨(some 22),(some (20,false)),.callF 34 [(.tmp 21)]⟩,
      ⟨(some 23),(some (20,false)),.mov (.tmp 5)⟩,
      ⟨(some 24),(some (20,false)),.bin .neq (.tmp 22) (.tmp 23)⟩,
      ⟨(some 25),none,.pick (.tmp 20) (.const (.bool true)) (.tmp 24)⟩,
      ⟨(some 26),none,.mov (.tmp 25)⟩,
      ⟨(some 27),(some (26,false)),.mov (.tmp 6)⟩,
      ⟨(some 28),(some (26,false)),.bin .lss (.tmp 27) (.const (.int .i64 1))⟩,
      ⟨(some 29),none,.pick (.tmp 26) (.const (.bool true)) (.tmp 28)⟩] [2,3,4,6,29])
    (.cond (.tmp 29)
     (.seq (.ops [⟨none,none,.store 1 (.tmp 2) (.const (.slice none 0 0))⟩,
       ⟨none,none,.store 1 (.tmp 3) (.const (.int .i64 12))⟩] [])
     (.ret))
     (.skip)))
    (.ops [⟨(some 30),none,.load none (.tmp 4)⟩,
      ⟨(some 31),none,.mov (.tmp 6)⟩,
      ⟨(some 32),none,.bin .sub (.tmp 31) (.const (.int .i64 1))⟩,
      ⟨(some 33),none,.mkRow 3 1 1 [(.int .i64 0)] [(0,1,(.tmp 32))]⟩,
      ⟨(some 34),none,.app 3 1 8 (.tmp 30) (.tmp 33)⟩,
      ⟨none,none,.store 1 (.tmp 4) (.tmp 34)⟩] []))))
def c15:AFun:=⟨
 .seq (.ops [⟨(some 2),none,.alloc 22 [(1,(.slice none 0 0))]⟩,
   ⟨(some 3),none,.alloc 25 [(1,(.int .i64 0))]⟩] [0,2,3])
 (.seq (.seq (.ops [⟨(some 8),none,.mov (.tmp 0)⟩,
   ⟨(some 9),none,.bin .eql (.tmp 8) (.const (.string ⟨#[]⟩))⟩] [0,2,3,9])
 (.cond (.tmp 9)
  (.seq (.ops [⟨none,none,.store 1 (.tmp 2) (.const (.slice none 0 0))⟩,
    ⟨none,none,.store 1 (.tmp 3) (.const (.int .i64 0))⟩] [2,3])
  (.ret))
  (.skip)))
 (.seq (.ops [⟨(some 4),none,.alloc 22 [(1,(.slice none 0 0))]⟩] [0,2,3,4])
 (.seq (.seq (.ops [⟨(some 10),none,.mov (.tmp 0)⟩,
   ⟨(some 11),none,.callF 32 [(.tmp 10),(.const (.string ⟨#[32]⟩))]⟩] [2,3,4,11])
 (.block 0
  (.rangeF (.tmp 11) [12] [2,3,4]
   c15a0 c15b0)))
 (.seq (.seq (.ops [⟨(some 35),none,.load none (.tmp 4)⟩,
   ⟨(some 36),none,.mkRow 22 1 1 [(.slice none 0 0)] [(0,1,(.tmp 35))]⟩,
   ⟨(some 37),none,.callF 22 [(.tmp 36)]⟩,
   ⟨(some 38),none,.bin .neq (.tmp 37) (.const (.int .i64 0))⟩] [2,3,4,38])
 (.cond (.tmp 38)
  (.seq (.ops [⟨none,none,.store 1 (.tmp 2) (.const (.slice none 0 0))⟩,
    ⟨none,none,.store 1 (.tmp 3) (.const (.int .i64 12))⟩] [2,3])
  (.ret))
  (.skip)))
 (.seq (.ops [⟨(some 39),none,.load none (.tmp 4)⟩,
   ⟨none,none,.store 1 (.tmp 2) (.tmp 39)⟩,
   ⟨none,none,.store 1 (.tmp 3) (.const (.int .i64 0))⟩] [2,3])
 (.ret)))))),
 40,[(2,(some none)),(3,(some none))],true⟩
theorem ok15:FunOK Tryz.prog 15 c15:= .code ⟨Tryz.f15,_,c15.code,Tryz.func15,rfl,by kernel_rfl,rfl,by kernel_rfl,by kernel_rfl⟩
/- raddle/raddlelaw02.is -/
def c16:AFun:=⟨
 .seq (.ops [⟨(some 6),none,.mov (.const (.bool false))⟩] [0,1,2])
 (.seq (.ops [⟨(some 7),none,.mov (.tmp 1)⟩,
   ⟨(some 8),none,.bin .eql (.tmp 7) (.const (.int .i64 0))⟩,
   ⟨(some 9),none,.mov (.tmp 8)⟩,
   ⟨(some 10),(some (9,true)),.mov (.tmp 0)⟩,
   ⟨(some 11),(some (9,true)),.mov (.tmp 2)⟩,
   ⟨(some 12),(some (9,true)),.callF 9 [(.tmp 10),(.tmp 11)]⟩,
   ⟨(some 13),none,.pick (.tmp 9) (.tmp 12) (.const (.bool false))⟩,
   ⟨(some 6),none,.mov (.tmp 13)⟩] [6])
 (.ret)),
 14,[(6,none)],true⟩
theorem ok16:FunOK Tryz.prog 16 c16:= .code ⟨Tryz.f16,_,c16.code,Tryz.func16,rfl,by kernel_rfl,rfl,by kernel_rfl,by kernel_rfl⟩
/- raddle/thread.Check -/
def c17:AFun:=⟨
 .seq (.ops [⟨(some 2),none,.mov (.const (.int .i64 0))⟩] [0])
 (.seq (.ops [⟨(some 3),none,.mov (.tmp 0)⟩,
   ⟨(some 4),none,.mkRow 22 1 1 [(.slice none 0 0)] [(0,1,(.tmp 3))]⟩,
   ⟨(some 5),none,.callF 22 [(.tmp 4)]⟩,
   ⟨(some 2),none,.mov (.tmp 5)⟩] [2])
 (.ret)),
 6,[(2,none)],true⟩
theorem ok17:FunOK Tryz.prog 17 c17:= .code ⟨Tryz.f17,_,c17.code,Tryz.func17,rfl,by kernel_rfl,rfl,by kernel_rfl,by kernel_rfl⟩
/- raddle/raddlelaw02.refused -/
def c18:AFun:=⟨
 .seq (.ops [⟨(some 2),none,.mov (.const (.bool false))⟩] [0])
 (.seq (.ops [⟨(some 6),none,.mov (.tmp 0)⟩,
   ⟨(some 7),none,.callF 15 [(.tmp 6)]⟩,
   ⟨(some 5),none,.mov (.tmp 7)⟩,
   ⟨(some 8),none,.ext (.tmp 5) 0⟩,
   ⟨(some 9),none,.ext (.tmp 5) 1⟩,
   ⟨(some 3),none,.mov (.tmp 8)⟩,
   ⟨(some 4),none,.mov (.tmp 9)⟩] [3,4])
 (.seq (.ops [⟨(some 10),none,.mov (.tmp 4)⟩,
   ⟨(some 11),none,.bin .eql (.tmp 10) (.const (.int .i64 12))⟩,
   ⟨(some 12),none,.mov (.tmp 11)⟩,
   ⟨(some 13),(some (12,true)),.mov (.tmp 3)⟩,
   ⟨(some 14),(some (12,true)),.len false (.tmp 13)⟩,
   ⟨(some 15),(some (12,true)),.bin .eql (.tmp 14) (.const (.int .i64 0))⟩,
   ⟨(some 16),none,.pick (.tmp 12) (.tmp 15) (.const (.bool false))⟩,
   ⟨(some 2),none,.mov (.tmp 16)⟩] [2])
 (.ret))),
 17,[(2,none)],true⟩
theorem ok18:FunOK Tryz.prog 18 c18:= .code ⟨Tryz.f18,_,c18.code,Tryz.func18,rfl,by kernel_rfl,rfl,by kernel_rfl,by kernel_rfl⟩
/- raddle/thread.Text -/
def c20l0:AC:=
 .seq (.ops [⟨(some 19),none,.bin .lss (.tmp 18) (.tmp 17)⟩] [5,6,16,17,18,19])
   (.seq (.cond (.tmp 19)
    (.skip)
    (.exit 0))
   (.seq (.block 1
    (.seq (.ops [⟨(some 20),none,.mov (.tmp 18)⟩,
      ⟨(some 21),none,.idxS 1 (.tmp 16) (.tmp 18)⟩,
      ⟨(some 22),none,.load none (.tmp 21)⟩,
      ⟨(some 7),none,.mov (.tmp 20)⟩,
      ⟨(some 8),none,.mov (.tmp 22)⟩] [5,6,7,8,16,17,18])
    (.seq (.seq (.ops [⟨(some 23),none,.mov (.tmp 7)⟩,
      ⟨(some 24),none,.bin .gtr (.tmp 23) (.const (.int .i64 0))⟩] [5,6,8,16,17,18,24])
    (.cond (.tmp 24)
     (.ops [⟨(some 25),none,.mov (.tmp 6)⟩,
       ⟨(some 26),none,.callV (.tmp 25) [(.const (.string ⟨#[32]⟩))]⟩] [5,6,8,16,17,18])
     (.skip)))
    (.ops [⟨(some 27),none,.mov (.tmp 6)⟩,
      ⟨(some 28),none,.mov (.tmp 8)⟩,
      ⟨(some 29),none,.bin .add (.tmp 28) (.const (.int .i64 1))⟩,
      ⟨(some 30),none,.callF 34 [(.tmp 29)]⟩,
      ⟨(some 31),none,.callV (.tmp 27) [(.tmp 30)]⟩] [5,6,16,17,18]))))
   (.ops [⟨(some 32),none,.bin .add (.tmp 18) (.const (.int .i64 1))⟩,
     ⟨(some 18),none,.mov (.tmp 32)⟩] [5,6,16,17,18])))
def c20:AFun:=⟨
 .seq (.ops [⟨(some 2),none,.mov (.const (.string ⟨#[]⟩))⟩,
   ⟨(some 3),none,.mov (.const (.int .i64 0))⟩] [0])
 (.seq (.seq (.ops [⟨(some 9),none,.mov (.tmp 0)⟩,
   ⟨(some 10),none,.mkRow 22 1 1 [(.slice none 0 0)] [(0,1,(.tmp 9))]⟩,
   ⟨(some 11),none,.callF 22 [(.tmp 10)]⟩,
   ⟨(some 4),none,.mov (.tmp 11)⟩] [0,4])
 (.seq (.ops [⟨(some 12),none,.mov (.tmp 4)⟩,
   ⟨(some 13),none,.bin .neq (.tmp 12) (.const (.int .i64 0))⟩] [0,4,13])
 (.cond (.tmp 13)
  (.seq (.ops [⟨(some 14),none,.mov (.tmp 4)⟩,
    ⟨(some 2),none,.mov (.const (.string ⟨#[]⟩))⟩,
    ⟨(some 3),none,.mov (.tmp 14)⟩] [2,3])
  (.ret))
  (.skip))))
 (.seq (.ops [⟨(some 5),none,.alloc 64 [(1,(.pointer none)),(1,(.slice none 0 0))]⟩] [0,5])
 (.seq (.ops [⟨(some 15),none,.mkFn 35 [(.tmp 5)] []⟩,
   ⟨(some 6),none,.mov (.tmp 15)⟩] [0,5,6])
 (.seq (.seq (.ops [⟨(some 16),none,.mov (.tmp 0)⟩,
   ⟨(some 17),none,.len false (.tmp 16)⟩,
   ⟨(some 18),none,.mov (.const (.int .i64 0))⟩] [5,6,16,17,18])
 (.block 0
  (.loop [5,6,16,17,18]
   c20l0)))
 (.seq (.ops [⟨(some 33),none,.callF 36 [(.tmp 5)]⟩,
   ⟨(some 2),none,.mov (.tmp 33)⟩,
   ⟨(some 3),none,.mov (.const (.int .i64 0))⟩] [2,3])
 (.ret)))))),
 34,[(2,none),(3,none)],true⟩
theorem ok20:FunOK Tryz.prog 20 c20:= .code ⟨Tryz.f20,_,c20.code,Tryz.func20,rfl,by kernel_rfl,rfl,by kernel_rfl,by kernel_rfl⟩
/- raddle/thread.Renumber -/
def c21l0:AC:=
 .seq (.ops [⟨(some 22),none,.bin .lss (.tmp 21) (.tmp 20)⟩] [5,6,7,19,20,21,22])
   (.seq (.cond (.tmp 22)
    (.skip)
    (.exit 0))
   (.seq (.block 1
    (.seq (.ops [⟨(some 23),none,.mov (.tmp 21)⟩,
      ⟨(some 24),none,.idxS 1 (.tmp 19) (.tmp 21)⟩,
      ⟨(some 25),none,.load none (.tmp 24)⟩,
      ⟨(some 8),none,.mov (.tmp 23)⟩,
      ⟨(some 9),none,.mov (.tmp 25)⟩] [5,6,7,8,9,19,20,21])
    (.seq (.seq (.ops [⟨(some 26),none,.mov (.tmp 9)⟩,
      ⟨(some 27),none,.idxA 400 1 (.tmp 5) (.tmp 26)⟩,
      ⟨(some 28),none,.load none (.tmp 27)⟩,
      ⟨(some 29),none,.bin .eql (.tmp 28) (.const (.int .i64 0))⟩] [5,6,7,8,9,19,20,21,29])
    (.cond (.tmp 29)
     (.seq (.ops [⟨(some 30),none,.mov (.tmp 6)⟩,
       ⟨(some 31),none,.bin .add (.tmp 30) (.const (.int .i64 1))⟩,
       ⟨(some 6),none,.mov (.tmp 31)⟩] [5,6,7,8,9,19,20,21])
     (.ops [⟨(some 32),none,.mov (.tmp 9)⟩,
       ⟨(some 33),none,.mov (.tmp 6)⟩,
       ⟨(some 34),none,.idxA 400 1 (.tmp 5) (.tmp 32)⟩,
       ⟨none,none,.store 1 (.tmp 34) (.tmp 33)⟩] [5,6,7,8,9,19,20,21]))
     (.skip)))
    (.ops [⟨(some 35),none,.mov (.tmp 7)⟩,
      ⟨(some 36),none,.mov (.tmp 8)⟩,
      ⟨(some 37),none,.mov (.tmp 9)⟩,
      ⟨(some 38),none,.idxA 400 1 (.tmp 5) (.tmp 37)⟩,
      ⟨(some 39),none,.load none (.tmp 38)⟩,
      ⟨(some 40),none,.bin .sub (.tmp 39) (.const (.int .i64 1))⟩,
      ⟨(some 41),none,.idxS 1 (.tmp 35) (.tmp 36)⟩,
      ⟨none,none,.store 1 (.tmp 41) (.tmp 40)⟩] [5,6,7,19,20,21]))))
   (.ops [⟨(some 42),none,.bin .add (.tmp 21) (.const (.int .i64 1))⟩,
     ⟨(some 21),none,.mov (.tmp 42)⟩] [5,6,7,19,20,21])))
def c21:AFun:=⟨
 .seq (.ops [⟨(some 2),none,.mov (.const (.slice none 0 0))⟩,
   ⟨(some 3),none,.mov (.const (.int .i64 0))⟩] [0])
 (.seq (.seq (.ops [⟨(some 10),none,.mov (.tmp 0)⟩,
   ⟨(some 11),none,.mkRow 22 1 1 [(.slice none 0 0)] [(0,1,(.tmp 10))]⟩,
   ⟨(some 12),none,.callF 22 [(.tmp 11)]⟩,
   ⟨(some 4),none,.mov (.tmp 12)⟩] [0,4])
 (.seq (.ops [⟨(some 13),none,.mov (.tmp 4)⟩,
   ⟨(some 14),none,.bin .neq (.tmp 13) (.const (.int .i64 0))⟩] [0,4,14])
 (.cond (.tmp 14)
  (.seq (.ops [⟨(some 15),none,.mov (.tmp 4)⟩,
    ⟨(some 2),none,.mov (.const (.slice none 0 0))⟩,
    ⟨(some 3),none,.mov (.tmp 15)⟩] [2,3])
  (.ret))
  (.skip))))
 (.seq (.ops [⟨(some 5),none,.alloc 66 [(400,(.int .i64 0))]⟩] [0,5])
 (.seq (.ops [⟨(some 6),none,.mov (.const (.int .i64 0))⟩] [0,5,6])
 (.seq (.ops [⟨(some 16),none,.mov (.tmp 0)⟩,
   ⟨(some 17),none,.len false (.tmp 16)⟩,
   ⟨(some 18),none,.mkSlice 3 1 8 [(.int .i64 0)] (.tmp 17) (.tmp 17)⟩,
   ⟨(some 7),none,.mov (.tmp 18)⟩] [0,5,6,7])
 (.seq (.seq (.ops [⟨(some 19),none,.mov (.tmp 0)⟩,
   ⟨(some 20),none,.len false (.tmp 19)⟩,
   ⟨(some 21),none,.mov (.const (.int .i64 0))⟩] [5,6,7,19,20,21])
 (.block 0
  (.loop [5,6,7,19,20,21]
   c21l0)))
 (.seq (.ops [⟨(some 43),none,.mov (.tmp 7)⟩,
   ⟨(some 2),none,.mov (.tmp 43)⟩,
   ⟨(some 3),none,.mov (.const (.int .i64 0))⟩] [2,3])
 (.ret))))))),
 44,[(2,none),(3,none)],true⟩
theorem ok21:FunOK Tryz.prog 21 c21:= .code ⟨Tryz.f21,_,c21.code,Tryz.func21,rfl,by kernel_rfl,rfl,by kernel_rfl,by kernel_rfl⟩
/- raddle/thread.check -/
def c22l0:AC:=
 .seq (.ops [⟨(some 19),none,.bin .lss (.tmp 18) (.tmp 17)⟩] [7,8,9,16,17,18,19])
      (.seq (.cond (.tmp 19)
       (.skip)
       (.exit 2))
      (.seq (.block 3
       (.seq (.ops [⟨(some 20),none,.idxS 1 (.tmp 16) (.tmp 18)⟩,
         ⟨(some 21),none,.load none (.tmp 20)⟩,
         ⟨(some 6),none,.mov (.tmp 21)⟩] [6,7,8,9,16,17,18])
       (.seq (.ops [⟨(some 22),none,.mov (.tmp 6)⟩,
         ⟨(some 23),none,.bin .lss (.tmp 22) (.const (.int .i64 0))⟩,
         ⟨(some 24),none,.mov (.tmp 23)⟩,
         ⟨(some 25),(some (24,false)),.mov (.tmp 6)⟩,
         ⟨(some 26),(some (24,false)),.bin .geq (.tmp 25) (.const (.int .i64 400))⟩,
         ⟨(some 27),none,.pick (.tmp 24) (.const (.bool true)) (.tmp 26)⟩] [7,8,9,16,17,18,27])
       (.cond (.tmp 27)
        (.seq (.ops [⟨(some 2),none,.mov (.const (.int .i64 8))⟩] [2])
        (.ret))
        (.skip)))))
      (.ops [⟨(some 28),none,.bin .add (.tmp 18) (.const (.int .i64 1))⟩,
        ⟨(some 18),none,.mov (.tmp 28)⟩] [7,8,9,16,17,18])))
def c22l1:AC:=
 .seq (.ops [⟨(some 10),none,.bin .lss (.tmp 9) (.tmp 8)⟩] [7,8,9,10])
   (.seq (.cond (.tmp 10)
    (.skip)
    (.exit 0))
   (.seq (.block 1
    (.seq (.ops [⟨(some 11),none,.idxS 1 (.tmp 7) (.tmp 9)⟩,
      ⟨(some 12),none,.load none (.tmp 11)⟩,
      ⟨(some 4),none,.mov (.tmp 12)⟩] [4,7,8,9])
    (.seq (.seq (.ops [⟨(some 13),none,.mov (.tmp 4)⟩,
      ⟨(some 14),none,.len false (.tmp 13)⟩,
      ⟨(some 15),none,.bin .gtr (.tmp 14) (.const (.int .i64 400))⟩] [4,7,8,9,15])
    (.cond (.tmp 15)
     (.seq (.ops [⟨(some 2),none,.mov (.const (.int .i64 4))⟩] [2])
     (.ret))
     (.skip)))
    (.seq (.ops [⟨(some 16),none,.mov (.tmp 4)⟩,
      ⟨(some 17),none,.len false (.tmp 16)⟩,
      ⟨(some 18),none,.mov (.const (.int .i64 0))⟩] [7,8,9,16,17,18])
    (.block 2
     (.loop [7,8,9,16,17,18]
      c22l0))))))
   (.ops [⟨(some 29),none,.bin .add (.tmp 9) (.const (.int .i64 1))⟩,
     ⟨(some 9),none,.mov (.tmp 29)⟩] [7,8,9])))
def c22:AFun:=⟨
 .seq (.ops [⟨(some 2),none,.mov (.const (.int .i64 0))⟩] [0])
 (.seq (.seq (.ops [⟨(some 7),none,.mov (.tmp 0)⟩,
   ⟨(some 8),none,.len false (.tmp 7)⟩,
   ⟨(some 9),none,.mov (.const (.int .i64 0))⟩] [7,8,9])
 (.block 0
  (.loop [7,8,9]
   c22l1)))
 (.seq (.ops [⟨(some 2),none,.mov (.const (.int .i64 0))⟩] [2])
 (.ret))),
 30,[(2,none)],true⟩
theorem ok22:FunOK Tryz.prog 22 c22:= .code ⟨Tryz.f22,_,c22.code,Tryz.func22,rfl,by kernel_rfl,rfl,by kernel_rfl,by kernel_rfl⟩
/- slices.Concat[[]int,int] (1 operations that the interpreter lacks) -/
def c23l0:AC:=
 .seq (.ops [⟨(some 28),none,.bin .lss (.tmp 27) (.tmp 26)⟩] [6,25,26,27,28])
   (.seq (.cond (.tmp 28)
    (.skip)
    (.exit 2))
   (.seq (.block 3
    (.seq (.ops [⟨(some 29),none,.idxS 1 (.tmp 25) (.tmp 27)⟩,
      ⟨(some 30),none,.load none (.tmp 29)⟩,
      ⟨(some 8),none,.mov (.tmp 30)⟩] [6,8,25,26,27])
    (.ops [⟨(some 31),none,.mov (.tmp 6)⟩,
      ⟨(some 32),none,.mov (.tmp 8)⟩,
      ⟨(some 33),none,.app 3 1 8 (.tmp 31) (.tmp 32)⟩,
      ⟨(some 6),none,.mov (.tmp 33)⟩] [6,25,26,27])))
   (.ops [⟨(some 34),none,.bin .add (.tmp 27) (.const (.int .i64 1))⟩,
     ⟨(some 27),none,.mov (.tmp 34)⟩] [6,25,26,27])))
def c23l1:AC:=
 .seq (.ops [⟨(some 12),none,.bin .lss (.tmp 11) (.tmp 10)⟩] [0,3,9,10,11,12])
   (.seq (.cond (.tmp 12)
    (.skip)
    (.exit 0))
   (.seq (.block 1
    (.seq (.ops [⟨(some 13),none,.idxS 1 (.tmp 9) (.tmp 11)⟩,
      ⟨(some 14),none,.load none (.tmp 13)⟩,
      ⟨(some 5),none,.mov (.tmp 14)⟩] [0,3,5,9,10,11])
    (.seq (.ops [⟨(some 15),none,.mov (.tmp 3)⟩,
      ⟨(some 16),none,.mov (.tmp 5)⟩,
      ⟨(some 17),none,.len false (.tmp 16)⟩,
      ⟨(some 18),none,.bin .add (.tmp 15) (.tmp 17)⟩,
      ⟨(some 3),none,.mov (.tmp 18)⟩] [0,3,9,10,11])
    (.seq (.ops [⟨(some 19),none,.mov (.tmp 3)⟩,
      ⟨(some 20),none,.bin .lss (.tmp 19) (.const (.int .i64 0))⟩] [0,3,9,10,11,20])
    (.cond (.tmp 20)
     (.ops [⟨(some 21),none,.mkIf 9 (.const (.string ⟨#[108,101,110,32,111,117,116,32,111,102,32,114,97,110,103,101]⟩))⟩,
       ⟨none,none,.bad⟩] [0,3,9,10,11])
     (.skip))))))
   (.ops [⟨(some 22),none,.bin .add (.tmp 11) (.const (.int .i64 1))⟩,
     ⟨(some 11),none,.mov (.tmp 22)⟩] [0,3,9,10,11])))
def c23:AFun:=⟨
 .seq (.ops [⟨(some 2),none,.mov (.const (.slice none 0 0))⟩] [0])
 (.seq (.ops [⟨(some 3),none,.mov (.const (.int .i64 0))⟩] [0,3])
 (.seq (.seq (.ops [⟨(some 9),none,.mov (.tmp 0)⟩,
   ⟨(some 10),none,.len false (.tmp 9)⟩,
   ⟨(some 11),none,.mov (.const (.int .i64 0))⟩] [0,3,9,10,11])
 (.block 0
  (.loop [0,3,9,10,11]
   c23l1)))
 (.seq (.ops [⟨(some 23),none,.mov (.tmp 3)⟩,
   ⟨(some 24),none,.callF 37 [(.const (.slice none 0 0)),(.tmp 23)]⟩,
   ⟨(some 6),none,.mov (.tmp 24)⟩] [0,6])
 (.seq (.seq (.ops [⟨(some 25),none,.mov (.tmp 0)⟩,
   ⟨(some 26),none,.len false (.tmp 25)⟩,
   ⟨(some 27),none,.mov (.const (.int .i64 0))⟩] [6,25,26,27])
 (.block 2
  (.loop [6,25,26,27]
   c23l0)))
 (.seq (.ops [⟨(some 35),none,.mov (.tmp 6)⟩,
   ⟨(some 2),none,.mov (.tmp 35)⟩] [2])
 (.ret)))))),
 36,[(2,none)],true⟩
theorem ok23:FunOK Tryz.prog 23 c23:= .code ⟨Tryz.f23,_,c23.code,Tryz.func23,rfl,by kernel_rfl,rfl,by kernel_rfl,by kernel_rfl⟩
/- slices.Clone[[]int,int] -/
def c24:AFun:=⟨
 .seq (.ops [⟨(some 2),none,.mov (.const (.slice none 0 0))⟩] [0])
 (.seq (.seq (.ops [⟨(some 3),none,.mov (.tmp 0)⟩,
   ⟨(some 4),none,.eqNil 1 false (.tmp 3) (.const (.slice none 0 0))⟩] [0,4])
 (.cond (.tmp 4)
  (.seq (.ops [⟨(some 2),none,.mov (.const (.slice none 0 0))⟩] [2])
  (.ret))
  (.skip)))
 (.seq (.ops [⟨(some 5),none,.mkRow 3 1 0 [(.int .i64 0)] []⟩,
   ⟨(some 6),none,.mov (.tmp 0)⟩,
   ⟨(some 7),none,.app 3 1 8 (.tmp 5) (.tmp 6)⟩,
   ⟨(some 2),none,.mov (.tmp 7)⟩] [2])
 (.ret))),
 8,[(2,none)],true⟩
theorem ok24:FunOK Tryz.prog 24 c24:= .code ⟨Tryz.f24,_,c24.code,Tryz.func24,rfl,by kernel_rfl,rfl,by kernel_rfl,by kernel_rfl⟩
/- slices.Reverse[[]int,int] -/
def c25l0:AC:=
 .seq (.seq (.ops [⟨(some 7),none,.mov (.tmp 2)⟩,
     ⟨(some 8),none,.mov (.tmp 3)⟩,
     ⟨(some 9),none,.bin .lss (.tmp 7) (.tmp 8)⟩] [0,2,3,9])
   (.cond (.tmp 9)
    (.skip)
    (.exit 0)))
   (.seq (.block 1
    (.drawW [⟨⟨(some 14),none,.mov (.tmp 0)⟩,[],none⟩,
      ⟨⟨(some 15),none,.mov (.tmp 2)⟩,[0],none⟩,
      ⟨⟨(some 16),none,.mov (.tmp 0)⟩,[0,1],none⟩,
      ⟨⟨(some 17),none,.mov (.tmp 3)⟩,[0,1,2],none⟩,
      ⟨⟨(some 18),none,.mov (.tmp 0)⟩,[0,1,2,3],none⟩,
      ⟨⟨(some 19),none,.mov (.tmp 3)⟩,[0,1,2,3,4],none⟩,
      ⟨⟨(some 20),none,.idxS 1 (.tmp 18) (.tmp 19)⟩,[0,1,2,3],none⟩,
      ⟨⟨(some 21),none,.load none (.tmp 20)⟩,[0,1,2,3],none⟩,
      ⟨⟨(some 22),none,.mov (.tmp 0)⟩,[0,1,2,3,4,5,6,7],none⟩,
      ⟨⟨(some 23),none,.mov (.tmp 2)⟩,[0,1,2,3,4,5,6,7,8],none⟩,
      ⟨⟨(some 24),none,.idxS 1 (.tmp 22) (.tmp 23)⟩,[0,1,2,3,4,5,6,7],none⟩,
      ⟨⟨(some 25),none,.load none (.tmp 24)⟩,[0,1,2,3,4,5,6,7],none⟩,
      ⟨⟨(some 26),none,.idxS 1 (.tmp 14) (.tmp 15)⟩,[2,3],none⟩,
      ⟨⟨none,none,.store 1 (.tmp 26) (.tmp 21)⟩,[2,3],none⟩] [⟨(some 27),none,.idxS 1 (.tmp 16) (.tmp 17)⟩,
      ⟨none,none,.store 1 (.tmp 27) (.tmp 25)⟩] [0,2,3]))
   (.ops [⟨(some 10),none,.mov (.tmp 2)⟩,
     ⟨(some 11),none,.bin .add (.tmp 10) (.const (.int .i64 1))⟩,
     ⟨(some 12),none,.mov (.tmp 3)⟩,
     ⟨(some 13),none,.bin .sub (.tmp 12) (.const (.int .i64 1))⟩,
     ⟨(some 2),none,.mov (.tmp 11)⟩,
     ⟨(some 3),none,.mov (.tmp 13)⟩] [0,2,3]))
def c25:AFun:=⟨
 .seq (.ops [⟨(some 4),none,.mov (.tmp 0)⟩,
   ⟨(some 5),none,.len false (.tmp 4)⟩,
   ⟨(some 6),none,.bin .sub (.tmp 5) (.const (.int .i64 1))⟩,
   ⟨(some 2),none,.mov (.const (.int .i64 0))⟩,
   ⟨(some 3),none,.mov (.tmp 6)⟩] [0,2,3])
 (.block 0
  (.loop [0,2,3]
   c25l0)),
 28,[],false⟩
theorem ok25:FunOK Tryz.prog 25 c25:= .code ⟨Tryz.f25,_,c25.code,Tryz.func25,rfl,by kernel_rfl,rfl,by kernel_rfl,by kernel_rfl⟩
/- slices.Repeat[[]int,int] (2 operations that the interpreter lacks) -/
def c26l0:AC:=
 .seq (.seq (.ops [⟨(some 34),none,.mov (.tmp 8)⟩,
     ⟨(some 35),none,.mov (.tmp 7)⟩,
     ⟨(some 36),none,.len false (.tmp 35)⟩,
     ⟨(some 37),none,.bin .lss (.tmp 34) (.tmp 36)⟩] [7,8,37])
   (.cond (.tmp 37)
    (.skip)
    (.exit 0)))
   (.block 1
    (.drawW [⟨⟨(some 38),none,.mov (.tmp 8)⟩,[],none⟩,
      ⟨⟨(some 39),none,.mov (.tmp 7)⟩,[0],none⟩,
      ⟨⟨(some 40),none,.mov (.tmp 8)⟩,[0,1],none⟩,
      ⟨⟨(some 41),none,.slc 1 (.tmp 39) (some (.tmp 40)) none none⟩,[0],none⟩,
      ⟨⟨(some 42),none,.mov (.tmp 7)⟩,[0,1,2,3],none⟩,
      ⟨⟨(some 43),none,.mov (.tmp 8)⟩,[0,1,2,3,4],none⟩,
      ⟨⟨(some 44),none,.slc 1 (.tmp 42) none (some (.tmp 43)) none⟩,[0,1,2,3],none⟩,
      ⟨⟨(some 45),none,.copy 1 (.tmp 41) (.tmp 44)⟩,[0],none⟩] [⟨(some 46),none,.bin .add (.tmp 38) (.tmp 45)⟩,
      ⟨(some 8),none,.mov (.tmp 46)⟩] [7,8]))
def c26:AFun:=⟨
 .seq (.ops [⟨(some 4),none,.mov (.const (.slice none 0 0))⟩] [0,1])
 (.seq (.seq (.ops [⟨(some 9),none,.mov (.tmp 1)⟩,
   ⟨(some 10),none,.bin .lss (.tmp 9) (.const (.int .i64 0))⟩] [0,1,10])
 (.cond (.tmp 10)
  (.ops [⟨(some 11),none,.mkIf 9 (.const (.string ⟨#[99,97,110,110,111,116,32,98,101,32,110,101,103,97,116,105,118,101]⟩))⟩,
    ⟨none,none,.bad⟩] [0,1])
  (.skip)))
 (.seq (.ops [⟨(some 13),none,.mov (.tmp 0)⟩,
   ⟨(some 14),none,.len false (.tmp 13)⟩,
   ⟨(some 15),none,.convI .u64 (.tmp 14)⟩,
   ⟨(some 16),none,.mov (.tmp 1)⟩,
   ⟨(some 17),none,.convI .u64 (.tmp 16)⟩,
   ⟨(some 18),none,.callF 38 [(.tmp 15),(.tmp 17)]⟩,
   ⟨(some 12),none,.mov (.tmp 18)⟩,
   ⟨(some 19),none,.ext (.tmp 12) 0⟩,
   ⟨(some 20),none,.ext (.tmp 12) 1⟩,
   ⟨(some 5),none,.mov (.tmp 19)⟩,
   ⟨(some 6),none,.mov (.tmp 20)⟩] [0,5,6])
 (.seq (.seq (.ops [⟨(some 21),none,.mov (.tmp 5)⟩,
   ⟨(some 22),none,.bin .gtr (.tmp 21) (.const (.int .u64 0))⟩,
   ⟨(some 23),none,.mov (.tmp 22)⟩,
   ⟨(some 24),(some (23,false)),.mov (.tmp 6)⟩,
   ⟨(some 25),(some (23,false)),.bin .gtr (.tmp 24) (.const (.int .u64 9223372036854775807))⟩,
   ⟨(some 26),none,.pick (.tmp 23) (.const (.bool true)) (.tmp 25)⟩] [0,6,26])
 (.cond (.tmp 26)
  (.ops [⟨(some 27),none,.mkIf 9 (.const (.string ⟨#[116,104,101,32,114,101,115,117,108,116,32,111,102,32,40,108,101,110,40,120,41,32,42,32,99,111,117,110,116,41,32,111,118,101,114,102,108,111,119,115]⟩))⟩,
    ⟨none,none,.bad⟩] [0,6])
  (.skip)))
 (.seq (.ops [⟨(some 28),none,.mov (.tmp 6)⟩,
   ⟨(some 29),none,.convI .i64 (.tmp 28)⟩,
   ⟨(some 30),none,.mkSlice 3 1 8 [(.int .i64 0)] (.tmp 29) (.tmp 29)⟩,
   ⟨(some 7),none,.mov (.tmp 30)⟩] [0,7])
 (.seq (.ops [⟨(some 31),none,.mov (.tmp 7)⟩,
   ⟨(some 32),none,.mov (.tmp 0)⟩,
   ⟨(some 33),none,.copy 1 (.tmp 31) (.tmp 32)⟩,
   ⟨(some 8),none,.mov (.tmp 33)⟩] [7,8])
 (.seq (.block 0
  (.loop [7,8]
   c26l0))
 (.seq (.ops [⟨(some 47),none,.mov (.tmp 7)⟩,
   ⟨(some 4),none,.mov (.tmp 47)⟩] [4])
 (.ret)))))))),
 48,[(4,none)],true⟩
theorem ok26:FunOK Tryz.prog 26 c26:= .code ⟨Tryz.f26,_,c26.code,Tryz.func26,rfl,by kernel_rfl,rfl,by kernel_rfl,by kernel_rfl⟩
/- slices.Sorted[int] -/
def c27:AFun:=⟨
 .seq (.ops [⟨(some 2),none,.mov (.const (.slice none 0 0))⟩] [0])
 (.seq (.ops [⟨(some 4),none,.mov (.tmp 0)⟩,
   ⟨(some 5),none,.callF 39 [(.tmp 4)]⟩,
   ⟨(some 3),none,.mov (.tmp 5)⟩] [3])
 (.seq (.ops [⟨(some 6),none,.mov (.tmp 3)⟩,
   ⟨(some 7),none,.callF 40 [(.tmp 6)]⟩] [3])
 (.seq (.ops [⟨(some 8),none,.mov (.tmp 3)⟩,
   ⟨(some 2),none,.mov (.tmp 8)⟩] [2])
 (.ret)))),
 9,[(2,none)],false⟩
theorem ok27:FunOK Tryz.prog 27 c27:= .code ⟨Tryz.f27,_,c27.code,Tryz.func27,rfl,by kernel_rfl,rfl,by kernel_rfl,by kernel_rfl⟩
/- slices.Values[[]int,int] -/
def c28:AFun:=⟨
 .seq (.ops [⟨(some 1),none,.box 22 (.tmp 0)⟩,
   ⟨(some 2),none,.mov (.const .nilFunc)⟩] [1])
 (.seq (.ops [⟨(some 3),none,.mkFn 41 [] [(.tmp 1)]⟩,
   ⟨(some 2),none,.mov (.tmp 3)⟩] [2])
 (.ret)),
 4,[(2,none)],true⟩
theorem ok28:FunOK Tryz.prog 28 c28:= .code ⟨Tryz.f28,_,c28.code,Tryz.func28,rfl,by kernel_rfl,rfl,by kernel_rfl,by kernel_rfl⟩
/- raddle/thread.ranged -/
def c30:AFun:=⟨
 .seq (.ops [⟨(some 4),none,.mov (.const (.bool false))⟩] [0,1])
 (.seq (.ops [⟨(some 5),none,.mov (.tmp 0)⟩,
   ⟨(some 6),none,.bin .geq (.tmp 5) (.const (.int .i64 1))⟩,
   ⟨(some 7),none,.mov (.tmp 6)⟩,
   ⟨(some 8),(some (7,true)),.mov (.tmp 1)⟩,
   ⟨(some 9),(some (7,true)),.bin .geq (.tmp 8) (.const (.int .i64 0))⟩,
   ⟨(some 10),none,.pick (.tmp 7) (.tmp 9) (.const (.bool false))⟩,
   ⟨(some 11),none,.mov (.tmp 10)⟩,
   ⟨(some 12),(some (11,true)),.mov (.tmp 0)⟩,
   ⟨(some 13),(some (11,true)),.mov (.tmp 1)⟩,
   ⟨(some 14),(some (11,true)),.mm true (.tmp 12) (.tmp 13)⟩,
   ⟨(some 15),(some (11,true)),.bin .leq (.tmp 14) (.const (.int .i64 400))⟩,
   ⟨(some 16),none,.pick (.tmp 11) (.tmp 15) (.const (.bool false))⟩,
   ⟨(some 4),none,.mov (.tmp 16)⟩] [4])
 (.ret)),
 17,[(4,none)],true⟩
theorem ok30:FunOK Tryz.prog 30 c30:= .code ⟨Tryz.f30,_,c30.code,Tryz.func30,rfl,by kernel_rfl,rfl,by kernel_rfl,by kernel_rfl⟩
/- slices.Max[[]int,int] (1 operations that the interpreter lacks) -/
def c31l0:AC:=
 .seq (.seq (.ops [⟨(some 12),none,.mov (.tmp 4)⟩,
     ⟨(some 13),none,.mov (.tmp 0)⟩,
     ⟨(some 14),none,.len false (.tmp 13)⟩,
     ⟨(some 15),none,.bin .lss (.tmp 12) (.tmp 14)⟩] [0,3,4,15])
   (.cond (.tmp 15)
    (.skip)
    (.exit 0)))
   (.seq (.block 1
    (.ops [⟨(some 18),none,.mov (.tmp 3)⟩,
      ⟨(some 19),none,.mov (.tmp 0)⟩,
      ⟨(some 20),none,.mov (.tmp 4)⟩,
      ⟨(some 21),none,.idxS 1 (.tmp 19) (.tmp 20)⟩,
      ⟨(some 22),none,.load none (.tmp 21)⟩,
      ⟨(some 23),none,.mm true (.tmp 18) (.tmp 22)⟩,
      ⟨(some 3),none,.mov (.tmp 23)⟩] [0,3,4]))
   (.ops [⟨(some 16),none,.mov (.tmp 4)⟩,
     ⟨(some 17),none,.bin .add (.tmp 16) (.const (.int .i64 1))⟩,
     ⟨(some 4),none,.mov (.tmp 17)⟩] [0,3,4]))
def c31:AFun:=⟨
 .seq (.ops [⟨(some 2),none,.mov (.const (.int .i64 0))⟩] [0])
 (.seq (.seq (.ops [⟨(some 5),none,.mov (.tmp 0)⟩,
   ⟨(some 6),none,.len false (.tmp 5)⟩,
   ⟨(some 7),none,.bin .lss (.tmp 6) (.const (.int .i64 1))⟩] [0,7])
 (.cond (.tmp 7)
  (.ops [⟨(some 8),none,.mkIf 9 (.const (.string ⟨#[115,108,105,99,101,115,46,77,97,120,58,32,101,109,112,116,121,32,108,105,115,116]⟩))⟩,
    ⟨none,none,.bad⟩] [0])
  (.skip)))
 (.seq (.ops [⟨(some 9),none,.mov (.tmp 0)⟩,
   ⟨(some 10),none,.idxS 1 (.tmp 9) (.const (.int .i64 0))⟩,
   ⟨(some 11),none,.load none (.tmp 10)⟩,
   ⟨(some 3),none,.mov (.tmp 11)⟩] [0,3])
 (.seq (.seq (.ops [⟨(some 4),none,.mov (.const (.int .i64 1))⟩] [0,3,4])
 (.block 0
  (.loop [0,3,4]
   c31l0)))
 (.seq (.ops [⟨(some 24),none,.mov (.tmp 3)⟩,
   ⟨(some 2),none,.mov (.tmp 24)⟩] [2])
 (.ret))))),
 25,[(2,none)],true⟩
theorem ok31:FunOK Tryz.prog 31 c31:= .code ⟨Tryz.f31,_,c31.code,Tryz.func31,rfl,by kernel_rfl,rfl,by kernel_rfl,by kernel_rfl⟩
/- strings.SplitSeq -/
def c32:AFun:=⟨
 .seq (.ops [⟨(some 4),none,.mov (.const .nilFunc)⟩] [0,1])
 (.seq (.ops [⟨(some 5),none,.mov (.tmp 0)⟩,
   ⟨(some 6),none,.mov (.tmp 1)⟩,
   ⟨(some 7),none,.callF 42 [(.tmp 5),(.tmp 6),(.const (.int .i64 0))]⟩,
   ⟨(some 4),none,.mov (.tmp 7)⟩] [4])
 (.ret)),
 8,[(4,none)],true⟩
theorem ok32:FunOK Tryz.prog 32 c32:= .code ⟨Tryz.f32,_,c32.code,Tryz.func32,rfl,by kernel_rfl,rfl,by kernel_rfl,by kernel_rfl⟩
/- (*strings.Builder).WriteString -/
def c35:AFun:=⟨
 .seq (.ops [⟨(some 4),none,.mov (.const (.int .i64 0))⟩,
   ⟨(some 5),none,.mov (.const .nilIface)⟩] [0,1])
 (.seq (.ops [⟨(some 6),none,.mov (.tmp 0)⟩,
   ⟨(some 7),none,.callF 46 [(.tmp 6)]⟩] [0,1])
 (.seq (.ops [⟨(some 8),none,.mov (.tmp 0)⟩,
   ⟨(some 9),none,.mov (.tmp 0)⟩,
   ⟨(some 10),none,.nilChk (.tmp 9)⟩,
   ⟨(some 11),none,.fldA 1 (.tmp 10)⟩,
   ⟨(some 12),none,.load none (.tmp 11)⟩,
   ⟨(some 13),none,.mov (.tmp 1)⟩,
   ⟨(some 14),none,.app 5 1 1 (.tmp 12) (.tmp 13)⟩,
   ⟨(some 15),none,.nilChk (.tmp 8)⟩,
   ⟨(some 16),none,.fldA 1 (.tmp 15)⟩,
   ⟨none,none,.store 1 (.tmp 16) (.tmp 14)⟩] [1])
 (.seq (.ops [⟨(some 17),none,.mov (.tmp 1)⟩,
   ⟨(some 18),none,.len true (.tmp 17)⟩,
   ⟨(some 4),none,.mov (.tmp 18)⟩,
   ⟨(some 5),none,.mov (.const .nilIface)⟩] [4,5])
 (.ret)))),
 19,[(4,none),(5,none)],false⟩
theorem ok35:FunOK Tryz.prog 35 c35:= .code ⟨Tryz.f35,_,c35.code,Tryz.func35,rfl,by kernel_rfl,rfl,by kernel_rfl,by kernel_rfl⟩
/- (*strings.Builder).String -/
def c36:AFun:=⟨
 .seq (.ops [⟨(some 2),none,.mov (.const (.string ⟨#[]⟩))⟩] [0])
 (.seq (.draw [⟨(some 3),none,.mov (.tmp 0)⟩,
   ⟨(some 4),none,.nilChk (.tmp 3)⟩,
   ⟨(some 5),none,.fldA 1 (.tmp 4)⟩,
   ⟨(some 6),none,.load none (.tmp 5)⟩,
   ⟨(some 7),none,.sdata (.tmp 6)⟩,
   ⟨(some 8),none,.mov (.tmp 0)⟩,
   ⟨(some 9),none,.nilChk (.tmp 8)⟩,
   ⟨(some 10),none,.fldA 1 (.tmp 9)⟩,
   ⟨(some 11),none,.load none (.tmp 10)⟩,
   ⟨(some 12),none,.len false (.tmp 11)⟩] [⟨(some 13),none,.ustr 5 (.tmp 7) (.tmp 12)⟩,
   ⟨(some 2),none,.mov (.tmp 13)⟩] [[],[],[],[],[],[],[],[],[],[]] [2])
 (.ret)),
 14,[(2,none)],false⟩
theorem ok36:FunOK Tryz.prog 36 c36:= .code ⟨Tryz.f36,_,c36.code,Tryz.func36,rfl,by kernel_rfl,rfl,by kernel_rfl,by kernel_rfl⟩
/- slices.Grow[[]int,int] (1 operations that the interpreter lacks) -/
def c37:AFun:=⟨
 .seq (.ops [⟨(some 4),none,.mov (.const (.slice none 0 0))⟩] [0,1])
 (.seq (.seq (.ops [⟨(some 5),none,.mov (.tmp 1)⟩,
   ⟨(some 6),none,.bin .lss (.tmp 5) (.const (.int .i64 0))⟩] [0,1,6])
 (.cond (.tmp 6)
  (.ops [⟨(some 7),none,.mkIf 9 (.const (.string ⟨#[99,97,110,110,111,116,32,98,101,32,110,101,103,97,116,105,118,101]⟩))⟩,
    ⟨none,none,.bad⟩] [0,1])
  (.skip)))
 (.seq (.seq (.ops [⟨(some 8),none,.mov (.tmp 1)⟩,
   ⟨(some 9),none,.mov (.tmp 0)⟩,
   ⟨(some 10),none,.cap (.tmp 9)⟩,
   ⟨(some 11),none,.mov (.tmp 0)⟩,
   ⟨(some 12),none,.len false (.tmp 11)⟩,
   ⟨(some 13),none,.bin .sub (.tmp 10) (.tmp 12)⟩,
   ⟨(some 14),none,.bin .sub (.tmp 8) (.tmp 13)⟩,
   ⟨(some 1),none,.mov (.tmp 14)⟩] [0,1])
 (.seq (.ops [⟨(some 15),none,.mov (.tmp 1)⟩,
   ⟨(some 16),none,.bin .gtr (.tmp 15) (.const (.int .i64 0))⟩] [0,1,16])
 (.cond (.tmp 16)
  (.ops [⟨(some 17),none,.mov (.tmp 0)⟩,
    ⟨(some 18),none,.mov (.tmp 0)⟩,
    ⟨(some 19),none,.cap (.tmp 18)⟩,
    ⟨(some 20),none,.slc 1 (.tmp 17) none (some (.tmp 19)) none⟩,
    ⟨(some 21),none,.mov (.tmp 1)⟩,
    ⟨(some 22),none,.appMk 3 1 8 [(.int .i64 0)] (.tmp 20) (.tmp 21)⟩,
    ⟨(some 23),none,.mov (.tmp 0)⟩,
    ⟨(some 24),none,.len false (.tmp 23)⟩,
    ⟨(some 25),none,.slc 1 (.tmp 22) none (some (.tmp 24)) none⟩,
    ⟨(some 0),none,.mov (.tmp 25)⟩] [0])
  (.skip))))
 (.seq (.ops [⟨(some 26),none,.mov (.tmp 0)⟩,
   ⟨(some 4),none,.mov (.tmp 26)⟩] [4])
 (.ret)))),
 27,[(4,none)],true⟩
theorem ok37:FunOK Tryz.prog 37 c37:= .code ⟨Tryz.f37,_,c37.code,Tryz.func37,rfl,by kernel_rfl,rfl,by kernel_rfl,by kernel_rfl⟩
/- math/bits.Mul -/
def c38:AFun:=⟨
 .seq (.ops [⟨(some 4),none,.mov (.const (.int .u64 0))⟩,
   ⟨(some 5),none,.mov (.const (.int .u64 0))⟩] [0,1])
 (.seq (.cond (.const (.bool false))
  (.seq (.ops [⟨(some 11),none,.mov (.tmp 0)⟩,
    ⟨(some 12),none,.convI .u32 (.tmp 11)⟩,
    ⟨(some 13),none,.mov (.tmp 1)⟩,
    ⟨(some 14),none,.convI .u32 (.tmp 13)⟩,
    ⟨(some 15),none,.callF 47 [(.tmp 12),(.tmp 14)]⟩,
    ⟨(some 10),none,.mov (.tmp 15)⟩,
    ⟨(some 16),none,.ext (.tmp 10) 0⟩,
    ⟨(some 17),none,.ext (.tmp 10) 1⟩,
    ⟨(some 6),none,.mov (.tmp 16)⟩,
    ⟨(some 7),none,.mov (.tmp 17)⟩] [6,7])
  (.seq (.ops [⟨(some 18),none,.mov (.tmp 6)⟩,
    ⟨(some 19),none,.convI .u64 (.tmp 18)⟩,
    ⟨(some 20),none,.mov (.tmp 7)⟩,
    ⟨(some 21),none,.convI .u64 (.tmp 20)⟩,
    ⟨(some 4),none,.mov (.tmp 19)⟩,
    ⟨(some 5),none,.mov (.tmp 21)⟩] [4,5])
  (.ret)))
  (.skip))
 (.seq (.ops [⟨(some 23),none,.mov (.tmp 0)⟩,
   ⟨(some 24),none,.mov (.tmp 1)⟩,
   ⟨(some 25),none,.callF 48 [(.tmp 23),(.tmp 24)]⟩,
   ⟨(some 22),none,.mov (.tmp 25)⟩,
   ⟨(some 26),none,.ext (.tmp 22) 0⟩,
   ⟨(some 27),none,.ext (.tmp 22) 1⟩,
   ⟨(some 8),none,.mov (.tmp 26)⟩,
   ⟨(some 9),none,.mov (.tmp 27)⟩] [8,9])
 (.seq (.ops [⟨(some 28),none,.mov (.tmp 8)⟩,
   ⟨(some 29),none,.mov (.tmp 9)⟩,
   ⟨(some 4),none,.mov (.tmp 28)⟩,
   ⟨(some 5),none,.mov (.tmp 29)⟩] [4,5])
 (.ret)))),
 30,[(4,none),(5,none)],true⟩
theorem ok38:FunOK Tryz.prog 38 c38:= .code ⟨Tryz.f38,_,c38.code,Tryz.func38,rfl,by kernel_rfl,rfl,by kernel_rfl,by kernel_rfl⟩
/- slices.Collect[int] -/
def c39:AFun:=⟨
 .seq (.ops [⟨(some 2),none,.mov (.const (.slice none 0 0))⟩] [0])
 (.seq (.ops [⟨(some 3),none,.mov (.tmp 0)⟩,
   ⟨(some 4),none,.callF 49 [(.const (.slice none 0 0)),(.tmp 3)]⟩,
   ⟨(some 2),none,.mov (.tmp 4)⟩] [2])
 (.ret)),
 5,[(2,none)],false⟩
theorem ok39:FunOK Tryz.prog 39 c39:= .code ⟨Tryz.f39,_,c39.code,Tryz.func39,rfl,by kernel_rfl,rfl,by kernel_rfl,by kernel_rfl⟩
/- slices.Values[[]int,int]$1 -/
def c41l0:AC:=
 .seq (.ops [⟨(some 8),none,.bin .lss (.tmp 7) (.tmp 6)⟩] [0,5,6,7,8])
   (.seq (.cond (.tmp 8)
    (.skip)
    (.exit 0))
   (.seq (.block 1
    (.seq (.ops [⟨(some 9),none,.idxS 1 (.tmp 5) (.tmp 7)⟩,
      ⟨(some 10),none,.load none (.tmp 9)⟩,
      ⟨(some 4),none,.mov (.tmp 10)⟩] [0,4,5,6,7])
    (.seq (.ops [⟨(some 11),none,.mov (.tmp 0)⟩,
      ⟨(some 12),none,.mov (.tmp 4)⟩,
      ⟨(some 13),none,.callV (.tmp 11) [(.tmp 12)]⟩,
      ⟨(some 14),none,.un .not (.tmp 13)⟩] [0,5,6,7,14])
    (.cond (.tmp 14)
     (.ret)
     (.skip)))))
   (.ops [⟨(some 15),none,.bin .add (.tmp 7) (.const (.int .i64 1))⟩,
     ⟨(some 7),none,.mov (.tmp 15)⟩] [0,5,6,7])))
def c41:AFun:=⟨
 .seq (.ops [⟨(some 5),none,.load none (.tmp 1)⟩,
   ⟨(some 6),none,.len false (.tmp 5)⟩,
   ⟨(some 7),none,.mov (.const (.int .i64 0))⟩] [0,5,6,7])
 (.block 0
  (.loop [0,5,6,7]
   c41l0)),
 16,[],false⟩
theorem ok41:FunOK Tryz.prog 41 c41:= .code ⟨Tryz.f41,_,c41.code,Tryz.func41,rfl,by kernel_rfl,rfl,by kernel_rfl,by kernel_rfl⟩
/- strings.splitSeq -/
def c42:AFun:=⟨
 .seq (.ops [⟨(some 3),none,.box 9 (.tmp 0)⟩,
   ⟨(some 4),none,.box 9 (.tmp 1)⟩,
   ⟨(some 5),none,.box 3 (.tmp 2)⟩,
   ⟨(some 6),none,.mov (.const .nilFunc)⟩] [3,4,5])
 (.seq (.ops [⟨(some 7),none,.mkFn 52 [] [(.tmp 4),(.tmp 3),(.tmp 5)]⟩,
   ⟨(some 6),none,.mov (.tmp 7)⟩] [6])
 (.ret)),
 8,[(6,none)],true⟩
theorem ok42:FunOK Tryz.prog 42 c42:= .code ⟨Tryz.f42,_,c42.code,Tryz.func42,rfl,by kernel_rfl,rfl,by kernel_rfl,by kernel_rfl⟩
/- (*strings.Builder).copyCheck (1 operations that the interpreter lacks) -/
def c46:AFun:=⟨
 .seq (.ops [⟨(some 2),none,.mov (.tmp 0)⟩,
   ⟨(some 3),none,.nilChk (.tmp 2)⟩,
   ⟨(some 4),none,.fldA 0 (.tmp 3)⟩,
   ⟨(some 5),none,.load none (.tmp 4)⟩,
   ⟨(some 6),none,.eqNil 0 false (.tmp 5) (.const (.pointer none))⟩] [0,6])
 (.cond (.tmp 6)
  (.ops [⟨(some 7),none,.mov (.tmp 0)⟩,
    ⟨(some 8),none,.mov (.tmp 0)⟩,
    ⟨(some 9),none,.toUns (.tmp 8)⟩,
    ⟨(some 10),none,.callF 61 [(.tmp 9)]⟩,
    ⟨(some 11),none,.fromUns 64 2 (.tmp 10)⟩,
    ⟨(some 12),none,.nilChk (.tmp 7)⟩,
    ⟨(some 13),none,.fldA 0 (.tmp 12)⟩,
    ⟨none,none,.store 1 (.tmp 13) (.tmp 11)⟩] [])
  (.seq (.ops [⟨(some 14),none,.mov (.tmp 0)⟩,
    ⟨(some 15),none,.nilChk (.tmp 14)⟩,
    ⟨(some 16),none,.fldA 0 (.tmp 15)⟩,
    ⟨(some 17),none,.load none (.tmp 16)⟩,
    ⟨(some 18),none,.mov (.tmp 0)⟩,
    ⟨(some 19),none,.eqPtr true (.tmp 17) (.tmp 18)⟩] [19])
  (.cond (.tmp 19)
   (.bad)
   (.skip)))),
 20,[],false⟩
theorem ok46:FunOK Tryz.prog 46 c46:= .code ⟨Tryz.f46,_,c46.code,Tryz.func46,rfl,by kernel_rfl,rfl,by kernel_rfl,by kernel_rfl⟩
/- math/bits.Mul32 -/
def c47:AFun:=⟨
 .seq (.ops [⟨(some 4),none,.mov (.const (.int .u32 0))⟩,
   ⟨(some 5),none,.mov (.const (.int .u32 0))⟩] [0,1])
 (.seq (.ops [⟨(some 7),none,.mov (.tmp 0)⟩,
   ⟨(some 8),none,.convI .u64 (.tmp 7)⟩,
   ⟨(some 9),none,.mov (.tmp 1)⟩,
   ⟨(some 10),none,.convI .u64 (.tmp 9)⟩,
   ⟨(some 11),none,.bin .mul (.tmp 8) (.tmp 10)⟩,
   ⟨(some 6),none,.mov (.tmp 11)⟩] [6])
 (.seq (.ops [⟨(some 12),none,.mov (.tmp 6)⟩,
   ⟨(some 13),none,.bin .shr (.tmp 12) (.const (.int .u64 32))⟩,
   ⟨(some 14),none,.convI .u32 (.tmp 13)⟩,
   ⟨(some 15),none,.mov (.tmp 6)⟩,
   ⟨(some 16),none,.convI .u32 (.tmp 15)⟩,
   ⟨(some 4),none,.mov (.tmp 14)⟩,
   ⟨(some 5),none,.mov (.tmp 16)⟩] [4,5])
 (.ret))),
 17,[(4,none),(5,none)],true⟩
theorem ok47:FunOK Tryz.prog 47 c47:= .code ⟨Tryz.f47,_,c47.code,Tryz.func47,rfl,by kernel_rfl,rfl,by kernel_rfl,by kernel_rfl⟩
/- math/bits.Mul64 -/
def c48:AFun:=⟨
 .seq (.ops [⟨(some 4),none,.mov (.const (.int .u64 0))⟩,
   ⟨(some 5),none,.mov (.const (.int .u64 0))⟩] [0,1])
 (.seq (.ops [⟨(some 14),none,.mov (.tmp 0)⟩,
   ⟨(some 15),none,.bin .and (.tmp 14) (.const (.int .u64 4294967295))⟩,
   ⟨(some 6),none,.mov (.tmp 15)⟩] [0,1,6])
 (.seq (.ops [⟨(some 16),none,.mov (.tmp 0)⟩,
   ⟨(some 17),none,.bin .shr (.tmp 16) (.const (.int .u64 32))⟩,
   ⟨(some 7),none,.mov (.tmp 17)⟩] [0,1,6,7])
 (.seq (.ops [⟨(some 18),none,.mov (.tmp 1)⟩,
   ⟨(some 19),none,.bin .and (.tmp 18) (.const (.int .u64 4294967295))⟩,
   ⟨(some 8),none,.mov (.tmp 19)⟩] [0,1,6,7,8])
 (.seq (.ops [⟨(some 20),none,.mov (.tmp 1)⟩,
   ⟨(some 21),none,.bin .shr (.tmp 20) (.const (.int .u64 32))⟩,
   ⟨(some 9),none,.mov (.tmp 21)⟩] [0,1,6,7,8,9])
 (.seq (.ops [⟨(some 22),none,.mov (.tmp 6)⟩,
   ⟨(some 23),none,.mov (.tmp 8)⟩,
   ⟨(some 24),none,.bin .mul (.tmp 22) (.tmp 23)⟩,
   ⟨(some 10),none,.mov (.tmp 24)⟩] [0,1,6,7,8,9,10])
 (.seq (.ops [⟨(some 25),none,.mov (.tmp 7)⟩,
   ⟨(some 26),none,.mov (.tmp 8)⟩,
   ⟨(some 27),none,.bin .mul (.tmp 25) (.tmp 26)⟩,
   ⟨(some 28),none,.mov (.tmp 10)⟩,
   ⟨(some 29),none,.bin .shr (.tmp 28) (.const (.int .u64 32))⟩,
   ⟨(some 30),none,.bin .add (.tmp 27) (.tmp 29)⟩,
   ⟨(some 11),none,.mov (.tmp 30)⟩] [0,1,6,7,9,11])
 (.seq (.ops [⟨(some 31),none,.mov (.tmp 11)⟩,
   ⟨(some 32),none,.bin .and (.tmp 31) (.const (.int .u64 4294967295))⟩,
   ⟨(some 12),none,.mov (.tmp 32)⟩] [0,1,6,7,9,11,12])
 (.seq (.ops [⟨(some 33),none,.mov (.tmp 11)⟩,
   ⟨(some 34),none,.bin .shr (.tmp 33) (.const (.int .u64 32))⟩,
   ⟨(some 13),none,.mov (.tmp 34)⟩] [0,1,6,7,9,12,13])
 (.seq (.ops [⟨(some 35),none,.mov (.tmp 12)⟩,
   ⟨(some 36),none,.mov (.tmp 6)⟩,
   ⟨(some 37),none,.mov (.tmp 9)⟩,
   ⟨(some 38),none,.bin .mul (.tmp 36) (.tmp 37)⟩,
   ⟨(some 39),none,.bin .add (.tmp 35) (.tmp 38)⟩,
   ⟨(some 12),none,.mov (.tmp 39)⟩] [0,1,7,9,12,13])
 (.seq (.ops [⟨(some 40),none,.mov (.tmp 7)⟩,
   ⟨(some 41),none,.mov (.tmp 9)⟩,
   ⟨(some 42),none,.bin .mul (.tmp 40) (.tmp 41)⟩,
   ⟨(some 43),none,.mov (.tmp 13)⟩,
   ⟨(some 44),none,.bin .add (.tmp 42) (.tmp 43)⟩,
   ⟨(some 45),none,.mov (.tmp 12)⟩,
   ⟨(some 46),none,.bin .shr (.tmp 45) (.const (.int .u64 32))⟩,
   ⟨(some 47),none,.bin .add (.tmp 44) (.tmp 46)⟩,
   ⟨(some 4),none,.mov (.tmp 47)⟩] [0,1,4])
 (.seq (.ops [⟨(some 48),none,.mov (.tmp 0)⟩,
   ⟨(some 49),none,.mov (.tmp 1)⟩,
   ⟨(some 50),none,.bin .mul (.tmp 48) (.tmp 49)⟩,
   ⟨(some 5),none,.mov (.tmp 50)⟩] [4,5])
 (.ret)))))))))))),
 51,[(4,none),(5,none)],true⟩
theorem ok48:FunOK Tryz.prog 48 c48:= .code ⟨Tryz.f48,_,c48.code,Tryz.func48,rfl,by kernel_rfl,rfl,by kernel_rfl,by kernel_rfl⟩
/- slices.AppendSeq[[]int,int] -/
def c49a0:AC:=
 (.ops [⟨(some 5),none,.mov (.tmp 7)⟩] [2,5])
def c49b0:AC:=
 (.block 1
    (.ops [⟨(some 8),none,.load none (.tmp 2)⟩,
      ⟨(some 9),none,.mov (.tmp 5)⟩,
      ⟨(some 10),none,.mkRow 3 1 1 [(.int .i64 0)] [(0,1,(.tmp 9))]⟩,
      ⟨(some 11),none,.app 3 1 8 (.tmp 8) (.tmp 10)⟩,
      ⟨none,none,.store 1 (.tmp 2) (.tmp 11)⟩] []))
def c49:AFun:=⟨
 .seq (.ops [⟨(some 2),none,.box 22 (.tmp 0)⟩,
   ⟨(some 4),none,.mov (.const (.slice none 0 0))⟩] [1,2,4])
 (.seq (.seq (.ops [⟨(some 6),none,.mov (.tmp 1)⟩] [2,4,6])
 (.block 0
  (.rangeF (.tmp 6) [7] [2,4]
   c49a0 c49b0)))
 (.seq (.ops [⟨(some 12),none,.load none (.tmp 2)⟩,
   ⟨(some 4),none,.mov (.tmp 12)⟩] [4])
 (.ret))),
 13,[(4,none)],false⟩
theorem ok49:FunOK Tryz.prog 49 c49:= .code ⟨Tryz.f49,_,c49.code,Tryz.func49,rfl,by kernel_rfl,rfl,by kernel_rfl,by kernel_rfl⟩
/- strings.splitSeq$1 -/
def c52l0:AC:=
 .block 3
    (.seq (.ops [⟨(some 29),none,.load none (.tmp 2)⟩,
      ⟨(some 30),none,.load none (.tmp 1)⟩,
      ⟨(some 31),none,.callF 54 [(.tmp 29),(.tmp 30)]⟩,
      ⟨(some 7),none,.mov (.tmp 31)⟩] [0,1,2,3,7])
    (.seq (.seq (.ops [⟨(some 32),none,.mov (.tmp 7)⟩,
      ⟨(some 33),none,.bin .lss (.tmp 32) (.const (.int .i64 0))⟩] [0,1,2,3,7,33])
    (.cond (.tmp 33)
     (.exit 2)
     (.skip)))
    (.seq (.ops [⟨(some 34),none,.load none (.tmp 2)⟩,
      ⟨(some 35),none,.mov (.tmp 7)⟩,
      ⟨(some 36),none,.load none (.tmp 3)⟩,
      ⟨(some 37),none,.bin .add (.tmp 35) (.tmp 36)⟩,
      ⟨(some 38),none,.slcS (.tmp 34) none (some (.tmp 37))⟩,
      ⟨(some 8),none,.mov (.tmp 38)⟩] [0,1,2,3,7,8])
    (.seq (.seq (.ops [⟨(some 39),none,.mov (.tmp 0)⟩,
      ⟨(some 40),none,.mov (.tmp 8)⟩,
      ⟨(some 41),none,.callV (.tmp 39) [(.tmp 40)]⟩,
      ⟨(some 42),none,.un .not (.tmp 41)⟩] [0,1,2,3,7,42])
    (.cond (.tmp 42)
     (.ret)
     (.skip)))
    (.ops [⟨(some 43),none,.load none (.tmp 2)⟩,
      ⟨(some 44),none,.mov (.tmp 7)⟩,
      ⟨(some 45),none,.load none (.tmp 1)⟩,
      ⟨(some 46),none,.len true (.tmp 45)⟩,
      ⟨(some 47),none,.bin .add (.tmp 44) (.tmp 46)⟩,
      ⟨(some 48),none,.slcS (.tmp 43) (some (.tmp 47)) none⟩,
      ⟨none,none,.store 1 (.tmp 2) (.tmp 48)⟩] [0,1,2,3])))))
def c52l1:AC:=
 .seq (.seq (.ops [⟨(some 12),none,.load none (.tmp 2)⟩,
      ⟨(some 13),none,.len true (.tmp 12)⟩,
      ⟨(some 14),none,.bin .gtr (.tmp 13) (.const (.int .i64 0))⟩] [0,2,14])
    (.cond (.tmp 14)
     (.skip)
     (.exit 0)))
    (.block 1
     (.seq (.ops [⟨(some 16),none,.load none (.tmp 2)⟩,
       ⟨(some 17),none,.callF 53 [(.tmp 16)]⟩,
       ⟨(some 15),none,.mov (.tmp 17)⟩,
       ⟨(some 18),none,.ext (.tmp 15) 0⟩,
       ⟨(some 19),none,.ext (.tmp 15) 1⟩,
       ⟨(some 5),none,.mov (.tmp 18)⟩,
       ⟨(some 6),none,.mov (.tmp 19)⟩] [0,2,6])
     (.seq (.seq (.ops [⟨(some 20),none,.mov (.tmp 0)⟩,
       ⟨(some 21),none,.load none (.tmp 2)⟩,
       ⟨(some 22),none,.mov (.tmp 6)⟩,
       ⟨(some 23),none,.slcS (.tmp 21) none (some (.tmp 22))⟩,
       ⟨(some 24),none,.callV (.tmp 20) [(.tmp 23)]⟩,
       ⟨(some 25),none,.un .not (.tmp 24)⟩] [0,2,6,25])
     (.cond (.tmp 25)
      (.ret)
      (.skip)))
     (.ops [⟨(some 26),none,.load none (.tmp 2)⟩,
       ⟨(some 27),none,.mov (.tmp 6)⟩,
       ⟨(some 28),none,.slcS (.tmp 26) (some (.tmp 27)) none⟩,
       ⟨none,none,.store 1 (.tmp 2) (.tmp 28)⟩] [0,2]))))
def c52:AFun:=⟨
 .seq (.seq (.ops [⟨(some 9),none,.load none (.tmp 1)⟩,
   ⟨(some 10),none,.len true (.tmp 9)⟩,
   ⟨(some 11),none,.bin .eql (.tmp 10) (.const (.int .i64 0))⟩] [0,1,2,3,11])
 (.cond (.tmp 11)
  (.seq (.block 0
   (.loop [0,2]
    c52l1))
  (.ret))
  (.skip)))
 (.seq (.block 2
  (.loop [0,1,2,3]
   c52l0))
 (.ops [⟨(some 49),none,.mov (.tmp 0)⟩,
   ⟨(some 50),none,.load none (.tmp 2)⟩,
   ⟨(some 51),none,.callV (.tmp 49) [(.tmp 50)]⟩] [])),
 52,[],false⟩
theorem ok52:FunOK Tryz.prog 52 c52:= .code ⟨Tryz.f52,_,c52.code,Tryz.func52,rfl,by kernel_rfl,rfl,by kernel_rfl,by kernel_rfl⟩
/- strings.Index -/
def c54:AFun:=⟨
 .seq (.ops [⟨(some 4),none,.mov (.const (.int .i64 0))⟩] [0,1])
 (.seq (.ops [⟨(some 5),none,.mov (.tmp 0)⟩,
   ⟨(some 6),none,.mov (.tmp 1)⟩,
   ⟨(some 7),none,.callF 74 [(.tmp 5),(.tmp 6)]⟩,
   ⟨(some 4),none,.mov (.tmp 7)⟩] [4])
 (.ret)),
 8,[(4,none)],true⟩
theorem ok54:FunOK Tryz.prog 54 c54:= .code ⟨Tryz.f54,_,c54.code,Tryz.func54,rfl,by kernel_rfl,rfl,by kernel_rfl,by kernel_rfl⟩
/- internal/stringslite.Index -/
def c74l0:AC:=
 .seq (.seq (.ops [⟨(some 57),none,.mov (.tmp 8)⟩,
     ⟨(some 58),none,.mov (.tmp 9)⟩,
     ⟨(some 59),none,.bin .lss (.tmp 57) (.tmp 58)⟩] [0,1,5,6,7,8,9,10,59])
   (.cond (.tmp 59)
    (.skip)
    (.exit 1)))
   (.block 2
    (.seq (.seq (.ops [⟨(some 60),none,.mov (.tmp 0)⟩,
      ⟨(some 61),none,.mov (.tmp 8)⟩,
      ⟨(some 62),none,.idxStr (.tmp 60) (.tmp 61)⟩,
      ⟨(some 63),none,.mov (.tmp 6)⟩,
      ⟨(some 64),none,.bin .neq (.tmp 62) (.tmp 63)⟩] [0,1,5,6,7,8,9,10,64])
    (.cond (.tmp 64)
     (.seq (.ops [⟨(some 65),none,.mov (.tmp 0)⟩,
       ⟨(some 66),none,.mov (.tmp 8)⟩,
       ⟨(some 67),none,.bin .add (.tmp 66) (.const (.int .i64 1))⟩,
       ⟨(some 68),none,.mov (.tmp 9)⟩,
       ⟨(some 69),none,.slcS (.tmp 65) (some (.tmp 67)) (some (.tmp 68))⟩,
       ⟨(some 70),none,.mov (.tmp 6)⟩,
       ⟨(some 71),none,.callF 88 [(.tmp 69),(.tmp 70)]⟩,
       ⟨(some 11),none,.mov (.tmp 71)⟩] [0,1,5,6,7,8,9,10,11])
     (.seq (.seq (.ops [⟨(some 72),none,.mov (.tmp 11)⟩,
       ⟨(some 73),none,.bin .lss (.tmp 72) (.const (.int .i64 0))⟩] [0,1,5,6,7,8,9,10,11,73])
     (.cond (.tmp 73)
      (.seq (.ops [⟨(some 4),none,.mov (.const (.int .i64 (-1)))⟩] [4])
      (.ret))
      (.skip)))
     (.ops [⟨(some 74),none,.mov (.tmp 8)⟩,
       ⟨(some 75),none,.mov (.tmp 11)⟩,
       ⟨(some 76),none,.bin .add (.tmp 75) (.const (.int .i64 1))⟩,
       ⟨(some 77),none,.bin .add (.tmp 74) (.tmp 76)⟩,
       ⟨(some 8),none,.mov (.tmp 77)⟩] [0,1,5,6,7,8,9,10])))
     (.skip)))
    (.seq (.seq (.ops [⟨(some 78),none,.mov (.tmp 0)⟩,
      ⟨(some 79),none,.mov (.tmp 8)⟩,
      ⟨(some 80),none,.bin .add (.tmp 79) (.const (.int .i64 1))⟩,
      ⟨(some 81),none,.idxStr (.tmp 78) (.tmp 80)⟩,
      ⟨(some 82),none,.mov (.tmp 7)⟩,
      ⟨(some 83),none,.bin .eql (.tmp 81) (.tmp 82)⟩,
      ⟨(some 84),none,.mov (.tmp 83)⟩,
      ⟨(some 85),(some (84,true)),.mov (.tmp 0)⟩,
      ⟨(some 86),(some (84,true)),.mov (.tmp 8)⟩,
      ⟨(some 87),(some (84,true)),.mov (.tmp 8)⟩,
      ⟨(some 88),(some (84,true)),.mov (.tmp 5)⟩,
      ⟨(some 89),(some (84,true)),.bin .add (.tmp 87) (.tmp 88)⟩,
      ⟨(some 90),(some (84,true)),.slcS (.tmp 85) (some (.tmp 86)) (some (.tmp 89))⟩,
      ⟨(some 91),(some (84,true)),.mov (.tmp 1)⟩,
      ⟨(some 92),(some (84,true)),.bin .eql (.tmp 90) (.tmp 91)⟩,
      ⟨(some 93),none,.pick (.tmp 84) (.tmp 92) (.const (.bool false))⟩] [0,1,5,6,7,8,9,10,93])
    (.cond (.tmp 93)
     (.seq (.ops [⟨(some 94),none,.mov (.tmp 8)⟩,
       ⟨(some 4),none,.mov (.tmp 94)⟩] [4])
     (.ret))
     (.skip)))
    (.seq (.ops [⟨(some 95),none,.mov (.tmp 8)⟩,
      ⟨(some 96),none,.bin .add (.tmp 95) (.const (.int .i64 1))⟩,
      ⟨(some 8),none,.mov (.tmp 96)⟩] [0,1,5,6,7,8,9,10])
    (.seq (.ops [⟨(some 97),none,.mov (.tmp 10)⟩,
      ⟨(some 98),none,.bin .add (.tmp 97) (.const (.int .i64 1))⟩,
      ⟨(some 10),none,.mov (.tmp 98)⟩] [0,1,5,6,7,8,9,10])
    (.seq (.ops [⟨(some 99),none,.mov (.tmp 5)⟩,
      ⟨(some 100),none,.load none (.global 4)⟩,
      ⟨(some 101),none,.bin .leq (.tmp 99) (.tmp 100)⟩,
      ⟨(some 102),none,.mov (.tmp 101)⟩,
      ⟨(some 103),(some (102,true)),.mov (.tmp 10)⟩,
      ⟨(some 104),(some (102,true)),.mov (.tmp 8)⟩,
      ⟨(some 105),(some (102,true)),.callF 90 [(.tmp 104)]⟩,
      ⟨(some 106),(some (102,true)),.bin .gtr (.tmp 103) (.tmp 105)⟩,
      ⟨(some 107),none,.pick (.tmp 102) (.tmp 106) (.const (.bool false))⟩] [0,1,5,6,7,8,9,10,107])
    (.cond (.tmp 107)
     (.seq (.ops [⟨(some 108),none,.mov (.tmp 0)⟩,
       ⟨(some 109),none,.mov (.tmp 8)⟩,
       ⟨(some 110),none,.slcS (.tmp 108) (some (.tmp 109)) none⟩,
       ⟨(some 111),none,.mov (.tmp 1)⟩,
       ⟨(some 112),none,.callF 89 [(.tmp 110),(.tmp 111)]⟩,
       ⟨(some 12),none,.mov (.tmp 112)⟩] [8,12])
     (.seq (.seq (.ops [⟨(some 113),none,.mov (.tmp 12)⟩,
       ⟨(some 114),none,.bin .geq (.tmp 113) (.const (.int .i64 0))⟩] [8,12,114])
     (.cond (.tmp 114)
      (.seq (.ops [⟨(some 115),none,.mov (.tmp 12)⟩,
        ⟨(some 116),none,.mov (.tmp 8)⟩,
        ⟨(some 117),none,.bin .add (.tmp 115) (.tmp 116)⟩,
        ⟨(some 4),none,.mov (.tmp 117)⟩] [4])
      (.ret))
      (.skip)))
     (.seq (.ops [⟨(some 4),none,.mov (.const (.int .i64 (-1)))⟩] [4])
     (.ret))))
     (.seq (.ops [⟨(some 118),none,.mov (.tmp 5)⟩,
       ⟨(some 119),none,.load none (.global 4)⟩,
       ⟨(some 120),none,.bin .gtr (.tmp 118) (.tmp 119)⟩,
       ⟨(some 121),none,.mov (.tmp 120)⟩,
       ⟨(some 122),(some (121,true)),.mov (.tmp 10)⟩,
       ⟨(some 123),(some (121,true)),.mov (.tmp 8)⟩,
       ⟨(some 124),(some (121,true)),.bin .shr (.tmp 123) (.const (.int .u64 4))⟩,
       ⟨(some 125),(some (121,true)),.bin .add (.const (.int .i64 4)) (.tmp 124)⟩,
       ⟨(some 126),(some (121,true)),.bin .geq (.tmp 122) (.tmp 125)⟩,
       ⟨(some 127),none,.pick (.tmp 121) (.tmp 126) (.const (.bool false))⟩,
       ⟨(some 128),none,.mov (.tmp 127)⟩,
       ⟨(some 129),(some (128,true)),.mov (.tmp 8)⟩,
       ⟨(some 130),(some (128,true)),.mov (.tmp 9)⟩,
       ⟨(some 131),(some (128,true)),.bin .lss (.tmp 129) (.tmp 130)⟩,
       ⟨(some 132),none,.pick (.tmp 128) (.tmp 131) (.const (.bool false))⟩] [0,1,5,6,7,8,9,10,132])
     (.cond (.tmp 132)
      (.seq (.ops [⟨(some 133),none,.mov (.tmp 0)⟩,
        ⟨(some 134),none,.mov (.tmp 8)⟩,
        ⟨(some 135),none,.slcS (.tmp 133) (some (.tmp 134)) none⟩,
        ⟨(some 136),none,.mov (.tmp 1)⟩,
        ⟨(some 137),none,.callF 91 [(.tmp 135),(.tmp 136)]⟩,
        ⟨(some 13),none,.mov (.tmp 137)⟩] [8,13])
      (.seq (.seq (.ops [⟨(some 138),none,.mov (.tmp 13)⟩,
        ⟨(some 139),none,.bin .lss (.tmp 138) (.const (.int .i64 0))⟩] [8,13,139])
      (.cond (.tmp 139)
       (.seq (.ops [⟨(some 4),none,.mov (.const (.int .i64 (-1)))⟩] [4])
       (.ret))
       (.skip)))
      (.seq (.ops [⟨(some 140),none,.mov (.tmp 8)⟩,
        ⟨(some 141),none,.mov (.tmp 13)⟩,
        ⟨(some 142),none,.bin .add (.tmp 140) (.tmp 141)⟩,
        ⟨(some 4),none,.mov (.tmp 142)⟩] [4])
      (.ret))))
      (.skip))))))))))
def c74:AFun:=⟨
 .seq (.ops [⟨(some 4),none,.mov (.const (.int .i64 0))⟩] [0,1])
 (.seq (.ops [⟨(some 14),none,.mov (.tmp 1)⟩,
   ⟨(some 15),none,.len true (.tmp 14)⟩,
   ⟨(some 5),none,.mov (.tmp 15)⟩] [0,1,5])
 (.seq (.block 0
  (.seq (.ops [⟨(some 17),none,.mov (.tmp 5)⟩,
    ⟨(some 18),none,.bin .eql (.tmp 17) (.const (.int .i64 0))⟩,
    ⟨(some 19),none,.mov (.tmp 18)⟩,
    ⟨(some 20),(some (19,false)),.mov (.tmp 1)⟩,
    ⟨(some 21),(some (19,false)),.mov (.tmp 0)⟩,
    ⟨(some 22),(some (19,false)),.bin .eql (.tmp 20) (.tmp 21)⟩,
    ⟨(some 23),none,.pick (.tmp 19) (.const (.bool true)) (.tmp 22)⟩,
    ⟨(some 16),none,.mov (.tmp 23)⟩] [0,1,5,16])
  (.cond (.tmp 16)
   (.seq (.ops [⟨(some 4),none,.mov (.const (.int .i64 0))⟩] [4])
   (.ret))
   (.seq (.ops [⟨(some 25),none,.mov (.tmp 5)⟩,
     ⟨(some 26),none,.bin .eql (.tmp 25) (.const (.int .i64 1))⟩,
     ⟨(some 24),none,.mov (.tmp 26)⟩] [0,1,5,24])
   (.cond (.tmp 24)
    (.seq (.ops [⟨(some 27),none,.mov (.tmp 0)⟩,
      ⟨(some 28),none,.mov (.tmp 1)⟩,
      ⟨(some 29),none,.idxStr (.tmp 28) (.const (.int .i64 0))⟩,
      ⟨(some 30),none,.callF 88 [(.tmp 27),(.tmp 29)]⟩,
      ⟨(some 4),none,.mov (.tmp 30)⟩] [4])
    (.ret))
    (.seq (.ops [⟨(some 32),none,.mov (.tmp 5)⟩,
      ⟨(some 33),none,.mov (.tmp 0)⟩,
      ⟨(some 34),none,.len true (.tmp 33)⟩,
      ⟨(some 35),none,.bin .geq (.tmp 32) (.tmp 34)⟩,
      ⟨(some 31),none,.mov (.tmp 35)⟩] [0,1,5,31])
    (.cond (.tmp 31)
     (.seq (.ops [⟨(some 4),none,.mov (.const (.int .i64 (-1)))⟩] [4])
     (.ret))
     (.seq (.ops [⟨(some 37),none,.mov (.tmp 5)⟩,
       ⟨(some 38),none,.load none (.global 4)⟩,
       ⟨(some 39),none,.bin .leq (.tmp 37) (.tmp 38)⟩,
       ⟨(some 40),none,.mov (.tmp 39)⟩,
       ⟨(some 41),(some (40,true)),.mov (.tmp 0)⟩,
       ⟨(some 42),(some (40,true)),.len true (.tmp 41)⟩,
       ⟨(some 43),(some (40,true)),.bin .leq (.tmp 42) (.const (.int .i64 64))⟩,
       ⟨(some 44),none,.pick (.tmp 40) (.tmp 43) (.const (.bool false))⟩,
       ⟨(some 36),none,.mov (.tmp 44)⟩] [0,1,5,36])
     (.cond (.tmp 36)
      (.seq (.ops [⟨(some 45),none,.mov (.tmp 0)⟩,
        ⟨(some 46),none,.mov (.tmp 1)⟩,
        ⟨(some 47),none,.callF 89 [(.tmp 45),(.tmp 46)]⟩,
        ⟨(some 4),none,.mov (.tmp 47)⟩] [4])
      (.ret))
      (.skip))))))))))
 (.seq (.ops [⟨(some 48),none,.mov (.tmp 1)⟩,
   ⟨(some 49),none,.idxStr (.tmp 48) (.const (.int .i64 0))⟩,
   ⟨(some 6),none,.mov (.tmp 49)⟩] [0,1,5,6])
 (.seq (.ops [⟨(some 50),none,.mov (.tmp 1)⟩,
   ⟨(some 51),none,.idxStr (.tmp 50) (.const (.int .i64 1))⟩,
   ⟨(some 7),none,.mov (.tmp 51)⟩] [0,1,5,6,7])
 (.seq (.ops [⟨(some 8),none,.mov (.const (.int .i64 0))⟩] [0,1,5,6,7,8])
 (.seq (.ops [⟨(some 52),none,.mov (.tmp 0)⟩,
   ⟨(some 53),none,.len true (.tmp 52)⟩,
   ⟨(some 54),none,.mov (.tmp 5)⟩,
   ⟨(some 55),none,.bin .sub (.tmp 53) (.tmp 54)⟩,
   ⟨(some 56),none,.bin .add (.tmp 55) (.const (.int .i64 1))⟩,
   ⟨(some 9),none,.mov (.tmp 56)⟩] [0,1,5,6,7,8,9])
 (.seq (.ops [⟨(some 10),none,.mov (.const (.int .i64 0))⟩] [0,1,5,6,7,8,9,10])
 (.seq (.block 1
  (.loop [0,1,5,6,7,8,9,10]
   c74l0))
 (.seq (.ops [⟨(some 4),none,.mov (.const (.int .i64 (-1)))⟩] [4])
 (.ret)))))))))),
 143,[(4,none)],true⟩
theorem ok74:FunOK Tryz.prog 74 c74:= .code ⟨Tryz.f74,_,c74.code,Tryz.func74,rfl,by kernel_rfl,rfl,by kernel_rfl,by kernel_rfl⟩
/- internal/stringslite.IndexByte -/
def c88:AFun:=⟨
 .seq (.ops [⟨(some 4),none,.mov (.const (.int .i64 0))⟩] [0,1])
 (.seq (.ops [⟨(some 5),none,.mov (.tmp 0)⟩,
   ⟨(some 6),none,.mov (.tmp 1)⟩,
   ⟨(some 7),none,.callF 99 [(.tmp 5),(.tmp 6)]⟩,
   ⟨(some 4),none,.mov (.tmp 7)⟩] [4])
 (.ret)),
 8,[(4,none)],true⟩
theorem ok88:FunOK Tryz.prog 88 c88:= .code ⟨Tryz.f88,_,c88.code,Tryz.func88,rfl,by kernel_rfl,rfl,by kernel_rfl,by kernel_rfl⟩
/- internal/bytealg.Cutover -/
def c90:AFun:=⟨
 .seq (.ops [⟨(some 2),none,.mov (.const (.int .i64 0))⟩] [0])
 (.seq (.ops [⟨(some 3),none,.mov (.tmp 0)⟩,
   ⟨(some 4),none,.bin .add (.tmp 3) (.const (.int .i64 16))⟩,
   ⟨(some 5),none,.bin .quo (.tmp 4) (.const (.int .i64 8))⟩,
   ⟨(some 2),none,.mov (.tmp 5)⟩] [2])
 (.ret)),
 6,[(2,none)],true⟩
theorem ok90:FunOK Tryz.prog 90 c90:= .code ⟨Tryz.f90,_,c90.code,Tryz.func90,rfl,by kernel_rfl,rfl,by kernel_rfl,by kernel_rfl⟩
/- of the library -/
def c40:AFun:=⟨libCode 0,1,libRes 0,false⟩
theorem ok40:FunOK Tryz.prog 40 c40:= .lib 0 ⟨Tryz.f40,_,Tryz.func40,rfl,by kernel_rfl⟩ rfl sort_fact
/- of the library -/
def c29:AFun:=⟨libCode 1,1,libRes 1,false⟩
theorem ok29:FunOK Tryz.prog 29 c29:= .lib 1 ⟨Tryz.f29,_,Tryz.func29,rfl,by kernel_rfl⟩ rfl compact_fact
def fns:FuncId→Option AFun
 |4=>some c4
 |6=>some c6
 |7=>some c7
 |8=>some c8
 |9=>some c9
 |10=>some c10
 |11=>some c11
 |12=>some c12
 |13=>some c13
 |14=>some c14
 |15=>some c15
 |16=>some c16
 |17=>some c17
 |18=>some c18
 |20=>some c20
 |21=>some c21
 |22=>some c22
 |23=>some c23
 |24=>some c24
 |25=>some c25
 |26=>some c26
 |27=>some c27
 |28=>some c28
 |30=>some c30
 |31=>some c31
 |32=>some c32
 |35=>some c35
 |36=>some c36
 |37=>some c37
 |38=>some c38
 |39=>some c39
 |41=>some c41
 |42=>some c42
 |46=>some c46
 |47=>some c47
 |48=>some c48
 |49=>some c49
 |52=>some c52
 |54=>some c54
 |74=>some c74
 |88=>some c88
 |90=>some c90
 |40=>some c40
 |29=>some c29
 |_=>none
theorem fns_ok:FunsOK Tryz.prog fns:=by
 intro f af h
 unfold fns at h
 split at h
 ·cases h;exact ok4
 ·cases h;exact ok6
 ·cases h;exact ok7
 ·cases h;exact ok8
 ·cases h;exact ok9
 ·cases h;exact ok10
 ·cases h;exact ok11
 ·cases h;exact ok12
 ·cases h;exact ok13
 ·cases h;exact ok14
 ·cases h;exact ok15
 ·cases h;exact ok16
 ·cases h;exact ok17
 ·cases h;exact ok18
 ·cases h;exact ok20
 ·cases h;exact ok21
 ·cases h;exact ok22
 ·cases h;exact ok23
 ·cases h;exact ok24
 ·cases h;exact ok25
 ·cases h;exact ok26
 ·cases h;exact ok27
 ·cases h;exact ok28
 ·cases h;exact ok30
 ·cases h;exact ok31
 ·cases h;exact ok32
 ·cases h;exact ok35
 ·cases h;exact ok36
 ·cases h;exact ok37
 ·cases h;exact ok38
 ·cases h;exact ok39
 ·cases h;exact ok41
 ·cases h;exact ok42
 ·cases h;exact ok46
 ·cases h;exact ok47
 ·cases h;exact ok48
 ·cases h;exact ok49
 ·cases h;exact ok52
 ·cases h;exact ok54
 ·cases h;exact ok74
 ·cases h;exact ok88
 ·cases h;exact ok90
 ·cases h;exact ok40
 ·cases h;exact ok29
 ·cases h
end Go.Proofs.YtkjkiodoighgnaaGreatDoor
namespace Go.Proofs.YtkjkiodoighgnaaGreatDoor
open Go Go.Itp
open Go.RowKit (Below)
set_option linter.unusedVariables false
set_option maxRecDepth 100000
theorem own:ownKnob Tryz.prog.godebug=none:=by kernel_rfl
theorem mixed:Tryz.prog.follows .mixedOrders=true:=by kernel_rfl
def prims0:List (FuncId × Prim × TypeId):= [(61,.same,0),(99,.indexByte,0)]
theorem prims_all:AllPrims Tryz.prog prims0:=
 ⟨⟨⟨Tryz.f61,Tryz.func61,by kernel_rfl,by kernel_rfl,by kernel_rfl,rfl⟩⟩,⟨⟨Tryz.f99,Tryz.func99,by kernel_rfl,by kernel_rfl,by kernel_rfl,rfl⟩⟩,trivial⟩
noncomputable abbrev PR (w:World):FuncId→List Value→St→Option (Value × List Blk):=
 orElseP (primsOf prims0) (orElseP (itoaP 34) (atoiP 33 90 110 (errO Tryz.prog w "strconv.ErrSyntax") (errO Tryz.prog w "strconv.ErrRange")))
noncomputable abbrev EN (w:World) (n:Nat):Env:=callP (oldOf w) many fns (PR w) n
abbrev Tab (w:World):Prop:=Lib.TabIs Tryz.prog w "internal/strconv.uint64pow10" .u64 Lib.pow10Tab
theorem prims_ok (W:World) (ht:Tab W):PrimsOK Tryz.prog (PR W) W:=
 orElse_ok (primsOf_ok prims0 prims_all W) (orElse_ok
  (itoaP_ok ⟨Tryz.f34,_,Tryz.func34,rfl,by kernel_rfl⟩ ht Tryz.strconv_Itoa)
  (atoiP_ok (u8:=5) ⟨Tryz.f33,_,Tryz.func33,rfl,by kernel_rfl⟩ Tryz.strconv_Atoi_ok Tryz.strconv_Atoi_syntax_var Tryz.strconv_Atoi_range_var))
theorem law_of {W:World} (ht:Tab W) {f:FuncId} {af:AFun} (hf:fns f=some af) {xs:List Value} (hxs:idsL 0 xs= []) (n:Nat) {v:Value} {s':St} (hb:body (EN W n) af xs St.empty=some (v,s')) (hv:ids 0 v= []):
  Calls Tryz.prog f xs.toArray W fun e w'=>e= .returned v∧Below W.heap.size W w':=
 law_at mixed fns_ok (oldOf_ok W) (prims_ok W ht) hf hxs n hb hv
theorem itoa_s (w:World) (n:Nat) (st:VSt) (k:Int) (h0: -9223372036854775808≤k) (h1:k≤9223372036854775807):VSpecO (EN w (n+1)) 34 st [.sc (.int .i64 k)] (.sc (.string ⟨(Lib.itoa k).toArray⟩)):=
 itoa_o h0 h1 fun xs s r h=>orElse_right rfl (orElse_left h)
theorem atoi_s (w:World) (n:Nat) (st:VSt) (b:ByteArray) (v:Int) (hb:b.size≤281474976710656) (h:Lib.atoiAll b.data.toList= .ok v):VSpecO (EN w (n+1)) 33 st [.sc (.string b)] (.tup [.sc (.int .i64 v),.sc .nilIface]):=
 atoi_o hb h fun xs s r h=>orElse_right rfl (orElse_right rfl h)
theorem atoi_f (w:World) (n:Nat) (b:ByteArray) (hb:b.size≤281474976710656) (hes:(errO Tryz.prog w "strconv.ErrSyntax").isSome=true) (her:(errO Tryz.prog w "strconv.ErrRange").isSome=true) (h:∀ v,Lib.atoiAll b.data.toList ≠ .ok v):
  ∃ (k:Int) (cs:List Value),VSpec (EN w (n+1)) 33 [.sc (.string b)] (.tup [.sc (.int .i64 k),.ifc 90 (.ptr 0 0)]) ⟨[(0,.box 110 1 (cs.map V.sc))],1,0⟩:=
 atoi_e hb (errO_ok hes) (errO_ok her) h fun xs s r h=>orElse_right rfl (orElse_right rfl h)
end Go.Proofs.YtkjkiodoighgnaaGreatDoor
namespace Go.Proofs.YtkjkiodoighgnaaGreatDoor
open Go Go.Itp
set_option maxRecDepth 100000
set_option maxHeartbeats 1000000
set_option linter.unusedSimpArgs false
def rowD (p : Nat × List Int) : D := .sl p.1 p.2.length (p.2.map iD)
theorem rowD_dv (p : Nat × List Int) : dv (rowD p) = .sl p.1 p.2.length (p.2.map iD) := (rfl)
def col (x : Int) : Bool := decide (0 ≤ x) && decide (x < 400)
def chk (l : List Int) : Int := if 400 < l.length then 4 else if l.all col then 0 else 8
def chkL : List (Nat × List Int) → Int
  | [] => 0
  | p :: r => if chk p.2 = 0 then chkL r else chk p.2
theorem chkL_step {L : List (Nat × List Int)} {k : Nat} (hk : k < L.length) : chkL (L.drop k) = if chk L[k]!.2 = 0 then chkL (L.drop (k + 1)) else chk L[k]!.2 := by
  rw [List.drop_eq_getElem_cons hk, getElem!_pos L k hk]
  rfl
theorem all_end {l : List Int} (h : ∀ j, j < l.length → col l[j]! = true) : l.all col = true := by
  rw [List.all_eq_true]
  intro x hx
  obtain ⟨j, hj, rfl⟩ := List.getElem_of_mem hx
  have := h j hj
  rwa [getElem!_pos l j hj] at this
theorem all_at {l : List Int} {k : Nat} (hk : k < l.length) (h2 : col l[k]! = false) : l.all col = false := by
  rw [← Bool.not_eq_true, List.all_eq_true]
  intro h
  rw [getElem!_pos l k hk] at h2
  rw [h _ (List.getElem_mem hk)] at h2
  cases h2
theorem eq_of_all {a l : List Int} (h : a.length = l.length) (ha : ∀ j, j < l.length → a[j]! = l[j]!) : a = l := by
  refine List.ext_getElem h fun i h1 h2 => ?_
  have := ha i h2
  rwa [getElem!_pos a i h1, getElem!_pos l i h2] at this
def rangedF (n m : Int) : Bool := decide (1 ≤ n) && decide (n ≤ 400) && decide (0 ≤ m) && decide (m ≤ 400)
section
variable (w : World) (n : Nat)
theorem ranged_p (a b : Int) : VSpec (EN w (n + 1)) 30 [.sc (.int .i64 a), .sc (.int .i64 b)] (.sc (.bool (rangedF a b))) ⟨[], 0, 0⟩ := by
  refine vspec_flat rfl rfl (fun _ _ => rfl) (Nat.le_of_ble_eq_true rfl) (oldVals w) rfl fun C hC h0 => ?_
  have e : rangedF a b = (decide (1 ≤ a) && decide (a ≤ 400) && decide (0 ≤ b) && decide (b ≤ 400)) := rfl
  by_cases h1 : 1 ≤ a <;> by_cases h2 : a ≤ 400 <;> by_cases h3 : 0 ≤ b <;> by_cases h4 : b ≤ 400
  all_goals
    simp only [h1, h2, h3, h4, decide_true, decide_false, Bool.and_true, Bool.and_false, Bool.true_and, Bool.false_and] at e
    rw [e]
    first
    | (exfalso; omega)
    | (by_cases h5 : max a b ≤ 400
       all_goals
         first
         | (exfalso; omega)
         | (repeat' (first | (simp (disch := first | omega | assumption | exact bd (by with_unfolding_all rfl) | exact Or.inl rfl | exact Or.inl trivial | exact okL_map _ (fun _ => rfl) _ | (simp only [VVlen] <;> omega) | fail) only [VV0, VV1, VV2, VV3, VV4, VV5, VV6, VV7, VV8, VV9, mkFnV, vargs, slotsL, opdsA, Nat.reduceEqDiff, Nat.reduceLT, Nat.reduceAdd, Nat.reduceBEq, Int.reduceAdd, Int.reduceSub, Int.reduceLT, Int.reduceLE, Int.reduceEq, Int.reduceNeg, ↓reduceIte, reduceCtorEq, scL, scD, expand, List.replicate, c30]) | apply gC_drawW | ((first | apply gI_dec | apply gG_dec | apply gPG_dec | apply gI_var | apply gG_var | apply gPG_var) <;> intro _))
            exact weak_flat rfl h0 rfl))
theorem check_p (L : List (Nat × List Int)) (hL : L.length ≤ 1000) (hl : ∀ k, k < L.length → L[k]!.2.length ≤ 140737488351232) : VSpec (EN w (n + 1)) 22 [.sl 0 L.length (L.map rowD)] (.sc (.int .i64 (chkL L))) ⟨[], 0, 0⟩ := by
  refine vspec_flat rfl rfl (fun _ _ => rfl) (Nat.le_of_ble_eq_true rfl) (oldVals w) rfl fun C hC h0 => ?_
  simp (disch := first | omega | assumption | exact bd (by with_unfolding_all rfl) | exact Or.inl rfl | exact Or.inl trivial | exact okL_map _ (fun _ => rfl) _ | (simp only [VVlen] <;> omega) | fail) only [VV0, VV1, VV2, VV3, VV4, VV5, VV6, VV7, VV8, VV9, mkFnV, vargs, slotsL, opdsA, Nat.reduceEqDiff, Nat.reduceLT, Nat.reduceAdd, Nat.reduceBEq, Int.reduceAdd, Int.reduceSub, Int.reduceLT, Int.reduceLE, Int.reduceEq, Int.reduceNeg, ↓reduceIte, reduceCtorEq, scL, scD, expand, List.replicate, c22]
  refine g_while (fun m fr st => ∃ k : Nat, m = L.length - k ∧ k ≤ L.length ∧ chkL L = chkL (L.drop k) ∧ fr = [(7, .sl 0 L.length (L.map rowD)), (8, .sc (.int .i64 L.length)), (9, .sc (.int .i64 k))] ∧ st = ⟨[], 0, 0⟩) L.length ?_ ⟨_, _, .refl _ _, 0, ?_⟩ ?_
  · rw [hC, callP_rounds]; unfold many; omega
  · exact ⟨by omega, by omega, rfl, rfl, rfl⟩
  · rintro m fr st ⟨k, rfl, hk, ha, rfl, rfl⟩
    by_cases hlt : k < L.length
    · have hlk := hl k hlt
      have hst := chkL_step hlt
      rw [hst] at ha
      generalize hp : L[k]! = p at hlk ha
      obtain ⟨s, l⟩ := p
      simp only at hlk ha
      by_cases h4 : 400 < l.length
      · have e : chk l = 4 := if_pos h4
        rw [e, if_neg (by decide)] at ha
        rw [ha]
        repeat' (first | (simp (disch := first | omega | assumption | exact bd (by with_unfolding_all rfl) | exact Or.inl rfl | exact Or.inl trivial | exact okL_map _ (fun _ => rfl) _ | (simp only [VVlen] <;> omega) | fail) only [VV0, VV1, VV2, VV3, VV4, VV5, VV6, VV7, VV8, VV9, mkFnV, vargs, slotsL, opdsA, Nat.reduceEqDiff, Nat.reduceLT, Nat.reduceAdd, Nat.reduceBEq, Int.reduceAdd, Int.reduceSub, Int.reduceLT, Int.reduceLE, Int.reduceEq, Int.reduceNeg, ↓reduceIte, reduceCtorEq, scL, scD, expand, List.replicate, c22l1, rowD_dv, hp]) | apply gC_drawW | ((first | apply gI_dec | apply gG_dec | apply gPG_dec | apply gI_var | apply gG_var | apply gPG_var) <;> intro _))
        exact weak_flat rfl h0 rfl
      have e : chk l = if l.all col then 0 else 8 := if_neg h4
      repeat' (first | (simp (disch := first | omega | assumption | exact bd (by with_unfolding_all rfl) | exact Or.inl rfl | exact Or.inl trivial | exact okL_map _ (fun _ => rfl) _ | (simp only [VVlen] <;> omega) | fail) only [VV0, VV1, VV2, VV3, VV4, VV5, VV6, VV7, VV8, VV9, mkFnV, vargs, slotsL, opdsA, Nat.reduceEqDiff, Nat.reduceLT, Nat.reduceAdd, Nat.reduceBEq, Int.reduceAdd, Int.reduceSub, Int.reduceLT, Int.reduceLE, Int.reduceEq, Int.reduceNeg, ↓reduceIte, reduceCtorEq, scL, scD, expand, List.replicate, c22l1, rowD_dv, hp]) | apply gC_drawW | ((first | apply gI_dec | apply gG_dec | apply gPG_dec | apply gI_var | apply gG_var | apply gPG_var) <;> intro _))
      refine g_while (fun m fr st => ∃ j : Nat, m = l.length - j ∧ j ≤ l.length ∧ (∀ i, i < j → col l[i]! = true) ∧ fr = [(7, .sl 0 L.length (L.map rowD)), (8, .sc (.int .i64 L.length)), (9, .sc (.int .i64 k)), (16, .sl s l.length (l.map iD)), (17, .sc (.int .i64 l.length)), (18, .sc (.int .i64 j))] ∧ st = ⟨[], 0, 0⟩) l.length ?_ ⟨_, _, .refl _ _, 0, ?_⟩ ?_
      · rw [hC, callP_rounds]; unfold many; omega
      · exact ⟨by omega, by omega, (fun j hj => absurd hj (Nat.not_lt_zero _)), rfl, rfl⟩
      · rintro m fr st ⟨j, rfl, hj, hb, rfl, rfl⟩
        by_cases hlj : j < l.length
        · cases hc : col l[j]!
          · rw [e, show (if l.all col = true then (0 : Int) else 8) = 8 from if_neg (by rw [all_at hlj hc]; exact Bool.false_ne_true), if_neg (by decide)] at ha
            rw [ha]
            have hc' : ¬ (0 ≤ l[j]! ∧ l[j]! < 400) := by
              intro h
              have : col l[j]! = true := by unfold col; rw [Bool.and_eq_true]; exact ⟨decide_eq_true h.1, decide_eq_true h.2⟩
              rw [hc] at this; cases this
            generalize hx : l[j]! = x at hc'
            by_cases h1 : x < 0
            · repeat' (first | (simp (disch := first | omega | assumption | exact bd (by with_unfolding_all rfl) | exact Or.inl rfl | exact Or.inl trivial | exact okL_map _ (fun _ => rfl) _ | (simp only [VVlen] <;> omega) | fail) only [VV0, VV1, VV2, VV3, VV4, VV5, VV6, VV7, VV8, VV9, mkFnV, vargs, slotsL, opdsA, Nat.reduceEqDiff, Nat.reduceLT, Nat.reduceAdd, Nat.reduceBEq, Int.reduceAdd, Int.reduceSub, Int.reduceLT, Int.reduceLE, Int.reduceEq, Int.reduceNeg, ↓reduceIte, reduceCtorEq, scL, scD, expand, List.replicate, c22l0, iD_dv, hx]) | apply gC_drawW | ((first | apply gI_dec | apply gG_dec | apply gPG_dec | apply gI_var | apply gG_var | apply gPG_var) <;> intro _))
              exact weak_flat rfl h0 rfl
            · have h2 : 400 ≤ x := by omega
              repeat' (first | (simp (disch := first | omega | assumption | exact bd (by with_unfolding_all rfl) | exact Or.inl rfl | exact Or.inl trivial | exact okL_map _ (fun _ => rfl) _ | (simp only [VVlen] <;> omega) | fail) only [VV0, VV1, VV2, VV3, VV4, VV5, VV6, VV7, VV8, VV9, mkFnV, vargs, slotsL, opdsA, Nat.reduceEqDiff, Nat.reduceLT, Nat.reduceAdd, Nat.reduceBEq, Int.reduceAdd, Int.reduceSub, Int.reduceLT, Int.reduceLE, Int.reduceEq, Int.reduceNeg, ↓reduceIte, reduceCtorEq, scL, scD, expand, List.replicate, c22l0, iD_dv, hx]) | apply gC_drawW | ((first | apply gI_dec | apply gG_dec | apply gPG_dec | apply gI_var | apply gG_var | apply gPG_var) <;> intro _))
              exact weak_flat rfl h0 rfl
          · have hc' : 0 ≤ l[j]! ∧ l[j]! < 400 := by simpa [col] using hc
            have hn : ∀ i, i < j + 1 → col l[i]! = true := (fun i hi => by rcases Nat.lt_succ_iff_lt_or_eq.1 hi with h | h; exact hb i h; subst h; exact hc)
            generalize hx : l[j]! = x at hc'
            have h1 : ¬ x < 0 := by omega
            have h2 : ¬ 400 ≤ x := by omega
            repeat' (first | (simp (disch := first | omega | assumption | exact bd (by with_unfolding_all rfl) | exact Or.inl rfl | exact Or.inl trivial | exact okL_map _ (fun _ => rfl) _ | (simp only [VVlen] <;> omega) | fail) only [VV0, VV1, VV2, VV3, VV4, VV5, VV6, VV7, VV8, VV9, mkFnV, vargs, slotsL, opdsA, Nat.reduceEqDiff, Nat.reduceLT, Nat.reduceAdd, Nat.reduceBEq, Int.reduceAdd, Int.reduceSub, Int.reduceLT, Int.reduceLE, Int.reduceEq, Int.reduceNeg, ↓reduceIte, reduceCtorEq, scL, scD, expand, List.replicate, c22l0, iD_dv, hx]) | apply gC_drawW | ((first | apply gI_dec | apply gG_dec | apply gPG_dec | apply gI_var | apply gG_var | apply gPG_var) <;> intro _))
            exact ⟨_, _, _, by omega, .refl _ _, j + 1, rfl, hlj, hn, rfl, rfl⟩
        · have : j = l.length := by omega
          subst this
          rw [e, show (if l.all col = true then (0 : Int) else 8) = 0 from if_pos (all_end hb), if_pos rfl] at ha
          repeat' (first | (simp (disch := first | omega | assumption | exact bd (by with_unfolding_all rfl) | exact Or.inl rfl | exact Or.inl trivial | exact okL_map _ (fun _ => rfl) _ | (simp only [VVlen] <;> omega) | fail) only [VV0, VV1, VV2, VV3, VV4, VV5, VV6, VV7, VV8, VV9, mkFnV, vargs, slotsL, opdsA, Nat.reduceEqDiff, Nat.reduceLT, Nat.reduceAdd, Nat.reduceBEq, Int.reduceAdd, Int.reduceSub, Int.reduceLT, Int.reduceLE, Int.reduceEq, Int.reduceNeg, ↓reduceIte, reduceCtorEq, scL, scD, expand, List.replicate, c22l0, iD_dv]) | apply gC_drawW | ((first | apply gI_dec | apply gG_dec | apply gPG_dec | apply gI_var | apply gG_var | apply gPG_var) <;> intro _))
          exact ⟨_, _, _, by omega, .refl _ _, k + 1, rfl, hlt, ha, rfl, rfl⟩
    · have : k = L.length := by omega
      subst this
      rw [List.drop_length] at ha
      rw [ha]
      repeat' (first | (simp (disch := first | omega | assumption | exact bd (by with_unfolding_all rfl) | exact Or.inl rfl | exact Or.inl trivial | exact okL_map _ (fun _ => rfl) _ | (simp only [VVlen] <;> omega) | fail) only [VV0, VV1, VV2, VV3, VV4, VV5, VV6, VV7, VV8, VV9, mkFnV, vargs, slotsL, opdsA, Nat.reduceEqDiff, Nat.reduceLT, Nat.reduceAdd, Nat.reduceBEq, Int.reduceAdd, Int.reduceSub, Int.reduceLT, Int.reduceLE, Int.reduceEq, Int.reduceNeg, ↓reduceIte, reduceCtorEq, scL, scD, expand, List.replicate, c22l1]) | apply gC_drawW | ((first | apply gI_dec | apply gG_dec | apply gPG_dec | apply gI_var | apply gG_var | apply gPG_var) <;> intro _))
      exact weak_flat rfl h0 rfl
theorem same_r (st : VSt) (v u : V) (a b : List Int) (hv : RdV st v a) (hu : RdV st u b) (ha : a.length ≤ 140737488351232) (hb : b.length ≤ 140737488351232) : VSpecO (EN w (n + 1)) 9 st [v, u] (.sc (.bool (decide (a = b)))) := by
  refine vspecO_g rfl rfl (fun _ _ => rfl) (Nat.le_of_ble_eq_true rfl) rfl fun C hC h0 => ⟨⟨st.own, st.next, st.next⟩, ?_⟩
  obtain ⟨p, hp⟩ := hv.rdv
  obtain ⟨q, hq⟩ := hu.rdv
  by_cases hlen : (a.length : Int) = (b.length : Int)
  case neg =>
    rw [decide_eq_false (fun h => hlen (by rw [h]))]
    repeat' (first | (simp (disch := first | omega | assumption | exact bd (by with_unfolding_all rfl) | exact Or.inl rfl | exact Or.inl trivial | exact okL_map _ (fun _ => rfl) _ | (simp only [VVlen] <;> omega) | fail) only [VV0, VV1, VV2, VV3, VV4, VV5, VV6, VV7, VV8, VV9, mkFnV, vargs, slotsL, opdsA, Nat.reduceEqDiff, Nat.reduceLT, Nat.reduceAdd, Nat.reduceBEq, Int.reduceAdd, Int.reduceSub, Int.reduceLT, Int.reduceLE, Int.reduceEq, Int.reduceNeg, ↓reduceIte, reduceCtorEq, scL, scD, expand, List.replicate, c9, hp.len, hq.len]) | apply gC_drawW | ((first | apply gI_dec | apply gG_dec | apply gPG_dec | apply gI_var | apply gG_var | apply gPG_var) <;> intro _))
    all_goals first | exact .refl _ _ | exact absurd ‹(a.length : Int) = (b.length : Int)› hlen
  have hlen' : a.length = b.length := by omega
  repeat' (first | (simp (disch := first | omega | assumption | exact bd (by with_unfolding_all rfl) | exact Or.inl rfl | exact Or.inl trivial | exact okL_map _ (fun _ => rfl) _ | (simp only [VVlen] <;> omega) | fail) only [VV0, VV1, VV2, VV3, VV4, VV5, VV6, VV7, VV8, VV9, mkFnV, vargs, slotsL, opdsA, Nat.reduceEqDiff, Nat.reduceLT, Nat.reduceAdd, Nat.reduceBEq, Int.reduceAdd, Int.reduceSub, Int.reduceLT, Int.reduceLE, Int.reduceEq, Int.reduceNeg, ↓reduceIte, reduceCtorEq, scL, scD, expand, List.replicate, c9, hp.len, hq.len]) | apply gC_drawW | ((first | apply gI_dec | apply gG_dec | apply gPG_dec | apply gI_var | apply gG_var | apply gPG_var) <;> intro _))
  refine g_while (fun m fr t => ∃ k : Nat, m = b.length - k ∧ k ≤ b.length ∧ (∀ j, j < k → a[j]! = b[j]!) ∧ fr = [(0, v), (1, u), (5, .sc (.int .i64 k))] ∧ t = ⟨st.own, st.next, st.next⟩) b.length ?_ ⟨_, _, .refl _ _, 0, by omega, by omega, (fun j hj => absurd hj (Nat.not_lt_zero _)), rfl, rfl⟩ ?_
  · rw [hC, callP_rounds]; unfold many; omega
  · rintro m fr t ⟨k, rfl, hk, hj, rfl, rfl⟩
    by_cases hlt : k < b.length
    · have hka : k < a.length := by omega
      by_cases he : a[k]! = b[k]!
      · repeat' (first | (simp (disch := first | omega | assumption | exact bd (by with_unfolding_all rfl) | exact Or.inl rfl | exact Or.inl trivial | exact okL_map _ (fun _ => rfl) _ | (simp only [VVlen] <;> omega) | fail) only [VV0, VV1, VV2, VV3, VV4, VV5, VV6, VV7, VV8, VV9, mkFnV, vargs, slotsL, opdsA, Nat.reduceEqDiff, Nat.reduceLT, Nat.reduceAdd, Nat.reduceBEq, Int.reduceAdd, Int.reduceSub, Int.reduceLT, Int.reduceLE, Int.reduceEq, Int.reduceNeg, ↓reduceIte, reduceCtorEq, scL, scD, expand, List.replicate, c9l0, hp.len, hp.idx, hp.ld, hq.idx, hq.ld, he]) | apply gC_drawW | ((first | apply gI_dec | apply gG_dec | apply gPG_dec | apply gI_var | apply gG_var | apply gPG_var) <;> intro _))
        exact ⟨_, _, _, by omega, .refl _ _, k + 1, rfl, hlt, (fun j h => by rcases Nat.lt_succ_iff_lt_or_eq.1 h with h | h; exact hj j h; subst h; exact he), rfl, rfl⟩
      · rw [decide_eq_false (fun h => he (by rw [h]))]
        repeat' (first | (simp (disch := first | omega | assumption | exact bd (by with_unfolding_all rfl) | exact Or.inl rfl | exact Or.inl trivial | exact okL_map _ (fun _ => rfl) _ | (simp only [VVlen] <;> omega) | fail) only [VV0, VV1, VV2, VV3, VV4, VV5, VV6, VV7, VV8, VV9, mkFnV, vargs, slotsL, opdsA, Nat.reduceEqDiff, Nat.reduceLT, Nat.reduceAdd, Nat.reduceBEq, Int.reduceAdd, Int.reduceSub, Int.reduceLT, Int.reduceLE, Int.reduceEq, Int.reduceNeg, ↓reduceIte, reduceCtorEq, scL, scD, expand, List.replicate, c9l0, hp.len, hp.idx, hp.ld, hq.idx, hq.ld]) | apply gC_drawW | ((first | apply gI_dec | apply gG_dec | apply gPG_dec | apply gI_var | apply gG_var | apply gPG_var) <;> intro _))
        all_goals first | exact .refl _ _ | exact absurd ‹a[k]! = b[k]!› he
    · have : k = b.length := by omega
      subst this
      rw [decide_eq_true (eq_of_all hlen' hj)]
      repeat' (first | (simp (disch := first | omega | assumption | exact bd (by with_unfolding_all rfl) | exact Or.inl rfl | exact Or.inl trivial | exact okL_map _ (fun _ => rfl) _ | (simp only [VVlen] <;> omega) | fail) only [VV0, VV1, VV2, VV3, VV4, VV5, VV6, VV7, VV8, VV9, mkFnV, vargs, slotsL, opdsA, Nat.reduceEqDiff, Nat.reduceLT, Nat.reduceAdd, Nat.reduceBEq, Int.reduceAdd, Int.reduceSub, Int.reduceLT, Int.reduceLE, Int.reduceEq, Int.reduceNeg, ↓reduceIte, reduceCtorEq, scL, scD, expand, List.replicate, c9l0, hp.len]) | apply gC_drawW | ((first | apply gI_dec | apply gG_dec | apply gPG_dec | apply gI_var | apply gG_var | apply gPG_var) <;> intro _))
      exact .refl _ _
end
end Go.Proofs.YtkjkiodoighgnaaGreatDoor
namespace Go.Proofs.YtkjkiodoighgnaaGreatDoor
open Go Go.Itp
set_option maxRecDepth 100000
set_option maxHeartbeats 1000000
set_option linter.unusedSimpArgs false
section
variable (w:World) (n:Nat)
def selfP (b:Nat) (p:V):Prop:=p= .sc (.pointer none)∨p= .ptr b 0
theorem copyCheck_w {C:Ctx} {st:VSt} {Q:V→VSt→Prop} (hC:C.E=EN w (n+2)) (b e:Nat) (p g:V) (hb:aget st.own b=some (.box 64 e [p,g])) (hp:selfP b p) (hro:st.ro≤b)
  (hq:Q (.tup []) ⟨aset st.own b (.box 64 e [.ptr b 0,g]),st.next,st.ro⟩):CallV C 46 [.ptr b 0] st Q:=by
 refine callV_w hC rfl rfl (fun _ _=>rfl) (Nat.le_of_ble_eq_true rfl) hq fun C' hC' hn=>?_
 obtain ⟨H,nx,ro⟩:=st
 have h2:(2:Nat)≤ [p,g].length:=Nat.le_refl _
 rcases hp with rfl|rfl
 ·repeat' (first|(simp (disch:=first|omega|assumption|exact bd (by with_unfolding_all rfl)|exact Or.inl rfl|exact Or.inl trivial|exact okL_map _ (fun _=>rfl) _|(simp only[VVlen]<;>omega)|fail) only[VV0,VV1,VV2,VV3,VV4,VV5,VV6,VV7,VV8,VV9,mkFnV,vargs,slotsL,opdsA,Nat.reduceEqDiff,Nat.reduceLT,Nat.reduceAdd,Nat.reduceBEq,Int.reduceAdd,Int.reduceSub,Int.reduceLT,Int.reduceLE,Int.reduceEq,Int.reduceNeg,↓reduceIte,reduceCtorEq,scL,scD,expand,List.replicate,c46,hb,eqNilP_ptr,eqNilP_nil])|apply gC_drawW|((first|apply gI_dec|apply gG_dec|apply gPG_dec|apply gI_var|apply gG_var|apply gPG_var)<;>intro _))
  refine callV_same hC' (fun x s=>?_) ?_
  ·show PR w _ [x] s=some (x,[])
   rfl
  repeat' (first|(simp (disch:=first|omega|assumption|exact bd (by with_unfolding_all rfl)|exact Or.inl rfl|exact Or.inl trivial|exact okL_map _ (fun _=>rfl) _|(simp only[VVlen]<;>omega)|fail) only[VV0,VV1,VV2,VV3,VV4,VV5,VV6,VV7,VV8,VV9,mkFnV,vargs,slotsL,opdsA,Nat.reduceEqDiff,Nat.reduceLT,Nat.reduceAdd,Nat.reduceBEq,Int.reduceAdd,Int.reduceSub,Int.reduceLT,Int.reduceLE,Int.reduceEq,Int.reduceNeg,↓reduceIte,reduceCtorEq,scL,scD,expand,List.replicate,hb,eqNilP_ptr])|apply gC_drawW|((first|apply gI_dec|apply gG_dec|apply gPG_dec|apply gI_var|apply gG_var|apply gPG_var)<;>intro _))
  exact .refl _ _
 ·have hs:aset H b (.box 64 e [.ptr b 0,g])=H:=aset_self _ _ _ hb
  repeat' (first|(simp (disch:=first|omega|assumption|exact bd (by with_unfolding_all rfl)|exact Or.inl rfl|exact Or.inl trivial|exact okL_map _ (fun _=>rfl) _|(simp only[VVlen]<;>omega)|fail) only[VV0,VV1,VV2,VV3,VV4,VV5,VV6,VV7,VV8,VV9,mkFnV,vargs,slotsL,opdsA,Nat.reduceEqDiff,Nat.reduceLT,Nat.reduceAdd,Nat.reduceBEq,Int.reduceAdd,Int.reduceSub,Int.reduceLT,Int.reduceLE,Int.reduceEq,Int.reduceNeg,↓reduceIte,reduceCtorEq,scL,scD,expand,List.replicate,c46,hb,eqPtrV_same,eqNilP_ptr,eqNilP_nil])|apply gC_drawW|((first|apply gI_dec|apply gG_dec|apply gPG_dec|apply gI_var|apply gG_var|apply gPG_var)<;>intro _))
  rw[hs]
  exact .refl _ _
theorem writeString_w {C:Ctx} {st:VSt} {Q:V→VSt→Prop} (hC:C.E=EN w (n+3)) (b r:Nat) (p:V) (acc s:ByteArray) (hb:aget st.own b=some (.box 64 1 [p,.gr 2 r acc.size])) (hr:aget st.own r=some (.gro 5 1 false (strD acc))) (hp:selfP b p) (hro:st.ro≤b) (hro2:st.ro≤r) (hrb:r ≠ b) (hlt:b ≠ st.next)
  (hsz:acc.size+s.size≤1099511627776) (hq:Q (.tup [.sc (.int .i64 s.size),.sc .nilIface]) ⟨(st.next,.gro 5 1 false (strD (acc++s)))::aset (adel r st.own) b (.box 64 1 [.ptr b 0,.gr 2 st.next (acc.size+s.size)]),st.next+1,st.ro⟩):
  CallV C 35 [.ptr b 0,.sc (.string s)] st Q:=by
 refine callV_w hC rfl rfl (fun _ _=>rfl) (Nat.le_of_ble_eq_true rfl) hq fun C' hC' hn=>?_
 obtain ⟨H,nx,ro⟩:=st
 have h1:=strD_len acc
 have h2:=strD_ok s
 have a1:aget (aset H b (.box 64 1 [.ptr b 0,.gr 2 r acc.size])) b=some (.box 64 1 [.ptr b 0,.gr 2 r acc.size]):=aget_aset_eq hb
 have a2:aget (aset H b (.box 64 1 [.ptr b 0,.gr 2 r acc.size])) r=some (.gro 5 1 false (strD acc)):=by rw[aget_aset _ _ _ _ _ hb,if_neg hrb];exact hr
 have hbr:¬ b=r:=fun e=>hrb e.symm
 have a3:aget (adel r (aset H b (.box 64 1 [.ptr b 0,.gr 2 r acc.size]))) b=some (.box 64 1 [.ptr b 0,.gr 2 r acc.size]):=by rw[aget_adel,if_neg hbr];exact a1
 repeat' (first|(simp (disch:=first|omega|assumption|exact bd (by with_unfolding_all rfl)|exact Or.inl rfl|exact Or.inl trivial|exact okL_map _ (fun _=>rfl) _|(simp only[VVlen]<;>omega)|fail) only[VV0,VV1,VV2,VV3,VV4,VV5,VV6,VV7,VV8,VV9,mkFnV,vargs,slotsL,opdsA,Nat.reduceEqDiff,Nat.reduceLT,Nat.reduceAdd,Nat.reduceBEq,Int.reduceAdd,Int.reduceSub,Int.reduceLT,Int.reduceLE,Int.reduceEq,Int.reduceNeg,↓reduceIte,reduceCtorEq,scL,scD,expand,List.replicate,c35])|apply gC_drawW|((first|apply gI_dec|apply gG_dec|apply gPG_dec|apply gI_var|apply gG_var|apply gPG_var)<;>intro _))
 refine copyCheck_w w n hC' b 1 p _ hb hp hro ?_
 repeat' (first|(simp (disch:=first|omega|assumption|exact bd (by with_unfolding_all rfl)|exact Or.inl rfl|exact Or.inl trivial|exact okL_map _ (fun _=>rfl) _|(simp only[VVlen]<;>omega)|fail) only[VV0,VV1,VV2,VV3,VV4,VV5,VV6,VV7,VV8,VV9,mkFnV,vargs,slotsL,opdsA,Nat.reduceEqDiff,Nat.reduceLT,Nat.reduceAdd,Nat.reduceBEq,Int.reduceAdd,Int.reduceSub,Int.reduceLT,Int.reduceLE,Int.reduceEq,Int.reduceNeg,↓reduceIte,reduceCtorEq,scL,scD,expand,List.replicate,a1,a2,a3,srcOf_str,strD_eq,hbr,hlt,strD_append,frozA_none])|apply gC_drawW|((first|apply gI_dec|apply gG_dec|apply gPG_dec|apply gI_var|apply gG_var|apply gPG_var)<;>intro _))
 rw[adel_aset _ _ _ _ hrb,aset_aset]
 exact .refl _ _
theorem string_w {C:Ctx} {st:VSt} {Q:V→VSt→Prop} (hC:C.E=EN w (n+1)) (b r:Nat) (p:V) (acc:ByteArray) (hb:aget st.own b=some (.box 64 1 [p,.gr 2 r acc.size])) (hr:aget st.own r=some (.gro 5 1 false (strD acc))) (hro:st.ro≤b) (hro2:st.ro≤r)
  (hsz:acc.size≤1099511627776) (hq:∀ st',st'.ro=st.ro→Q (.sc (.string acc)) st'):CallV C 36 [.ptr b 0] st Q:=by
 obtain ⟨H,nx,ro⟩:=st
 by_cases h0:acc.size=0
 ·rw[h0] at hb
  have hs:acc=ByteArray.empty:=by
   apply ByteArray.ext;apply Array.ext'
   rw[List.eq_nil_of_length_eq_zero (show acc.data.toList.length=0 by simpa using h0)]
   rfl
  refine callV_wW (st':=⟨aset H b (.box 64 1 [p,.sc (.slice none 0 0)]),nx,ro⟩) hC rfl rfl (fun _ _=>rfl) (Nat.le_of_ble_eq_true rfl) (hq ⟨aset H b (.box 64 1 [p,.sc (.slice none 0 0)]),nx,ro⟩ rfl) (fun C' hn=>?_) fun C' hC' hn=>?_
  ·exact weak_cell (C:=C') (st:=⟨H,nx,ro⟩) (k:=1) hb rfl same_gr0
  have a1:aget (aset H b (.box 64 1 [p,.sc (.slice none 0 0)])) b=some (.box 64 1 [p,.sc (.slice none 0 0)]):=aget_aset_eq hb
  rw[hs]
  repeat' (first|(simp (disch:=first|omega|assumption|exact bd (by with_unfolding_all rfl)|exact Or.inl rfl|exact Or.inl trivial|exact okL_map _ (fun _=>rfl) _|(simp only[VVlen]<;>omega)|fail) only[VV0,VV1,VV2,VV3,VV4,VV5,VV6,VV7,VV8,VV9,mkFnV,vargs,slotsL,opdsA,Nat.reduceEqDiff,Nat.reduceLT,Nat.reduceAdd,Nat.reduceBEq,Int.reduceAdd,Int.reduceSub,Int.reduceLT,Int.reduceLE,Int.reduceEq,Int.reduceNeg,↓reduceIte,reduceCtorEq,scL,scD,expand,List.replicate,c36,a1,vustr_nil])|apply gC_drawW|((first|apply gI_dec|apply gG_dec|apply gPG_dec|apply gI_var|apply gG_var|apply gPG_var)<;>intro _))
  exact .refl _ _
 ·refine callV_w hC rfl rfl (fun _ _=>rfl) (Nat.le_of_ble_eq_true rfl) (hq ⟨adel r H,nx,ro⟩ rfl) fun C' hC' hn=>?_
  have hv:=vustr_gro ⟨H,nx,ro⟩ 5 1 r acc hr hro2 (by omega) hsz
  repeat' (first|(simp (disch:=first|omega|assumption|exact bd (by with_unfolding_all rfl)|exact Or.inl rfl|exact Or.inl trivial|exact okL_map _ (fun _=>rfl) _|(simp only[VVlen]<;>omega)|fail) only[VV0,VV1,VV2,VV3,VV4,VV5,VV6,VV7,VV8,VV9,mkFnV,vargs,slotsL,opdsA,Nat.reduceEqDiff,Nat.reduceLT,Nat.reduceAdd,Nat.reduceBEq,Int.reduceAdd,Int.reduceSub,Int.reduceLT,Int.reduceLE,Int.reduceEq,Int.reduceNeg,↓reduceIte,reduceCtorEq,scL,scD,expand,List.replicate,c36,hb,h0,hv])|apply gC_drawW|((first|apply gI_dec|apply gG_dec|apply gPG_dec|apply gI_var|apply gG_var|apply gPG_var)<;>intro _))
  exact .refl _ _
end
end Go.Proofs.YtkjkiodoighgnaaGreatDoor
namespace Go.Proofs.YtkjkiodoighgnaaGreatDoor
open Go Go.Itp
set_option maxRecDepth 100000
set_option maxHeartbeats 1000000
set_option linter.unusedSimpArgs false
abbrev strV (l:List UInt8):V:= .sc (.string ⟨l.toArray⟩)
section
variable (w:World) (n:Nat)
end
end Go.Proofs.YtkjkiodoighgnaaGreatDoor
namespace Go.Proofs.YtkjkiodoighgnaaGreatDoor
open Go Go.Itp
set_option maxRecDepth 100000
set_option maxHeartbeats 1000000
set_option linter.unusedSimpArgs false
section
variable (w:World) (n:Nat)
theorem indexByteString_o (st:VSt) (l:List UInt8) (c:UInt8):VSpecO (EN w (n+1)) 99 st [strV l,.sc (.int .u8 c.toNat)] (.sc (.int .i64 (idxB c l))):=by
 refine prim_o (ys:= [.string ⟨l.toArray⟩,.int .u8 c.toNat]) (fun s=>?_) rfl
 refine orElse_left ?_
 show primA .indexByte 0 [.string ⟨l.toArray⟩,.int .u8 c.toNat] s=_
 unfold primA
 simp only[Int.toNat_natCast]
 rw[show c.toNat.toUInt8=c by simp,firstIdxA_l]
theorem indexByte_p (l:List UInt8) (c:UInt8):VSpec (EN w (n+2)) 88 [strV l,.sc (.int .u8 c.toNat)] (.sc (.int .i64 (idxB c l))) ⟨[],0,0⟩:=by
 refine vspec_flat rfl rfl (fun _ _=>rfl) (Nat.le_of_ble_eq_true rfl) (oldVals w) rfl fun C hC h0=>?_
 repeat' (first|(simp (disch:=first|omega|assumption|exact bd (by with_unfolding_all rfl)|exact Or.inl rfl|exact Or.inl trivial|exact okL_map _ (fun _=>rfl) _|(simp only[VVlen]<;>omega)|fail) only[VV0,VV1,VV2,VV3,VV4,VV5,VV6,VV7,VV8,VV9,mkFnV,vargs,slotsL,opdsA,Nat.reduceEqDiff,Nat.reduceLT,Nat.reduceAdd,Nat.reduceBEq,Int.reduceAdd,Int.reduceSub,Int.reduceLT,Int.reduceLE,Int.reduceEq,Int.reduceNeg,↓reduceIte,reduceCtorEq,scL,scD,expand,List.replicate,c88])|apply gC_drawW|((first|apply gI_dec|apply gG_dec|apply gPG_dec|apply gI_var|apply gG_var|apply gPG_var)<;>intro _))
 refine callV_flat (by rw[hC];exact indexByteString_o w n _ l c) ?_
 repeat' (first|(simp (disch:=first|omega|assumption|exact bd (by with_unfolding_all rfl)|exact Or.inl rfl|exact Or.inl trivial|exact okL_map _ (fun _=>rfl) _|(simp only[VVlen]<;>omega)|fail) only[VV0,VV1,VV2,VV3,VV4,VV5,VV6,VV7,VV8,VV9,mkFnV,vargs,slotsL,opdsA,Nat.reduceEqDiff,Nat.reduceLT,Nat.reduceAdd,Nat.reduceBEq,Int.reduceAdd,Int.reduceSub,Int.reduceLT,Int.reduceLE,Int.reduceEq,Int.reduceNeg,↓reduceIte,reduceCtorEq,scL,scD,expand,List.replicate])|apply gC_drawW|((first|apply gI_dec|apply gG_dec|apply gPG_dec|apply gI_var|apply gG_var|apply gPG_var)<;>intro _))
 exact weak_flat rfl h0 rfl
theorem index1_p (l:List UInt8) (c:UInt8) (hl:l.length≤1000000000):VSpec (EN w (n+3)) 74 [strV l,strV [c]] (.sc (.int .i64 (idxB c l))) ⟨[],0,0⟩:=by
 refine vspec_flat rfl rfl (fun _ _=>rfl) (Nat.le_of_ble_eq_true rfl) (oldVals w) rfl fun C hC h0=>?_
 have h1:(ByteArray.mk [c].toArray).size=1:=rfl
 have hlc:((ByteArray.mk [c].toArray)=ByteArray.mk l.toArray)↔l= [c]:=by
  constructor
  ·intro h
   have:=congrArg (fun b:ByteArray=>b.data.toList) h
   simpa using this.symm
  ·rintro rfl;rfl
 by_cases hc:l= [c]
 ·subst hc
  have hi:idxB c [c]=0:=idxB_app (a:= []) [] (by simp)
  rw[hi]
  repeat' (first|(simp (disch:=first|omega|assumption|exact bd (by with_unfolding_all rfl)|exact Or.inl rfl|exact Or.inl trivial|exact okL_map _ (fun _=>rfl) _|(simp only[VVlen]<;>omega)|fail) only[VV0,VV1,VV2,VV3,VV4,VV5,VV6,VV7,VV8,VV9,mkFnV,vargs,slotsL,opdsA,Nat.reduceEqDiff,Nat.reduceLT,Nat.reduceAdd,Nat.reduceBEq,Int.reduceAdd,Int.reduceSub,Int.reduceLT,Int.reduceLE,Int.reduceEq,Int.reduceNeg,↓reduceIte,reduceCtorEq,scL,scD,expand,List.replicate,c74,h1])|apply gC_drawW|((first|apply gI_dec|apply gG_dec|apply gPG_dec|apply gI_var|apply gG_var|apply gPG_var)<;>intro _))
  exact weak_flat rfl h0 rfl
 ·have hb:idxStrV (strV [c]) (.sc (.int .i64 0))=some (.sc (.int .u8 c.toNat)):=by
   rw[idxStr_l _ _ _ (by omega) (by simp)]
   rfl
  repeat' (first|(simp (disch:=first|omega|assumption|exact bd (by with_unfolding_all rfl)|exact Or.inl rfl|exact Or.inl trivial|exact okL_map _ (fun _=>rfl) _|(simp only[VVlen]<;>omega)|fail) only[VV0,VV1,VV2,VV3,VV4,VV5,VV6,VV7,VV8,VV9,mkFnV,vargs,slotsL,opdsA,Nat.reduceEqDiff,Nat.reduceLT,Nat.reduceAdd,Nat.reduceBEq,Int.reduceAdd,Int.reduceSub,Int.reduceLT,Int.reduceLE,Int.reduceEq,Int.reduceNeg,↓reduceIte,reduceCtorEq,scL,scD,expand,List.replicate,c74,h1,hlc,hc,hb])|apply gC_drawW|((first|apply gI_dec|apply gG_dec|apply gPG_dec|apply gI_var|apply gG_var|apply gPG_var)<;>intro _))
  refine callV_flat ((indexByte_p w n l c).of hC rfl _ rfl) ?_
  repeat' (first|(simp (disch:=first|omega|assumption|exact bd (by with_unfolding_all rfl)|exact Or.inl rfl|exact Or.inl trivial|exact okL_map _ (fun _=>rfl) _|(simp only[VVlen]<;>omega)|fail) only[VV0,VV1,VV2,VV3,VV4,VV5,VV6,VV7,VV8,VV9,mkFnV,vargs,slotsL,opdsA,Nat.reduceEqDiff,Nat.reduceLT,Nat.reduceAdd,Nat.reduceBEq,Int.reduceAdd,Int.reduceSub,Int.reduceLT,Int.reduceLE,Int.reduceEq,Int.reduceNeg,↓reduceIte,reduceCtorEq,scL,scD,expand,List.replicate])|apply gC_drawW|((first|apply gI_dec|apply gG_dec|apply gPG_dec|apply gI_var|apply gG_var|apply gPG_var)<;>intro _))
  exact weak_flat rfl h0 rfl
theorem index_p (l:List UInt8) (c:UInt8) (hl:l.length≤1000000000):VSpec (EN w (n+4)) 54 [strV l,strV [c]] (.sc (.int .i64 (idxB c l))) ⟨[],0,0⟩:=by
 refine vspec_flat rfl rfl (fun _ _=>rfl) (Nat.le_of_ble_eq_true rfl) (oldVals w) rfl fun C hC h0=>?_
 repeat' (first|(simp (disch:=first|omega|assumption|exact bd (by with_unfolding_all rfl)|exact Or.inl rfl|exact Or.inl trivial|exact okL_map _ (fun _=>rfl) _|(simp only[VVlen]<;>omega)|fail) only[VV0,VV1,VV2,VV3,VV4,VV5,VV6,VV7,VV8,VV9,mkFnV,vargs,slotsL,opdsA,Nat.reduceEqDiff,Nat.reduceLT,Nat.reduceAdd,Nat.reduceBEq,Int.reduceAdd,Int.reduceSub,Int.reduceLT,Int.reduceLE,Int.reduceEq,Int.reduceNeg,↓reduceIte,reduceCtorEq,scL,scD,expand,List.replicate,c54])|apply gC_drawW|((first|apply gI_dec|apply gG_dec|apply gPG_dec|apply gI_var|apply gG_var|apply gPG_var)<;>intro _))
 refine callV_flat ((index1_p w n l c hl).of hC rfl _ rfl) ?_
 repeat' (first|(simp (disch:=first|omega|assumption|exact bd (by with_unfolding_all rfl)|exact Or.inl rfl|exact Or.inl trivial|exact okL_map _ (fun _=>rfl) _|(simp only[VVlen]<;>omega)|fail) only[VV0,VV1,VV2,VV3,VV4,VV5,VV6,VV7,VV8,VV9,mkFnV,vargs,slotsL,opdsA,Nat.reduceEqDiff,Nat.reduceLT,Nat.reduceAdd,Nat.reduceBEq,Int.reduceAdd,Int.reduceSub,Int.reduceLT,Int.reduceLE,Int.reduceEq,Int.reduceNeg,↓reduceIte,reduceCtorEq,scL,scD,expand,List.replicate])|apply gC_drawW|((first|apply gI_dec|apply gG_dec|apply gPG_dec|apply gI_var|apply gG_var|apply gPG_var)<;>intro _))
 exact weak_flat rfl h0 rfl
end
end Go.Proofs.YtkjkiodoighgnaaGreatDoor
namespace Go.Proofs.YtkjkiodoighgnaaGreatDoor
open Go Go.Itp
set_option maxRecDepth 100000
set_option maxHeartbeats 1000000
set_option linter.unusedSimpArgs false
abbrev sBox (l:List UInt8):Itp.Obj:= .box 9 1 [strV l]
theorem split_ret (l:List UInt8) (c:UInt8):RetOK [(2,.box 3 1 [.sc (.int .i64 0)]),(1,sBox [c]),(0,sBox l)] (.fn 52 [] [.ptr 1 0,.ptr 0 0,.ptr 2 0]):=by
 refine ⟨?_,fun o t e L h=>?_,fun o ob h=>?_⟩
 ·simp only[Cl,ClL,and_true,true_and]
  exact ⟨⟨_,rfl,rfl⟩,⟨_,rfl,rfl⟩,⟨_,rfl,rfl⟩⟩
 ·simp only[aget_cons,aget_nil] at h
  split at h
  ·cases h;exact ⟨trivial,trivial⟩
  split at h
  ·cases h;exact ⟨trivial,trivial⟩
  split at h
  ·cases h;exact ⟨trivial,trivial⟩
  ·cases h
 ·intro _
  refine VR.root o ?_
  simp only[aget_cons,aget_nil] at h
  simp only[vids,vidsL,List.mem_append,List.mem_cons,List.not_mem_nil,or_false,false_or]
  split at h
  ·omega
  split at h
  ·omega
  split at h
  ·omega
  ·cases h
section
variable (w:World) (n:Nat)
theorem splitSeq0_p (l:List UInt8) (c:UInt8):VSpec (EN w (n+1)) 42 [strV l,strV [c],.sc (.int .i64 0)] (.fn 52 [] [.ptr 1 0,.ptr 0 0,.ptr 2 0]) ⟨[(2,.box 3 1 [.sc (.int .i64 0)]),(1,sBox [c]),(0,sBox l)],3,0⟩:=by
 refine vspec_g rfl rfl (fun _ _=>rfl) (Nat.le_of_ble_eq_true rfl) (oldVals w) (split_ret l c) rfl fun C hC hn=>?_
 repeat' (first|(simp (disch:=first|omega|assumption|exact bd (by with_unfolding_all rfl)|exact Or.inl rfl|exact Or.inl trivial|exact okL_map _ (fun _=>rfl) _|(simp only[VVlen]<;>omega)|fail) only[VV0,VV1,VV2,VV3,VV4,VV5,VV6,VV7,VV8,VV9,mkFnV,vargs,slotsL,opdsA,Nat.reduceEqDiff,Nat.reduceLT,Nat.reduceAdd,Nat.reduceBEq,Int.reduceAdd,Int.reduceSub,Int.reduceLT,Int.reduceLE,Int.reduceEq,Int.reduceNeg,↓reduceIte,reduceCtorEq,scL,scD,expand,List.replicate,c42])|apply gC_drawW|((first|apply gI_dec|apply gG_dec|apply gPG_dec|apply gI_var|apply gG_var|apply gPG_var)<;>intro _))
 exact weak_to [(2,2),(1,1),(0,0)] 3 hn rfl rfl rfl rfl
theorem splitSeq_p (l:List UInt8) (c:UInt8):VSpec (EN w (n+2)) 32 [strV l,strV [c]] (.fn 52 [] [.ptr 1 0,.ptr 0 0,.ptr 2 0]) ⟨[(2,.box 3 1 [.sc (.int .i64 0)]),(1,sBox [c]),(0,sBox l)],3,0⟩:=by
 refine vspec_g rfl rfl (fun _ _=>rfl) (Nat.le_of_ble_eq_true rfl) (oldVals w) (split_ret l c) rfl fun C hC hn=>?_
 repeat' (first|(simp (disch:=first|omega|assumption|exact bd (by with_unfolding_all rfl)|exact Or.inl rfl|exact Or.inl trivial|exact okL_map _ (fun _=>rfl) _|(simp only[VVlen]<;>omega)|fail) only[VV0,VV1,VV2,VV3,VV4,VV5,VV6,VV7,VV8,VV9,mkFnV,vargs,slotsL,opdsA,Nat.reduceEqDiff,Nat.reduceLT,Nat.reduceAdd,Nat.reduceBEq,Int.reduceAdd,Int.reduceSub,Int.reduceLT,Int.reduceLE,Int.reduceEq,Int.reduceNeg,↓reduceIte,reduceCtorEq,scL,scD,expand,List.replicate,c32])|apply gC_drawW|((first|apply gI_dec|apply gG_dec|apply gPG_dec|apply gI_var|apply gG_var|apply gPG_var)<;>intro _))
 refine callV_of (by rw[hC];exact splitSeq0_p w n l c) rfl rfl rfl ?_
 repeat' (first|(simp (disch:=first|omega|assumption|exact bd (by with_unfolding_all rfl)|exact Or.inl rfl|exact Or.inl trivial|exact okL_map _ (fun _=>rfl) _|(simp only[VVlen]<;>omega)|fail) only[VV0,VV1,VV2,VV3,VV4,VV5,VV6,VV7,VV8,VV9,mkFnV,vargs,slotsL,opdsA,Nat.reduceEqDiff,Nat.reduceLT,Nat.reduceAdd,Nat.reduceBEq,Int.reduceAdd,Int.reduceSub,Int.reduceLT,Int.reduceLE,Int.reduceEq,Int.reduceNeg,↓reduceIte,reduceCtorEq,scL,scD,expand,List.replicate,vsh,vshL,shH,shO,fzSL,fzS])|apply gC_drawW|((first|apply gI_dec|apply gG_dec|apply gPG_dec|apply gI_var|apply gG_var|apply gPG_var)<;>intro _))
 exact weak_to [(2,2),(1,1),(0,0)] 3 hn rfl rfl rfl rfl
end
theorem split_iter {C':Ctx} {E:Env} {a b:AC} {fr:VFr} {ps:List Nat} {d oP oS oV:Nat} {c:UInt8} {s:List UInt8} (w:World) (n:Nat) (J:List (List UInt8)→List UInt8→VSt→Prop) (S:VSt→Prop) {P:VPost}
  (hE:C'.E.pcall=(EN w (n+4)).pcall) (hO:C'.E.old=oldOf w) (hr:C'.E.rounds=many) (hl:s.length≤1000000) (hT:∀ xs st Q,RoundV E a b fr ps d xs st Q→CallT C' d xs st Q)
  (hbox:∀ dn r st,J dn r st→aget st.own oS=some (sBox r)∧aget st.own oP=some (sBox [c])∧aget st.own oV=some (.box 3 1 [.sc (.int .i64 0)])∧st.ro≤oS)
  (hround:∀ dn r x ws st (Q:V→VSt→Prop),words c s=dn++words c r→words c r=x::ws→J dn r st→(∀ st',J (dn++ [x]) r st'→Q (.sc (.bool true)) st')→(∀ st',S st'→Q (.sc (.bool false)) st')→RoundV E a b fr ps d [strV x] st Q)
  (hset:∀ dn r r' st,J dn r st→J dn r' ⟨aset st.own oS (sBox r'),st.next,st.ro⟩)
  (hend:∀ fr st r,J (words c s) r st→P .normal fr st) (hstop:∀ ex fr st,(∀ i,ex ≠ .exit i)→S st→P ex fr st) (st0:VSt) (h0:J [] s st0):
  gC C' c52.code [] (vargs 0 [.tok d,.ptr oP 0,.ptr oS 0,.ptr oV 0]) st0 P:=by
 obtain ⟨k1,k2,k3,k4⟩:=hbox _ _ _ h0
 have h1:(ByteArray.mk [c].toArray).size=1:=rfl
 have h1i:((1:Nat):Int)=1:=rfl
 have hidx:∀ (st:VSt) (r:List UInt8),r.length≤1000000→VSpecO C'.E 54 st [strV r,strV [c]] (.sc (.int .i64 (idxB c r))):=fun st r hr=>((index_p w n r c (by omega)).flat rfl rfl).env hE hO
 repeat' (first|(simp (disch:=first|omega|assumption|exact bd (by with_unfolding_all rfl)|exact Or.inl rfl|exact Or.inl trivial|exact okL_map _ (fun _=>rfl) _|(simp only[VVlen]<;>omega)|fail) only[VV0,VV1,VV2,VV3,VV4,VV5,VV6,VV7,VV8,VV9,mkFnV,vargs,slotsL,opdsA,Nat.reduceEqDiff,Nat.reduceLT,Nat.reduceAdd,Nat.reduceBEq,Int.reduceAdd,Int.reduceSub,Int.reduceLT,Int.reduceLE,Int.reduceEq,Int.reduceNeg,↓reduceIte,reduceCtorEq,scL,scD,expand,List.replicate,c52,k2,h1,h1i])|apply gC_drawW|((first|apply gI_dec|apply gG_dec|apply gPG_dec|apply gI_var|apply gG_var|apply gPG_var)<;>intro _))
 all_goals try (exfalso;omega)
 refine g_while (fun m fr st=>∃ dn r,m=r.length∧r.length≤1000000∧words c s=dn++words c r∧J dn r st∧fr= [(0,.tok d),(1,.ptr oP 0),(2,.ptr oS 0),(3,.ptr oV 0)]) s.length ?_ ⟨_,_,weak_akeep [0,1,2,3] rfl,[],s,rfl,hl,rfl,h0,rfl⟩ ?_
 ·rw[hr];unfold many;omega
 rintro _ fr1 st ⟨dn,r,rfl,hrl,hw,hJ,rfl⟩
 obtain ⟨k1,k2,k3,k4⟩:=hbox _ _ _ hJ
 rcases byte_split c r with hf|⟨x,r',rfl,hf⟩
 ·have hi:=idxB_free hf
  repeat' (first|(simp (disch:=first|omega|assumption|exact bd (by with_unfolding_all rfl)|exact Or.inl rfl|exact Or.inl trivial|exact okL_map _ (fun _=>rfl) _|(simp only[VVlen]<;>omega)|fail) only[VV0,VV1,VV2,VV3,VV4,VV5,VV6,VV7,VV8,VV9,mkFnV,vargs,slotsL,opdsA,Nat.reduceEqDiff,Nat.reduceLT,Nat.reduceAdd,Nat.reduceBEq,Int.reduceAdd,Int.reduceSub,Int.reduceLT,Int.reduceLE,Int.reduceEq,Int.reduceNeg,↓reduceIte,reduceCtorEq,scL,scD,expand,List.replicate,c52l0,k1,k2,k3])|apply gC_drawW|((first|apply gI_dec|apply gG_dec|apply gPG_dec|apply gI_var|apply gG_var|apply gPG_var)<;>intro _))
  refine callV_flat (hidx _ r hrl) ?_
  rw[hi]
  repeat' (first|(simp (disch:=first|omega|assumption|exact bd (by with_unfolding_all rfl)|exact Or.inl rfl|exact Or.inl trivial|exact okL_map _ (fun _=>rfl) _|(simp only[VVlen]<;>omega)|fail) only[VV0,VV1,VV2,VV3,VV4,VV5,VV6,VV7,VV8,VV9,mkFnV,vargs,slotsL,opdsA,Nat.reduceEqDiff,Nat.reduceLT,Nat.reduceAdd,Nat.reduceBEq,Int.reduceAdd,Int.reduceSub,Int.reduceLT,Int.reduceLE,Int.reduceEq,Int.reduceNeg,↓reduceIte,reduceCtorEq,scL,scD,expand,List.replicate,k1,k2,k3])|apply gC_drawW|((first|apply gI_dec|apply gG_dec|apply gPG_dec|apply gI_var|apply gG_var|apply gPG_var)<;>intro _))
  all_goals try (exfalso;omega)
  have hwr:=words_free hf
  refine hT _ _ _ (hround dn r r [] st _ hw hwr hJ (fun st' hJ'=>?_) (fun st' hS=>?_))
  ·repeat' (first|(simp (disch:=first|omega|assumption|exact bd (by with_unfolding_all rfl)|exact Or.inl rfl|exact Or.inl trivial|exact okL_map _ (fun _=>rfl) _|(simp only[VVlen]<;>omega)|fail) only[VV0,VV1,VV2,VV3,VV4,VV5,VV6,VV7,VV8,VV9,mkFnV,vargs,slotsL,opdsA,Nat.reduceEqDiff,Nat.reduceLT,Nat.reduceAdd,Nat.reduceBEq,Int.reduceAdd,Int.reduceSub,Int.reduceLT,Int.reduceLE,Int.reduceEq,Int.reduceNeg,↓reduceIte,reduceCtorEq,scL,scD,expand,List.replicate])|apply gC_drawW|((first|apply gI_dec|apply gG_dec|apply gPG_dec|apply gI_var|apply gG_var|apply gPG_var)<;>intro _))
   exact hend _ _ r (by rw[hw,hwr];exact hJ')
  ·repeat' (first|(simp (disch:=first|omega|assumption|exact bd (by with_unfolding_all rfl)|exact Or.inl rfl|exact Or.inl trivial|exact okL_map _ (fun _=>rfl) _|(simp only[VVlen]<;>omega)|fail) only[VV0,VV1,VV2,VV3,VV4,VV5,VV6,VV7,VV8,VV9,mkFnV,vargs,slotsL,opdsA,Nat.reduceEqDiff,Nat.reduceLT,Nat.reduceAdd,Nat.reduceBEq,Int.reduceAdd,Int.reduceSub,Int.reduceLT,Int.reduceLE,Int.reduceEq,Int.reduceNeg,↓reduceIte,reduceCtorEq,scL,scD,expand,List.replicate])|apply gC_drawW|((first|apply gI_dec|apply gG_dec|apply gPG_dec|apply gI_var|apply gG_var|apply gPG_var)<;>intro _))
   exact hstop _ _ _ (fun i h=>by cases h) hS
 ·have hi:=idxB_app r' hf
  have hlen:(x++c::r').length=x.length+r'.length+1:=by simp;omega
  have hwr:=words_app r' hf
  have e1:=slcS_hi (x++c::r') .i64 x.length (by omega) (by rw[hlen];omega)
  have e2:=slcS_lo (x++c::r') .i64 ((x.length:Int)+1) (by omega) (by rw[hlen];omega)
  rw[Int.toNat_natCast,List.take_left] at e1
  rw[show ((x.length:Int)+1).toNat=x.length+1 by omega,show (x++c::r').drop (x.length+1)=r' by rw[← List.drop_drop];simp] at e2
  repeat' (first|(simp (disch:=first|omega|assumption|exact bd (by with_unfolding_all rfl)|exact Or.inl rfl|exact Or.inl trivial|exact okL_map _ (fun _=>rfl) _|(simp only[VVlen]<;>omega)|fail) only[VV0,VV1,VV2,VV3,VV4,VV5,VV6,VV7,VV8,VV9,mkFnV,vargs,slotsL,opdsA,Nat.reduceEqDiff,Nat.reduceLT,Nat.reduceAdd,Nat.reduceBEq,Int.reduceAdd,Int.reduceSub,Int.reduceLT,Int.reduceLE,Int.reduceEq,Int.reduceNeg,↓reduceIte,reduceCtorEq,scL,scD,expand,List.replicate,c52l0,k1,k2,k3])|apply gC_drawW|((first|apply gI_dec|apply gG_dec|apply gPG_dec|apply gI_var|apply gG_var|apply gPG_var)<;>intro _))
  refine callV_flat (hidx _ _ hrl) ?_
  rw[hi]
  repeat' (first|(simp (disch:=first|omega|assumption|exact bd (by with_unfolding_all rfl)|exact Or.inl rfl|exact Or.inl trivial|exact okL_map _ (fun _=>rfl) _|(simp only[VVlen]<;>omega)|fail) only[VV0,VV1,VV2,VV3,VV4,VV5,VV6,VV7,VV8,VV9,mkFnV,vargs,slotsL,opdsA,Nat.reduceEqDiff,Nat.reduceLT,Nat.reduceAdd,Nat.reduceBEq,Int.reduceAdd,Int.reduceSub,Int.reduceLT,Int.reduceLE,Int.reduceEq,Int.reduceNeg,↓reduceIte,reduceCtorEq,scL,scD,expand,List.replicate,k1,k2,k3,e1,Int.add_zero])|apply gC_drawW|((first|apply gI_dec|apply gG_dec|apply gPG_dec|apply gI_var|apply gG_var|apply gPG_var)<;>intro _))
  all_goals try (exfalso;omega)
  refine hT _ _ _ (hround dn _ x (words c r') _ _ hw hwr hJ (fun st' hJ'=>?_) (fun st' hS=>?_))
  ·obtain ⟨k1,k2,k3,k4⟩:=hbox _ _ _ hJ'
   repeat' (first|(simp (disch:=first|omega|assumption|exact bd (by with_unfolding_all rfl)|exact Or.inl rfl|exact Or.inl trivial|exact okL_map _ (fun _=>rfl) _|(simp only[VVlen]<;>omega)|fail) only[VV0,VV1,VV2,VV3,VV4,VV5,VV6,VV7,VV8,VV9,mkFnV,vargs,slotsL,opdsA,Nat.reduceEqDiff,Nat.reduceLT,Nat.reduceAdd,Nat.reduceBEq,Int.reduceAdd,Int.reduceSub,Int.reduceLT,Int.reduceLE,Int.reduceEq,Int.reduceNeg,↓reduceIte,reduceCtorEq,scL,scD,expand,List.replicate,k1,k2,k3,h1,h1i,e2])|apply gC_drawW|((first|apply gI_dec|apply gG_dec|apply gPG_dec|apply gI_var|apply gG_var|apply gPG_var)<;>intro _))
   refine ⟨_,_,_,?_,.refl _ _,dn++ [x],r',rfl,by omega,?_,hset _ _ r' _ hJ',rfl⟩
   ·rw[hlen];omega
   ·rw[hw,hwr];simp
  ·repeat' (first|(simp (disch:=first|omega|assumption|exact bd (by with_unfolding_all rfl)|exact Or.inl rfl|exact Or.inl trivial|exact okL_map _ (fun _=>rfl) _|(simp only[VVlen]<;>omega)|fail) only[VV0,VV1,VV2,VV3,VV4,VV5,VV6,VV7,VV8,VV9,mkFnV,vargs,slotsL,opdsA,Nat.reduceEqDiff,Nat.reduceLT,Nat.reduceAdd,Nat.reduceBEq,Int.reduceAdd,Int.reduceSub,Int.reduceLT,Int.reduceLE,Int.reduceEq,Int.reduceNeg,↓reduceIte,reduceCtorEq,scL,scD,expand,List.replicate])|apply gC_drawW|((first|apply gI_dec|apply gG_dec|apply gPG_dec|apply gI_var|apply gG_var|apply gPG_var)<;>intro _))
   exact hstop _ _ _ (fun i h=>by cases h) hS
end Go.Proofs.YtkjkiodoighgnaaGreatDoor
namespace Go.Proofs.YtkjkiodoighgnaaGreatDoor
open Go Go.Itp
set_option maxRecDepth 100000
set_option maxHeartbeats 1000000
set_option linter.unusedSimpArgs false
abbrev finV (r:List Int × Int):V:= .tup [.sl 3 r.1.length (r.1.map iD),.sc (.int .i64 r.2)]
def straightF (n m:Int):List Int × Int:=if rangedF n m=true then ((List.range m.toNat).map fun i=>((i % n.toNat:Nat):Int),0) else ([],2)
def ptF (N i:Nat):Int:=((min (i % max 1 (2*N - 2)) (max 1 (2*N - 2) - i % max 1 (2*N - 2)):Nat):Int)
def pointedF (n m:Int):List Int × Int:=if rangedF n m=true then ((List.range m.toNat).map fun i=>ptF n.toNat i,0) else ([],2)
theorem ranged_nat {a b:Int} (h:rangedF a b=true):∃ N M:Nat,a=N∧b=M∧1≤N∧N≤400∧M≤400:=by
 simp only[rangedF,Bool.and_eq_true,decide_eq_true_eq] at h
 exact ⟨a.toNat,b.toNat,by omega,by omega,by omega,by omega,by omega⟩
structure Zig (N k:Nat) (v d:Int):Prop where
 val:v=ptF N k
 one:d=1∨d= -1
 dir:1<N→k % (2*N - 2)=0∨d=if k % (2*N - 2)<N then 1 else -1
section
variable (w:World) (n:Nat)
theorem straight_p (a b:Int):VSpec (EN w (n+2)) 12 [.sc (.int .i64 a),.sc (.int .i64 b)] (finV (straightF a b)) ⟨[],0,0⟩:=by
 refine vspec_g rfl rfl (fun _ _=>rfl) (Nat.le_of_ble_eq_true rfl) (oldVals w) retOK_fin rfl fun C hC h0=>?_
 have hrg:=fun st=>(ranged_p w n a b).of hC rfl st rfl
 cases hr:rangedF a b
 ·rw[hr] at hrg
  have e:straightF a b=([],2):=by unfold straightF;rw[hr];rfl
  rw[e]
  repeat' (first|(simp (disch:=first|omega|assumption|exact bd (by with_unfolding_all rfl)|exact Or.inl rfl|exact Or.inl trivial|exact okL_map _ (fun _=>rfl) _|(simp only[VVlen]<;>omega)|fail) only[VV0,VV1,VV2,VV3,VV4,VV5,VV6,VV7,VV8,VV9,mkFnV,vargs,slotsL,opdsA,Nat.reduceEqDiff,Nat.reduceLT,Nat.reduceAdd,Nat.reduceBEq,Int.reduceAdd,Int.reduceSub,Int.reduceLT,Int.reduceLE,Int.reduceEq,Int.reduceNeg,↓reduceIte,reduceCtorEq,scL,scD,expand,List.replicate,c12])|apply gC_drawW|((first|apply gI_dec|apply gG_dec|apply gPG_dec|apply gI_var|apply gG_var|apply gPG_var)<;>intro _))
  refine callV_flat (hrg _) ?_
  repeat' (first|(simp (disch:=first|omega|assumption|exact bd (by with_unfolding_all rfl)|exact Or.inl rfl|exact Or.inl trivial|exact okL_map _ (fun _=>rfl) _|(simp only[VVlen]<;>omega)|fail) only[VV0,VV1,VV2,VV3,VV4,VV5,VV6,VV7,VV8,VV9,mkFnV,vargs,slotsL,opdsA,Nat.reduceEqDiff,Nat.reduceLT,Nat.reduceAdd,Nat.reduceBEq,Int.reduceAdd,Int.reduceSub,Int.reduceLT,Int.reduceLE,Int.reduceEq,Int.reduceNeg,↓reduceIte,reduceCtorEq,scL,scD,expand,List.replicate])|apply gC_drawW|((first|apply gI_dec|apply gG_dec|apply gPG_dec|apply gI_var|apply gG_var|apply gPG_var)<;>intro _))
  exact weak_finNil h0 rfl
 ·rw[hr] at hrg
  obtain ⟨N,M,rfl,rfl,b1,b2,b3⟩:=ranged_nat hr
  have e:straightF N M=(stTo (fun i=>((i % N:Nat):Int)) M M,0):=by unfold straightF;rw[hr,stTo_end];rfl
  rw[e]
  have hz:=stTo_zero (fun i=>((i % N:Nat):Int)) M
  have hsl:=stTo_len (fun i=>((i % N:Nat):Int)) M
  have hst:=stTo_step (fun i=>((i % N:Nat):Int)) M
  have hen:=stTo_end (fun i=>((i % N:Nat):Int)) M
  have hmod:∀ i:Nat,(i:Int) % (N:Int)=((i % N:Nat):Int):=fun i=>by simp
  repeat' (first|(simp (disch:=first|omega|assumption|exact bd (by with_unfolding_all rfl)|exact Or.inl rfl|exact Or.inl trivial|exact okL_map _ (fun _=>rfl) _|(simp only[VVlen]<;>omega)|fail) only[VV0,VV1,VV2,VV3,VV4,VV5,VV6,VV7,VV8,VV9,mkFnV,vargs,slotsL,opdsA,Nat.reduceEqDiff,Nat.reduceLT,Nat.reduceAdd,Nat.reduceBEq,Int.reduceAdd,Int.reduceSub,Int.reduceLT,Int.reduceLE,Int.reduceEq,Int.reduceNeg,↓reduceIte,reduceCtorEq,scL,scD,expand,List.replicate,c12])|apply gC_drawW|((first|apply gI_dec|apply gG_dec|apply gPG_dec|apply gI_var|apply gG_var|apply gPG_var)<;>intro _))
  refine callV_flat (hrg _) ?_
  repeat' (first|(simp (disch:=first|omega|assumption|exact bd (by with_unfolding_all rfl)|exact Or.inl rfl|exact Or.inl trivial|exact okL_map _ (fun _=>rfl) _|(simp only[VVlen]<;>omega)|fail) only[VV0,VV1,VV2,VV3,VV4,VV5,VV6,VV7,VV8,VV9,mkFnV,vargs,slotsL,opdsA,Nat.reduceEqDiff,Nat.reduceLT,Nat.reduceAdd,Nat.reduceBEq,Int.reduceAdd,Int.reduceSub,Int.reduceLT,Int.reduceLE,Int.reduceEq,Int.reduceNeg,↓reduceIte,reduceCtorEq,scL,scD,expand,List.replicate])|apply gC_drawW|((first|apply gI_dec|apply gG_dec|apply gPG_dec|apply gI_var|apply gG_var|apply gPG_var)<;>intro _))
  refine g_while (fun m fr st=>∃ k:Nat,m=M - k∧k≤M∧fr= [(0,.sc (.int .i64 N)),(6,.ref 0 0 M M),(14,.sc (.int .i64 M)),(15,.sc (.int .i64 k))]∧st=⟨[(0,.row 3 1 false false ((stTo (fun i=>((i % N:Nat):Int)) M k).map iD))],1,0⟩) M ?_ ⟨_,_,.refl _ _,0,by omega,by omega,rfl,by rw[hz]⟩ ?_
  ·rw[hC,callP_rounds];unfold many;omega
  ·rintro m fr st ⟨k,rfl,hk,rfl,rfl⟩
   by_cases hlt:k<M
   ·have hlk:((stTo (fun i=>((i % N:Nat):Int)) M k).map iD).length=M:=by rw[List.length_map,hsl]
    repeat' (first|(simp (disch:=first|omega|assumption|exact bd (by with_unfolding_all rfl)|exact Or.inl rfl|exact Or.inl trivial|exact okL_map _ (fun _=>rfl) _|(simp only[VVlen]<;>omega)|fail) only[VV0,VV1,VV2,VV3,VV4,VV5,VV6,VV7,VV8,VV9,mkFnV,vargs,slotsL,opdsA,Nat.reduceEqDiff,Nat.reduceLT,Nat.reduceAdd,Nat.reduceBEq,Int.reduceAdd,Int.reduceSub,Int.reduceLT,Int.reduceLE,Int.reduceEq,Int.reduceNeg,↓reduceIte,reduceCtorEq,scL,scD,expand,List.replicate,c12l0,hmod])|apply gC_drawW|((first|apply gI_dec|apply gG_dec|apply gPG_dec|apply gI_var|apply gG_var|apply gPG_var)<;>intro _))
    exact ⟨_,_,_,by omega,.refl _ _,k+1,rfl,hlt,rfl,by rw[← hst k hlt]⟩
   ·have:k=M:=by omega
    subst this
    repeat' (first|(simp (disch:=first|omega|assumption|exact bd (by with_unfolding_all rfl)|exact Or.inl rfl|exact Or.inl trivial|exact okL_map _ (fun _=>rfl) _|(simp only[VVlen]<;>omega)|fail) only[VV0,VV1,VV2,VV3,VV4,VV5,VV6,VV7,VV8,VV9,mkFnV,vargs,slotsL,opdsA,Nat.reduceEqDiff,Nat.reduceLT,Nat.reduceAdd,Nat.reduceBEq,Int.reduceAdd,Int.reduceSub,Int.reduceLT,Int.reduceLE,Int.reduceEq,Int.reduceNeg,↓reduceIte,reduceCtorEq,scL,scD,expand,List.replicate,c12l0])|apply gC_drawW|((first|apply gI_dec|apply gG_dec|apply gPG_dec|apply gI_var|apply gG_var|apply gPG_var)<;>intro _))
    have hs:=snap_ref (H:= [(0,.row 3 1 false false ((stTo (fun i=>((i % N:Nat):Int)) k k).map iD))]) (o:=0) (c:=k) (t:=3) (g:=false) (z:=false) (l:=stTo (fun i=>((i % N:Nat):Int)) k k) rfl
    rw[hsl] at hs
    refine weak_fin (C:=C) (s:=0) (n:=_) (l:=_) ?_ rfl (.inl (by omega)) h0 rfl
    rw[hsl]
    exact hs
end
end Go.Proofs.YtkjkiodoighgnaaGreatDoor
namespace Go.Proofs.YtkjkiodoighgnaaGreatDoor
open Go Go.Itp
set_option maxRecDepth 100000
set_option maxHeartbeats 1000000
set_option linter.unusedSimpArgs false
section
variable (w:World) (n:Nat)
theorem pointed_p (a b:Int):VSpec (EN w (n+2)) 13 [.sc (.int .i64 a),.sc (.int .i64 b)] (finV (pointedF a b)) ⟨[],0,0⟩:=by
 refine vspec_g rfl rfl (fun _ _=>rfl) (Nat.le_of_ble_eq_true rfl) (oldVals w) retOK_fin rfl fun C hC h0=>?_
 have hrg:=fun st=>(ranged_p w n a b).of hC rfl st rfl
 cases hr:rangedF a b
 ·rw[hr] at hrg
  have e:pointedF a b=([],2):=by unfold pointedF;rw[hr];rfl
  rw[e]
  repeat' (first|(simp (disch:=first|omega|assumption|exact bd (by with_unfolding_all rfl)|exact Or.inl rfl|exact Or.inl trivial|exact okL_map _ (fun _=>rfl) _|(simp only[VVlen]<;>omega)|fail) only[VV0,VV1,VV2,VV3,VV4,VV5,VV6,VV7,VV8,VV9,mkFnV,vargs,slotsL,opdsA,Nat.reduceEqDiff,Nat.reduceLT,Nat.reduceAdd,Nat.reduceBEq,Int.reduceAdd,Int.reduceSub,Int.reduceLT,Int.reduceLE,Int.reduceEq,Int.reduceNeg,↓reduceIte,reduceCtorEq,scL,scD,expand,List.replicate,c13])|apply gC_drawW|((first|apply gI_dec|apply gG_dec|apply gPG_dec|apply gI_var|apply gG_var|apply gPG_var)<;>intro _))
  refine callV_flat (hrg _) ?_
  repeat' (first|(simp (disch:=first|omega|assumption|exact bd (by with_unfolding_all rfl)|exact Or.inl rfl|exact Or.inl trivial|exact okL_map _ (fun _=>rfl) _|(simp only[VVlen]<;>omega)|fail) only[VV0,VV1,VV2,VV3,VV4,VV5,VV6,VV7,VV8,VV9,mkFnV,vargs,slotsL,opdsA,Nat.reduceEqDiff,Nat.reduceLT,Nat.reduceAdd,Nat.reduceBEq,Int.reduceAdd,Int.reduceSub,Int.reduceLT,Int.reduceLE,Int.reduceEq,Int.reduceNeg,↓reduceIte,reduceCtorEq,scL,scD,expand,List.replicate])|apply gC_drawW|((first|apply gI_dec|apply gG_dec|apply gPG_dec|apply gI_var|apply gG_var|apply gPG_var)<;>intro _))
  exact weak_finNil h0 rfl
 ·rw[hr] at hrg
  obtain ⟨N,M,rfl,rfl,b1,b2,b3⟩:=ranged_nat hr
  have e:pointedF N M=(stTo (ptF N) M M,0):=by unfold pointedF;rw[hr,stTo_end];rfl
  rw[e]
  obtain ⟨r,hr0⟩:∃ r,max 1 (2*N - 2)=r:=⟨_,rfl⟩
  have hri:max (1:Int) (2*(N:Int) - 2)=(r:Int):=by omega
  have hr1:1≤r∧r≤800:=by omega
  have hpt:∀ i,ptF N i=((min (i % r) (r - i % r):Nat):Int):=fun i=>by unfold ptF;rw[hr0]
  have hz:=stTo_zero (ptF N) M
  have hsl:=stTo_len (ptF N) M
  have hst:=stTo_step (ptF N) M
  have hmod:∀ i:Nat,(i:Int) % (r:Int)=((i % r:Nat):Int):=fun i=>by simp
  repeat' (first|(simp (disch:=first|omega|assumption|exact bd (by with_unfolding_all rfl)|exact Or.inl rfl|exact Or.inl trivial|exact okL_map _ (fun _=>rfl) _|(simp only[VVlen]<;>omega)|fail) only[VV0,VV1,VV2,VV3,VV4,VV5,VV6,VV7,VV8,VV9,mkFnV,vargs,slotsL,opdsA,Nat.reduceEqDiff,Nat.reduceLT,Nat.reduceAdd,Nat.reduceBEq,Int.reduceAdd,Int.reduceSub,Int.reduceLT,Int.reduceLE,Int.reduceEq,Int.reduceNeg,↓reduceIte,reduceCtorEq,scL,scD,expand,List.replicate,c13])|apply gC_drawW|((first|apply gI_dec|apply gG_dec|apply gPG_dec|apply gI_var|apply gG_var|apply gPG_var)<;>intro _))
  refine callV_flat (hrg _) ?_
  repeat' (first|(simp (disch:=first|omega|assumption|exact bd (by with_unfolding_all rfl)|exact Or.inl rfl|exact Or.inl trivial|exact okL_map _ (fun _=>rfl) _|(simp only[VVlen]<;>omega)|fail) only[VV0,VV1,VV2,VV3,VV4,VV5,VV6,VV7,VV8,VV9,mkFnV,vargs,slotsL,opdsA,Nat.reduceEqDiff,Nat.reduceLT,Nat.reduceAdd,Nat.reduceBEq,Int.reduceAdd,Int.reduceSub,Int.reduceLT,Int.reduceLE,Int.reduceEq,Int.reduceNeg,↓reduceIte,reduceCtorEq,scL,scD,expand,List.replicate,hri])|apply gC_drawW|((first|apply gI_dec|apply gG_dec|apply gPG_dec|apply gI_var|apply gG_var|apply gPG_var)<;>intro _))
  refine g_while (fun m fr st=>∃ k:Nat,m=M - k∧k≤M∧fr= [(6,.ref 0 0 M M),(7,.sc (.int .i64 r)),(20,.sc (.int .i64 M)),(21,.sc (.int .i64 k))]∧st=⟨[(0,.row 3 1 false false ((stTo (ptF N) M k).map iD))],1,0⟩) M ?_ ⟨_,_,.refl _ _,0,by omega,by omega,rfl,by rw[hz]⟩ ?_
  ·rw[hC,callP_rounds];unfold many;omega
  ·rintro m fr st ⟨k,rfl,hk,rfl,rfl⟩
   by_cases hlt:k<M
   ·have hlk:((stTo (ptF N) M k).map iD).length=M:=by rw[List.length_map,hsl]
    have hlr:=Nat.mod_lt k (show 0<r by omega)
    have hv:min ((k % r:Nat):Int) ((r:Int) - ((k % r:Nat):Int))=ptF N k:=by rw[hpt];omega
    repeat' (first|(simp (disch:=first|omega|assumption|exact bd (by with_unfolding_all rfl)|exact Or.inl rfl|exact Or.inl trivial|exact okL_map _ (fun _=>rfl) _|(simp only[VVlen]<;>omega)|fail) only[VV0,VV1,VV2,VV3,VV4,VV5,VV6,VV7,VV8,VV9,mkFnV,vargs,slotsL,opdsA,Nat.reduceEqDiff,Nat.reduceLT,Nat.reduceAdd,Nat.reduceBEq,Int.reduceAdd,Int.reduceSub,Int.reduceLT,Int.reduceLE,Int.reduceEq,Int.reduceNeg,↓reduceIte,reduceCtorEq,scL,scD,expand,List.replicate,c13l0,hmod,hv])|apply gC_drawW|((first|apply gI_dec|apply gG_dec|apply gPG_dec|apply gI_var|apply gG_var|apply gPG_var)<;>intro _))
    exact ⟨_,_,_,by omega,.refl _ _,k+1,rfl,hlt,rfl,by rw[← hst k hlt]⟩
   ·have:k=M:=by omega
    subst this
    repeat' (first|(simp (disch:=first|omega|assumption|exact bd (by with_unfolding_all rfl)|exact Or.inl rfl|exact Or.inl trivial|exact okL_map _ (fun _=>rfl) _|(simp only[VVlen]<;>omega)|fail) only[VV0,VV1,VV2,VV3,VV4,VV5,VV6,VV7,VV8,VV9,mkFnV,vargs,slotsL,opdsA,Nat.reduceEqDiff,Nat.reduceLT,Nat.reduceAdd,Nat.reduceBEq,Int.reduceAdd,Int.reduceSub,Int.reduceLT,Int.reduceLE,Int.reduceEq,Int.reduceNeg,↓reduceIte,reduceCtorEq,scL,scD,expand,List.replicate,c13l0])|apply gC_drawW|((first|apply gI_dec|apply gG_dec|apply gPG_dec|apply gI_var|apply gG_var|apply gPG_var)<;>intro _))
    have hs:=snap_ref (H:= [(0,.row 3 1 false false ((stTo (ptF N) k k).map iD))]) (o:=0) (c:=k) (t:=3) (g:=false) (z:=false) (l:=stTo (ptF N) k k) rfl
    rw[hsl] at hs
    refine weak_fin (C:=C) (s:=0) (n:=_) (l:=_) ?_ rfl (.inl (by omega)) h0 rfl
    rw[hsl]
    exact hs
end
end Go.Proofs.YtkjkiodoighgnaaGreatDoor
namespace Go.Proofs.YtkjkiodoighgnaaGreatDoor
open Go Go.Itp
set_option maxRecDepth 100000
set_option maxHeartbeats 1000000
set_option linter.unusedSimpArgs false
def joinF (a b:List Int):List Int × Int:=if chkL [(0,a),(0,b)] ≠ 0 then ([],chkL [(0,a),(0,b)]) else if 400<a.length+b.length then ([],4) else (a++b,0)
def cat (L:List (Nat × List Int)):List Int:=L.flatMap (·.2)
theorem cat_step {L:List (Nat × List Int)} {k:Nat} (hk:k<L.length):cat (L.take (k+1))=cat (L.take k)++L[k]!.2:=by
 unfold cat
 rw[List.take_succ_eq_append_getElem hk,List.flatMap_append,getElem!_pos L k hk]
 simp
theorem cat_le {L:List (Nat × List Int)} (k:Nat):(cat (L.take k)).length≤(cat L).length:=by
 have:cat L=cat (L.take k)++cat (L.drop k):=by
  unfold cat
  rw[← List.flatMap_append,List.take_append_drop]
 rw[this,List.length_append]
 omega
theorem appFull_big (nx t e b n N o k m:Nat) (base:Src) (new:List D) (fz:List Nat) (hm:m ≠ 0):appFull nx t e b n (big+N) o k base (some (m,new,fz))=none:=by
 have h:Nat.blt (big+N) big=false:=by rw[← Bool.not_eq_true,Nat.blt_eq];omega
 simp only[appFull,h,Bool.false_and,Bool.false_eq_true,if_false]
 rw[if_neg (by rw[nbeq];exact hm)]
 split<;>rfl
theorem room_eq (A new:List D) (z:D) (T:Nat) (h:A.length+new.length≤T):
  (A++List.replicate (T - A.length) z).take A.length++new++(A++List.replicate (T - A.length) z).drop (A.length+new.length)=(A++new)++List.replicate (T - (A.length+new.length)) z:=by
 rw[List.take_left',List.drop_append,List.drop_eq_nil_of_le (by omega),List.nil_append,List.drop_replicate]
 ·congr 2
  omega
 ·rfl
section
variable (w:World) (n:Nat)
theorem grow_zero:VSpec (EN w (n+1)) 37 [.sc (.slice none 0 0),.sc (.int .i64 0)] (.sc (.slice none 0 0)) ⟨[],0,0⟩:=by
 refine vspec_flat rfl rfl (fun _ _=>rfl) (Nat.le_of_ble_eq_true rfl) (oldVals w) rfl fun C hC h0=>?_
 repeat' (first|(simp (disch:=first|omega|assumption|exact bd (by with_unfolding_all rfl)|exact Or.inl rfl|exact Or.inl trivial|exact okL_map _ (fun _=>rfl) _|(simp only[VVlen]<;>omega)|fail) only[VV0,VV1,VV2,VV3,VV4,VV5,VV6,VV7,VV8,VV9,mkFnV,vargs,slotsL,opdsA,Nat.reduceEqDiff,Nat.reduceLT,Nat.reduceAdd,Nat.reduceBEq,Int.reduceAdd,Int.reduceSub,Int.reduceLT,Int.reduceLE,Int.reduceEq,Int.reduceNeg,↓reduceIte,reduceCtorEq,scL,scD,expand,List.replicate,c37])|apply gC_drawW|((first|apply gI_dec|apply gG_dec|apply gPG_dec|apply gI_var|apply gG_var|apply gPG_var)<;>intro _))
 exact weak_flat rfl h0 rfl
theorem grow_p (N:Nat) (hN:0<N) (hN2:N≤100000000000):VSpec (EN w (n+1)) 37 [.sc (.slice none 0 0),.sc (.int .i64 N)] (.ref 0 0 0 (big+N)) ⟨[(0,.row 3 1 true false (List.replicate N (.sc (.int .i64 0))))],1,0⟩:=by
 refine vspec_g rfl rfl (fun _ _=>rfl) (Nat.le_of_ble_eq_true rfl) (oldVals w) retOK_ref rfl fun C hC h0=>?_
 have hne:N ≠ 0:=by omega
 repeat' (first|(simp (disch:=first|omega|assumption|exact bd (by with_unfolding_all rfl)|exact Or.inl rfl|exact Or.inl trivial|exact okL_map _ (fun _=>rfl) _|(simp only[VVlen]<;>omega)|fail) only[VV0,VV1,VV2,VV3,VV4,VV5,VV6,VV7,VV8,VV9,mkFnV,vargs,slotsL,opdsA,Nat.reduceEqDiff,Nat.reduceLT,Nat.reduceAdd,Nat.reduceBEq,Int.reduceAdd,Int.reduceSub,Int.reduceLT,Int.reduceLE,Int.reduceEq,Int.reduceNeg,↓reduceIte,reduceCtorEq,scL,scD,expand,List.replicate,c37,Int.sub_zero])|apply gC_drawW|((first|apply gI_dec|apply gG_dec|apply gPG_dec|apply gI_var|apply gG_var|apply gPG_var)<;>intro _))
 refine (weak_row (o:=0) (t:=3) (e:=1) (z:=false) (l:=List.replicate N (.sc (.int .i64 0))) rfl (by simp;omega)).trans ?_
 exact .refl _ _
theorem concat_p (L:List (Nat × List Int)) (hL:L.length≤1000) (hk:∀ p ∈ L,p.1 ≠ 1∨p.2.length ≠ 0) (hT:(cat L).length≤100000):VSpec (EN w (n+2)) 23 [.sl 0 L.length (L.map rowD)] (.gr 2 0 (cat L).length) ⟨[(0,.gro 3 1 false ((cat L).map iD))],1,0⟩:=by
 refine vspec_g rfl rfl (fun _ _=>rfl) (Nat.le_of_ble_eq_true rfl) (oldVals w) (retOK_gr (map_nil_iff rfl)) rfl fun C hC h0=>?_
 simp (disch:=first|omega|assumption|exact bd (by with_unfolding_all rfl)|exact Or.inl rfl|exact Or.inl trivial|exact okL_map _ (fun _=>rfl) _|(simp only[VVlen]<;>omega)|fail) only[VV0,VV1,VV2,VV3,VV4,VV5,VV6,VV7,VV8,VV9,mkFnV,vargs,slotsL,opdsA,Nat.reduceEqDiff,Nat.reduceLT,Nat.reduceAdd,Nat.reduceBEq,Int.reduceAdd,Int.reduceSub,Int.reduceLT,Int.reduceLE,Int.reduceEq,Int.reduceNeg,↓reduceIte,reduceCtorEq,scL,scD,expand,List.replicate,c23]
 refine g_while (fun m fr st=>∃ k:Nat,m=L.length - k∧k≤L.length∧fr= [(0,.sl 0 L.length (L.map rowD)),(3,.sc (.int .i64 (cat (L.take k)).length)),(9,.sl 0 L.length (L.map rowD)),(10,.sc (.int .i64 L.length)),(11,.sc (.int .i64 k))]∧st=⟨[],0,0⟩) L.length ?_ ⟨_,_,.refl _ _,0,?_⟩ ?_
 ·rw[hC,callP_rounds];unfold many;omega
 ·exact ⟨by omega,by omega,rfl,rfl⟩
 ·rintro m fr st ⟨k,rfl,hkl,rfl,rfl⟩
  have hcl:=cat_le (L:=L) k
  by_cases hlt:k<L.length
  ·have hcs:=cat_step hlt
   have hcl2:=cat_le (L:=L) (k+1)
   have hl2:(cat (L.take (k+1))).length=(cat (L.take k)).length+L[k]!.2.length:=by rw[hcs,List.length_append]
   generalize hp:L[k]! =p at hl2
   obtain ⟨s,l⟩:=p
   simp only at hl2
   repeat' (first|(simp (disch:=first|omega|assumption|exact bd (by with_unfolding_all rfl)|exact Or.inl rfl|exact Or.inl trivial|exact okL_map _ (fun _=>rfl) _|(simp only[VVlen]<;>omega)|fail) only[VV0,VV1,VV2,VV3,VV4,VV5,VV6,VV7,VV8,VV9,mkFnV,vargs,slotsL,opdsA,Nat.reduceEqDiff,Nat.reduceLT,Nat.reduceAdd,Nat.reduceBEq,Int.reduceAdd,Int.reduceSub,Int.reduceLT,Int.reduceLE,Int.reduceEq,Int.reduceNeg,↓reduceIte,reduceCtorEq,scL,scD,expand,List.replicate,c23l1,rowD_dv,hp])|apply gC_drawW|((first|apply gI_dec|apply gG_dec|apply gPG_dec|apply gI_var|apply gG_var|apply gPG_var)<;>intro _))
   exact ⟨_,_,_,by omega,.refl _ _,k+1,rfl,hlt,by rw[hl2];rfl,rfl⟩
  ·have:k=L.length:=by omega
   subst this
   rw[List.take_length]
   by_cases hz:(cat L).length=0
   ·repeat' (first|(simp (disch:=first|omega|assumption|exact bd (by with_unfolding_all rfl)|exact Or.inl rfl|exact Or.inl trivial|exact okL_map _ (fun _=>rfl) _|(simp only[VVlen]<;>omega)|fail) only[VV0,VV1,VV2,VV3,VV4,VV5,VV6,VV7,VV8,VV9,mkFnV,vargs,slotsL,opdsA,Nat.reduceEqDiff,Nat.reduceLT,Nat.reduceAdd,Nat.reduceBEq,Int.reduceAdd,Int.reduceSub,Int.reduceLT,Int.reduceLE,Int.reduceEq,Int.reduceNeg,↓reduceIte,reduceCtorEq,scL,scD,expand,List.replicate,c23l1,hz])|apply gC_drawW|((first|apply gI_dec|apply gG_dec|apply gPG_dec|apply gI_var|apply gG_var|apply gPG_var)<;>intro _))
    refine callV_flat ((fun st=>(grow_zero w n).of hC rfl st rfl) _) ?_
    repeat' (first|(simp (disch:=first|omega|assumption|exact bd (by with_unfolding_all rfl)|exact Or.inl rfl|exact Or.inl trivial|exact okL_map _ (fun _=>rfl) _|(simp only[VVlen]<;>omega)|fail) only[VV0,VV1,VV2,VV3,VV4,VV5,VV6,VV7,VV8,VV9,mkFnV,vargs,slotsL,opdsA,Nat.reduceEqDiff,Nat.reduceLT,Nat.reduceAdd,Nat.reduceBEq,Int.reduceAdd,Int.reduceSub,Int.reduceLT,Int.reduceLE,Int.reduceEq,Int.reduceNeg,↓reduceIte,reduceCtorEq,scL,scD,expand,List.replicate])|apply gC_drawW|((first|apply gI_dec|apply gG_dec|apply gPG_dec|apply gI_var|apply gG_var|apply gPG_var)<;>intro _))
    refine g_while (fun m fr st=>∃ k:Nat,m=L.length - k∧k≤L.length∧fr= [(6,.sc (.slice none 0 0)),(25,.sl 0 L.length (L.map rowD)),(26,.sc (.int .i64 L.length)),(27,.sc (.int .i64 k))]∧st=⟨[],0,0⟩) L.length ?_ ⟨_,_,.refl _ _,0,?_⟩ ?_
    ·rw[hC,callP_rounds];unfold many;omega
    ·exact ⟨by omega,by omega,rfl,rfl⟩
    ·rintro m fr st ⟨k,rfl,hkl,rfl,rfl⟩
     by_cases hlt:k<L.length
     ·have hcs:=cat_step hlt
      have hcl2:=cat_le (L:=L) (k+1)
      have hl2:(cat (L.take (k+1))).length=(cat (L.take k)).length+L[k]!.2.length:=by rw[hcs,List.length_append]
      generalize hp:L[k]! =p at hl2
      obtain ⟨s,l⟩:=p
      simp only at hl2
      obtain rfl:l= []:=List.eq_nil_of_length_eq_zero (by omega)
      repeat' (first|(simp (disch:=first|omega|assumption|exact bd (by with_unfolding_all rfl)|exact Or.inl rfl|exact Or.inl trivial|exact okL_map _ (fun _=>rfl) _|(simp only[VVlen]<;>omega)|fail) only[VV0,VV1,VV2,VV3,VV4,VV5,VV6,VV7,VV8,VV9,mkFnV,vargs,slotsL,opdsA,Nat.reduceEqDiff,Nat.reduceLT,Nat.reduceAdd,Nat.reduceBEq,Int.reduceAdd,Int.reduceSub,Int.reduceLT,Int.reduceLE,Int.reduceEq,Int.reduceNeg,↓reduceIte,reduceCtorEq,scL,scD,expand,List.replicate,c23l0,rowD_dv,hp])|apply gC_drawW|((first|apply gI_dec|apply gG_dec|apply gPG_dec|apply gI_var|apply gG_var|apply gPG_var)<;>intro _))
      exact ⟨_,_,_,by omega,.refl _ _,k+1,rfl,hlt,rfl,rfl⟩
     ·have:k=L.length:=by omega
      subst this
      have hc0:cat L= []:=List.eq_nil_of_length_eq_zero hz
      rw[hc0]
      repeat' (first|(simp (disch:=first|omega|assumption|exact bd (by with_unfolding_all rfl)|exact Or.inl rfl|exact Or.inl trivial|exact okL_map _ (fun _=>rfl) _|(simp only[VVlen]<;>omega)|fail) only[VV0,VV1,VV2,VV3,VV4,VV5,VV6,VV7,VV8,VV9,mkFnV,vargs,slotsL,opdsA,Nat.reduceEqDiff,Nat.reduceLT,Nat.reduceAdd,Nat.reduceBEq,Int.reduceAdd,Int.reduceSub,Int.reduceLT,Int.reduceLE,Int.reduceEq,Int.reduceNeg,↓reduceIte,reduceCtorEq,scL,scD,expand,List.replicate,c23l0])|apply gC_drawW|((first|apply gI_dec|apply gG_dec|apply gPG_dec|apply gI_var|apply gG_var|apply gPG_var)<;>intro _))
      exact (weak_nilSlot 0 3 1 rfl).trans (.refl _ _)
   ·have hgr:=grow_p w n (cat L).length (by omega) (by omega)
    obtain ⟨T,hT0⟩:∃ T,(cat L).length=T:=⟨_,rfl⟩
    rw[hT0] at hgr hz hcl hT
    repeat' (first|(simp (disch:=first|omega|assumption|exact bd (by with_unfolding_all rfl)|exact Or.inl rfl|exact Or.inl trivial|exact okL_map _ (fun _=>rfl) _|(simp only[VVlen]<;>omega)|fail) only[VV0,VV1,VV2,VV3,VV4,VV5,VV6,VV7,VV8,VV9,mkFnV,vargs,slotsL,opdsA,Nat.reduceEqDiff,Nat.reduceLT,Nat.reduceAdd,Nat.reduceBEq,Int.reduceAdd,Int.reduceSub,Int.reduceLT,Int.reduceLE,Int.reduceEq,Int.reduceNeg,↓reduceIte,reduceCtorEq,scL,scD,expand,List.replicate,c23l1,hT0])|apply gC_drawW|((first|apply gI_dec|apply gG_dec|apply gPG_dec|apply gI_var|apply gG_var|apply gPG_var)<;>intro _))
    refine callV_of (by rw[hC];exact hgr) rfl rfl rfl ?_
    repeat' (first|(simp (disch:=first|omega|assumption|exact bd (by with_unfolding_all rfl)|exact Or.inl rfl|exact Or.inl trivial|exact okL_map _ (fun _=>rfl) _|(simp only[VVlen]<;>omega)|fail) only[VV0,VV1,VV2,VV3,VV4,VV5,VV6,VV7,VV8,VV9,mkFnV,vargs,slotsL,opdsA,Nat.reduceEqDiff,Nat.reduceLT,Nat.reduceAdd,Nat.reduceBEq,Int.reduceAdd,Int.reduceSub,Int.reduceLT,Int.reduceLE,Int.reduceEq,Int.reduceNeg,↓reduceIte,reduceCtorEq,scL,scD,expand,List.replicate,vsh,shH,shO,fzSL,fzS])|apply gC_drawW|((first|apply gI_dec|apply gG_dec|apply gPG_dec|apply gI_var|apply gG_var|apply gPG_var)<;>intro _))
    refine g_while (fun m fr st=>∃ k:Nat,m=L.length - k∧k≤L.length∧fr= [(6,.ref 0 0 (cat (L.take k)).length (big+T)),(25,.sl 0 L.length (L.map rowD)),(26,.sc (.int .i64 L.length)),(27,.sc (.int .i64 k))]∧st=⟨[(0,.row 3 1 true false ((cat (L.take k)).map iD++List.replicate (T - (cat (L.take k)).length) (.sc (.int .i64 0))))],1,0⟩) L.length ?_ ⟨_,_,.refl _ _,0,?_⟩ ?_
    ·rw[hC,callP_rounds];unfold many;omega
    ·exact ⟨by omega,by omega,rfl,rfl⟩
    ·rintro m fr st ⟨k,rfl,hkl,rfl,rfl⟩
     have hcl:=cat_le (L:=L) k
     rw[hT0] at hcl
     by_cases hlt:k<L.length
     ·have hcs:=cat_step hlt
      have hcl2:=cat_le (L:=L) (k+1)
      have hl2:(cat (L.take (k+1))).length=(cat (L.take k)).length+L[k]!.2.length:=by rw[hcs,List.length_append]
      have hkk:=hk L[k]! (by rw[getElem!_pos L k hlt];exact List.getElem_mem hlt)
      generalize hp:L[k]! =p at hl2 hcs hkk
      obtain ⟨s,l⟩:=p
      simp only at hl2 hcs hkk
      rw[hT0] at hcl2
      by_cases hl0:l= []
      ·subst hl0
       rw[List.append_nil] at hcs
       repeat' (first|(simp (disch:=first|omega|assumption|exact bd (by with_unfolding_all rfl)|exact Or.inl rfl|exact Or.inl trivial|exact okL_map _ (fun _=>rfl) _|(simp only[VVlen]<;>omega)|fail) only[VV0,VV1,VV2,VV3,VV4,VV5,VV6,VV7,VV8,VV9,mkFnV,vargs,slotsL,opdsA,Nat.reduceEqDiff,Nat.reduceLT,Nat.reduceAdd,Nat.reduceBEq,Int.reduceAdd,Int.reduceSub,Int.reduceLT,Int.reduceLE,Int.reduceEq,Int.reduceNeg,↓reduceIte,reduceCtorEq,scL,scD,expand,List.replicate,c23l0,rowD_dv,hp])|apply gC_drawW|((first|apply gI_dec|apply gG_dec|apply gPG_dec|apply gI_var|apply gG_var|apply gPG_var)<;>intro _))
       exact ⟨_,_,_,by omega,.refl _ _,k+1,rfl,hlt,by rw[hcs];rfl,by rw[hcs]⟩
      ·have hlp:l.length ≠ 0:=fun h=>hl0 (List.eq_nil_of_length_eq_zero h)
       have hlm:(l.map iD).length=l.length*1:=by simp
       have hrl:((cat (L.take k)).map iD++List.replicate (T - (cat (L.take k)).length) (D.sc (.int .i64 0))).length=T:=by simp;omega
       have hnT:(cat (L.take k)).length ≠ T:=by omega
       have hrm:=room_eq ((cat (L.take k)).map iD) (l.map iD) (D.sc (.int .i64 0)) T (by simp;omega)
       simp only[List.length_map] at hrm
       repeat' (first|(simp (disch:=first|omega|assumption|exact bd (by with_unfolding_all rfl)|exact Or.inl rfl|exact Or.inl trivial|exact okL_map _ (fun _=>rfl) _|(simp only[VVlen]<;>omega)|fail) only[VV0,VV1,VV2,VV3,VV4,VV5,VV6,VV7,VV8,VV9,mkFnV,vargs,slotsL,opdsA,Nat.reduceEqDiff,Nat.reduceLT,Nat.reduceAdd,Nat.reduceBEq,Int.reduceAdd,Int.reduceSub,Int.reduceLT,Int.reduceLE,Int.reduceEq,Int.reduceNeg,↓reduceIte,reduceCtorEq,scL,scD,expand,List.replicate,c23l0,rowD_dv,hp,appFull_big])|apply gC_drawW|((first|apply gI_dec|apply gG_dec|apply gPG_dec|apply gI_var|apply gG_var|apply gPG_var)<;>intro _))
       refine ⟨_,_,_,by omega,.refl _ _,k+1,rfl,hlt,by rw[hl2];rfl,?_⟩
       simp only[List.length_map]
       rw[hl2,hcs,List.map_append,hrm]
     ·have:k=L.length:=by omega
      subst this
      rw[List.take_length,hT0]
      have hcn:(cat L).map iD ≠ []:=fun h=>hz (by rw[← hT0,← List.length_map (f:=iD),h];rfl)
      repeat' (first|(simp (disch:=first|omega|assumption|exact bd (by with_unfolding_all rfl)|exact Or.inl rfl|exact Or.inl trivial|exact okL_map _ (fun _=>rfl) _|(simp only[VVlen]<;>omega)|fail) only[VV0,VV1,VV2,VV3,VV4,VV5,VV6,VV7,VV8,VV9,mkFnV,vargs,slotsL,opdsA,Nat.reduceEqDiff,Nat.reduceLT,Nat.reduceAdd,Nat.reduceBEq,Int.reduceAdd,Int.reduceSub,Int.reduceLT,Int.reduceLE,Int.reduceEq,Int.reduceNeg,↓reduceIte,reduceCtorEq,scL,scD,expand,List.replicate,c23l0,Nat.sub_self,List.replicate_zero])|apply gC_drawW|((first|apply gI_dec|apply gG_dec|apply gPG_dec|apply gI_var|apply gG_var|apply gPG_var)<;>intro _))
      refine (weak_gro (o:=0) (t:=3) (e:=1) (z:=false) (l:=(cat L).map iD) ?_ hcn).trans ?_
      ·rw[aget_cons,if_pos rfl]
      ·exact (weak_slot (t:=0) (v:= .ref 0 0 T (big+T)) (v':= .gr 2 0 T) rfl (same_rg hz)).trans (.refl _ _)
end
end Go.Proofs.YtkjkiodoighgnaaGreatDoor
namespace Go.Proofs.YtkjkiodoighgnaaGreatDoor
open Go Go.Itp
set_option maxRecDepth 100000
set_option maxHeartbeats 1000000
set_option linter.unusedSimpArgs false
theorem row2V_sl (nx:Nat) (t:TypeId) (z:Value) (hz:scOK z=true) (s n s' n':Nat) (l l':List D) (h:okD (.sl s n l)=true) (h':okD (.sl s' n' l')=true):mkRowV nx t 1 2 [z] [(0,1,.sl s n l),(1,1,.sl s' n' l')]=some (.ref nx 0 2 2,some (.row t 1 false false [.sl s n l,.sl s' n' l']),[]):=by
 have h1:((rep [z] 2).all scOK && Nat.blt 2 big)=true:=by simp[rep,hz,big]
 have h2:dfill (scD (rep [z] 2)) [(0,1,V.sl s n l),(1,1,V.sl s' n' l')]=some [.sl s n l,.sl s' n' l']:=by
  simp[dfill,vcells,toD0L,toD0,h,h',scD,rep,putL]
 simp only[mkRowV,h1,if_true,h2]
theorem okD_ne {s n:Nat} {l:List D} (h:s ≠ 1):okD (.sl s n l)=true:=by
 simp only[okD,Bool.or_eq_true,Bool.not_eq_true',nbf];exact .inl h
def reverseF (a:List Int):List Int × Int:=if chk a ≠ 0 then ([],chk a) else (a.reverse,0)
theorem chkL_one (s:Nat) (a:List Int):chkL [(s,a)]=chk a:=by
 simp only[chkL]
 split
 ·rename_i h;exact h.symm
 ·rfl
theorem chk_len {a:List Int} (h:chk a=0):a.length≤400:=by
 unfold chk at h
 split at h
 ·cases h
 ·omega
section
variable (w:World) (n:Nat)
theorem clone_p (s:Nat) (l:List Int) (hl:l.length≤100000000000) (h0:0<l.length):VSpec (EN w (n+1)) 24 [.sl s l.length (l.map iD)] (.gr 2 0 l.length) ⟨[(0,.gro 3 1 false (l.map iD))],1,0⟩:=by
 refine vspec_g rfl rfl (fun _ _=>rfl) (Nat.le_of_ble_eq_true rfl) (oldVals w) (retOK_gr (map_nil_iff rfl)) rfl fun C hC hn=>?_
 have hlm:(l.map iD).length=l.length*1:=by simp
 have hne:l.length ≠ 0:=by omega
 have hnl:isNilV' 1 (.sl s l.length (l.map iD))=some false:=by
  have h3:Nat.beq l.length 0=false:=nbf.2 hne
  simp only[isNilV',h3]
  cases Nat.beq s 0<;>cases Nat.beq s 2<;>rfl
 repeat' (first|(simp (disch:=first|omega|assumption|exact bd (by with_unfolding_all rfl)|exact Or.inl rfl|exact Or.inl trivial|exact okL_map _ (fun _=>rfl) _|(simp only[VVlen]<;>omega)|fail) only[VV0,VV1,VV2,VV3,VV4,VV5,VV6,VV7,VV8,VV9,mkFnV,vargs,slotsL,opdsA,Nat.reduceEqDiff,Nat.reduceLT,Nat.reduceAdd,Nat.reduceBEq,Int.reduceAdd,Int.reduceSub,Int.reduceLT,Int.reduceLE,Int.reduceEq,Int.reduceNeg,↓reduceIte,reduceCtorEq,scL,scD,expand,List.replicate,c24,eqNilV_nil,hnl])|apply gC_drawW|((first|apply gI_dec|apply gG_dec|apply gPG_dec|apply gI_var|apply gG_var|apply gPG_var)<;>intro _))
 exact weak_to [(1,0)] 1 hn rfl rfl rfl rfl
end
end Go.Proofs.YtkjkiodoighgnaaGreatDoor
namespace Go.Proofs.YtkjkiodoighgnaaGreatDoor
open Go Go.Itp
set_option maxRecDepth 100000
set_option maxHeartbeats 1000000
set_option linter.unusedSimpArgs false
def sw (l:List Int) (k:Nat):List Int:=(List.range l.length).map fun x=>if x<k∨l.length - k≤x then l[l.length - 1 - x]! else l[x]!
theorem sw_len (l:List Int) (k:Nat):(sw l k).length=l.length:=by simp[sw]
theorem sw_get (l:List Int) (k x:Nat) (h:x<l.length):(sw l k)[x]! =if x<k∨l.length - k≤x then l[l.length - 1 - x]! else l[x]! :=by
 rw[getElem!_pos _ _ (by rw[sw_len];exact h)]
 simp[sw]
theorem sw_zero (l:List Int):sw l 0=l:=by
 refine List.ext_getElem (sw_len l 0) fun i h1 h2=>?_
 have:=sw_get l 0 i h2
 rw[getElem!_pos (sw l 0) i h1] at this
 rw[this,if_neg (by omega),getElem!_pos l i h2]
theorem sw_step (l:List Int) (k j:Nat) (h:k<j) (hj:(l.length:Int) - 1 - k=j):((sw l k).set k (sw l k)[j]!).set j (sw l k)[k]! =sw l (k+1):=by
 refine List.ext_getElem (by simp[sw_len]) fun i h1 h2=>?_
 rw[sw_len] at h2
 have e:=sw_get l (k+1) i h2
 rw[getElem!_pos _ _ (by rw[sw_len];exact h2)] at e
 have e1:=sw_get l k i h2
 rw[getElem!_pos _ _ (by rw[sw_len];exact h2)] at e1
 have ej:(sw l k)[j]! =l[j]! :=by rw[sw_get l k j (by omega),if_neg (by omega)]
 have ek:(sw l k)[k]! =l[k]! :=by rw[sw_get l k k (by omega),if_neg (by omega)]
 rw[e,List.getElem_set,List.getElem_set,e1,ej,ek]
 by_cases h3:j=i
 ·subst h3
  rw[if_pos rfl,if_pos (by omega),show l.length - 1 - j=k by omega]
 rw[if_neg h3]
 by_cases h4:k=i
 ·subst h4
  rw[if_pos rfl,if_pos (by omega),show l.length - 1 - k=j by omega]
 rw[if_neg h4]
 by_cases h5:i<k∨l.length - k≤i
 ·rw[if_pos h5,if_pos (by omega)]
 ·rw[if_neg h5,if_neg (by omega)]
theorem sw_end (l:List Int) (k:Nat) (h:¬ (k:Int)<(l.length:Int) - 1 - k):sw l k=l.reverse:=by
 refine List.ext_getElem (by simp[sw_len]) fun i h1 h2=>?_
 rw[sw_len] at h1
 have e:=sw_get l k i h1
 rw[getElem!_pos _ _ (by rw[sw_len];exact h1)] at e
 rw[e,List.getElem_reverse]
 by_cases h3:i<k∨l.length - k≤i
 ·rw[if_pos h3,getElem!_pos l (l.length - 1 - i) (by omega)]
 ·rw[if_neg h3,getElem!_pos l i h1]
  congr 1
  omega
theorem vslc_refLo (e o n c k:Nat) (j:IntKind) (hc:c<big) (h1:k≤n) (h2:k<c) (hn:n≤c):vslc e (some (.int j k)) none none (.ref o 0 n c)=some (.ref o (k*e) (n - k) (c - k)):=by
 have h3:Nat.blt c big=true:=by rw[Nat.blt_eq];exact hc
 have h4:knownCap c=c:=knownCap_lt hc
 have h5:Nat.beq c k=false:=nbf.2 (by omega)
 simp only[vslc,slcN,h4,bndNat,Option.bind_some,h3,if_true]
 rw[if_pos ⟨by omega,by omega⟩]
 simp[h5]
theorem vslc_refHi (e o n c k:Nat) (j:IntKind) (hc:c<big) (h1:k≤c):vslc e none (some (.int j k)) none (.ref o 0 n c)=some (.ref o 0 k c):=by
 have h3:Nat.blt c big=true:=by rw[Nat.blt_eq];exact hc
 have h4:knownCap c=c:=knownCap_lt hc
 simp only[vslc,slcN,h4,bndNat]
 rw[if_pos ⟨by omega,by omega⟩]
 simp[h3]
theorem b_and32 (x:Nat) (h:x<4294967296):binA .and (.int .u64 x) (.int .u64 4294967295)=some (.int .u64 x):=by
 have h1:(BitVec.ofInt 64 (x:Int) &&& BitVec.ofInt 64 4294967295).toNat=x:=by
  rw[BitVec.toNat_and,BitVec.toNat_ofInt,BitVec.toNat_ofInt]
  rw[show ((4294967295:Int) % ((2 ^ 64:Nat):Int)).toNat=2 ^ 32 - 1 by decide,Nat.and_two_pow_sub_one_eq_mod]
  rw[show ((x:Int) % ((2 ^ 64:Nat):Int)).toNat=x by omega]
  omega
 simp only[binA,if_true]
 show some (Value.int .u64 (IntKind.u64.wrap ((BitVec.ofInt 64 (x:Int) &&& BitVec.ofInt 64 4294967295).toNat:Int)))=_
 rw[h1]
 congr 2
 simp[IntKind.wrap,IntKind.bits,IntKind.signed]
 omega
theorem b_shr32 (x:Nat) (h:x<4294967296):binA .shr (.int .u64 x) (.int .u64 32)=some (.int .u64 0):=by
 simp only[binA]
 rw[if_neg (by omega)]
 congr 2
 have:((2:Int) ^ (min (Int.toNat 32) (IntKind.bits .u64)))=4294967296:=by decide
 rw[this,Int.fdiv_eq_ediv_of_nonneg _ (by omega)]
 omega
theorem wrapU (x:Nat) (h:x<18446744073709551616):IntKind.u64.wrap (x:Int)=x:=by
 simp[IntKind.wrap,IntKind.bits,IntKind.signed]
 omega
section
variable (w:World) (n:Nat)
theorem reverse_w {C:Ctx} {st:VSt} {Q:V→VSt→Prop} (hC:C.E=EN w (n+1)) (o t s:Nat) (l:List Int) (hl:l.length≤100000000000) (ho:aget st.own o=some (.gro t 1 false (l.map iD))) (hro:st.ro≤o)
  (hq:Q (.tup []) ⟨aset st.own o (.gro t 1 false (l.reverse.map iD)),st.next,st.ro⟩):CallV C 25 [.gr s o l.length] st Q:=by
 refine callV_w hC rfl rfl (fun _ _=>rfl) (Nat.le_of_ble_eq_true rfl) hq fun C' hC' hn=>?_
 obtain ⟨H,nx,ro⟩:=st
 simp only at ho hro hn
 have hs:(aget H o).isSome=true:=by rw[ho];rfl
 simp (disch:=first|omega|assumption|exact bd (by with_unfolding_all rfl)|exact Or.inl rfl|exact Or.inl trivial|exact okL_map _ (fun _=>rfl) _|(simp only[VVlen]<;>omega)|fail) only[VV0,VV1,VV2,VV3,VV4,VV5,VV6,VV7,VV8,VV9,mkFnV,vargs,slotsL,opdsA,Nat.reduceEqDiff,Nat.reduceLT,Nat.reduceAdd,Nat.reduceBEq,Int.reduceAdd,Int.reduceSub,Int.reduceLT,Int.reduceLE,Int.reduceEq,Int.reduceNeg,↓reduceIte,reduceCtorEq,scL,scD,expand,List.replicate,c25]
 refine g_while (fun m fr st=>∃ (k:Nat) (z:Int),m=l.length - k∧z=(l.length:Int) - 1 - k∧k≤l.length∧fr= [(0,.gr s o l.length),(2,.sc (.int .i64 k)),(3,.sc (.int .i64 z))]∧st=⟨aset H o (.gro t 1 false ((sw l k).map iD)),nx,ro⟩) l.length ?_ ⟨_,_,.refl _ _,0,(l.length:Int) - 1,?_⟩ ?_
 ·rw[hC',callP_rounds];unfold many;omega
 ·exact ⟨by omega,by omega,by omega,rfl,by rw[sw_zero,aset_self _ _ _ ho]⟩
 ·rintro m fr st ⟨k,z,rfl,hz,hk,rfl,rfl⟩
  have hlm:((sw l k).map iD).length=l.length:=by simp[sw_len]
  by_cases hlt:(k:Int)<z
  ·obtain ⟨j,rfl⟩:∃ j:Nat,z=j:=⟨z.toNat,by omega⟩
   have hsl:=sw_len l k
   have hst:=sw_step l k j (by omega) hz.symm
   repeat' (first|(simp (disch:=first|omega|assumption|exact bd (by with_unfolding_all rfl)|exact Or.inl rfl|exact Or.inl trivial|exact okL_map _ (fun _=>rfl) _|(simp only[VVlen]<;>omega)|fail) only[VV0,VV1,VV2,VV3,VV4,VV5,VV6,VV7,VV8,VV9,mkFnV,vargs,slotsL,opdsA,Nat.reduceEqDiff,Nat.reduceLT,Nat.reduceAdd,Nat.reduceBEq,Int.reduceAdd,Int.reduceSub,Int.reduceLT,Int.reduceLE,Int.reduceEq,Int.reduceNeg,↓reduceIte,reduceCtorEq,scL,scD,expand,List.replicate,c25l0,iD_dv])|apply gC_drawW|((first|apply gI_dec|apply gG_dec|apply gPG_dec|apply gI_var|apply gG_var|apply gPG_var)<;>intro _))
   refine ⟨_,_,_,by omega,.refl _ _,k+1,(j:Int) - 1,rfl,by omega,by omega,rfl,?_⟩
   rw[← hst,List.map_set,List.map_set]
   rfl
  ·rw[sw_end l k (by omega)]
   repeat' (first|(simp (disch:=first|omega|assumption|exact bd (by with_unfolding_all rfl)|exact Or.inl rfl|exact Or.inl trivial|exact okL_map _ (fun _=>rfl) _|(simp only[VVlen]<;>omega)|fail) only[VV0,VV1,VV2,VV3,VV4,VV5,VV6,VV7,VV8,VV9,mkFnV,vargs,slotsL,opdsA,Nat.reduceEqDiff,Nat.reduceLT,Nat.reduceAdd,Nat.reduceBEq,Int.reduceAdd,Int.reduceSub,Int.reduceLT,Int.reduceLE,Int.reduceEq,Int.reduceNeg,↓reduceIte,reduceCtorEq,scL,scD,expand,List.replicate,c25l0,iD_dv])|apply gC_drawW|((first|apply gI_dec|apply gG_dec|apply gPG_dec|apply gI_var|apply gG_var|apply gPG_var)<;>intro _))
   exact .refl _ _
theorem mul64_p (x y:Nat) (hx:x≤30000) (hy:y≤30000):VSpec (EN w (n+1)) 48 [.sc (.int .u64 x),.sc (.int .u64 y)] (.tup [.sc (.int .u64 0),.sc (.int .u64 ((x*y:Nat):Int))]) ⟨[],0,0⟩:=by
 refine vspec_flat rfl rfl (fun _ _=>rfl) (Nat.le_of_ble_eq_true rfl) (oldVals w) rfl fun C hC h0=>?_
 have hxy:x*y≤30000*30000:=Nat.mul_le_mul hx hy
 have h1:=b_and32 x (by omega)
 have h2:=b_shr32 x (by omega)
 have h3:=b_and32 y (by omega)
 have h4:=b_shr32 y (by omega)
 have h5:=b_shr32 (x*y) (by omega)
 have h6:binA .and (.int .u64 0) (.int .u64 4294967295)=some (.int .u64 0):=b_and32 0 (by omega)
 have h7:binA .shr (.int .u64 0) (.int .u64 32)=some (.int .u64 0):=b_shr32 0 (by omega)
 have hm:(x:Int)*(y:Int)=((x*y:Nat):Int):=by simp
 have hw:=wrapU (x*y) (by omega)
 have hw0:IntKind.u64.wrap 0=0:=by decide
 repeat' (first|(simp (disch:=first|omega|assumption|exact bd (by with_unfolding_all rfl)|exact Or.inl rfl|exact Or.inl trivial|exact okL_map _ (fun _=>rfl) _|(simp only[VVlen]<;>omega)|fail) only[VV0,VV1,VV2,VV3,VV4,VV5,VV6,VV7,VV8,VV9,mkFnV,vargs,slotsL,opdsA,Nat.reduceEqDiff,Nat.reduceLT,Nat.reduceAdd,Nat.reduceBEq,Int.reduceAdd,Int.reduceSub,Int.reduceLT,Int.reduceLE,Int.reduceEq,Int.reduceNeg,↓reduceIte,reduceCtorEq,scL,scD,expand,List.replicate,c48,h1,h2,h3,h4,h5,h6,h7,hm,hw,hw0,Int.zero_mul,Int.mul_zero,Int.add_zero])|apply gC_drawW|((first|apply gI_dec|apply gG_dec|apply gPG_dec|apply gI_var|apply gG_var|apply gPG_var)<;>intro _))
 exact weak_flat rfl h0 rfl
theorem mul_p (x y:Nat) (hx:x≤30000) (hy:y≤30000):VSpec (EN w (n+2)) 38 [.sc (.int .u64 x),.sc (.int .u64 y)] (.tup [.sc (.int .u64 0),.sc (.int .u64 ((x*y:Nat):Int))]) ⟨[],0,0⟩:=by
 refine vspec_flat rfl rfl (fun _ _=>rfl) (Nat.le_of_ble_eq_true rfl) (oldVals w) rfl fun C hC h0=>?_
 repeat' (first|(simp (disch:=first|omega|assumption|exact bd (by with_unfolding_all rfl)|exact Or.inl rfl|exact Or.inl trivial|exact okL_map _ (fun _=>rfl) _|(simp only[VVlen]<;>omega)|fail) only[VV0,VV1,VV2,VV3,VV4,VV5,VV6,VV7,VV8,VV9,mkFnV,vargs,slotsL,opdsA,Nat.reduceEqDiff,Nat.reduceLT,Nat.reduceAdd,Nat.reduceBEq,Int.reduceAdd,Int.reduceSub,Int.reduceLT,Int.reduceLE,Int.reduceEq,Int.reduceNeg,↓reduceIte,reduceCtorEq,scL,scD,expand,List.replicate,c38])|apply gC_drawW|((first|apply gI_dec|apply gG_dec|apply gPG_dec|apply gI_var|apply gG_var|apply gPG_var)<;>intro _))
 refine callV_flat ((fun st=>(mul64_p w n x y hx hy).of hC rfl st rfl) _) ?_
 repeat' (first|(simp (disch:=first|omega|assumption|exact bd (by with_unfolding_all rfl)|exact Or.inl rfl|exact Or.inl trivial|exact okL_map _ (fun _=>rfl) _|(simp only[VVlen]<;>omega)|fail) only[VV0,VV1,VV2,VV3,VV4,VV5,VV6,VV7,VV8,VV9,mkFnV,vargs,slotsL,opdsA,Nat.reduceEqDiff,Nat.reduceLT,Nat.reduceAdd,Nat.reduceBEq,Int.reduceAdd,Int.reduceSub,Int.reduceLT,Int.reduceLE,Int.reduceEq,Int.reduceNeg,↓reduceIte,reduceCtorEq,scL,scD,expand,List.replicate])|apply gC_drawW|((first|apply gI_dec|apply gG_dec|apply gPG_dec|apply gI_var|apply gG_var|apply gPG_var)<;>intro _))
 exact weak_flat rfl h0 rfl
end
end Go.Proofs.YtkjkiodoighgnaaGreatDoor
namespace Go.Proofs.YtkjkiodoighgnaaGreatDoor
open Go Go.Itp
set_option maxRecDepth 100000
set_option maxHeartbeats 1000000
set_option linter.unusedSimpArgs false
set_option linter.unusedVariables false
def dw (x:Int):List UInt8:=Lib.itoa (x+1)
def txt (l:List Int):List UInt8:=join 32 (l.map dw)
def textF (l:List Int):List UInt8 × Int:=if chk l=0 then (txt l,0) else ([],chk l)
theorem txt_take (l:List Int) (k:Nat) (hk:k<l.length):txt (l.take (k+1))=(if k=0 then [] else txt (l.take k)++ [32])++dw l[k]! :=by
 unfold txt
 rw[List.take_succ_eq_append_getElem hk,List.map_append,List.map_cons,List.map_nil,getElem!_pos l k hk]
 cases k with
 |zero=>rfl
 |succ k=>
  rw[if_neg (by omega),join_snoc _ _ (fun e=>by
   have:((l.take (k+1)).map dw).length=0:=by rw[e];rfl
   rw[List.length_map,List.length_take] at this
   omega)]
  simp
theorem chk_facts {l:List Int} (h:chk l=0):l.length≤400∧∀ k,k<l.length→0≤l[k]! ∧l[k]! <400:=by
 unfold chk at h
 split at h
 ·cases h
 ·rename_i h4
  split at h
  ·rename_i ha
   refine ⟨by omega,fun k hk=>?_⟩
   have:=List.all_eq_true.1 ha l[k]! (by rw[getElem!_pos l k hk];exact List.getElem_mem hk)
   simpa [col] using this
  ·cases h
theorem dw_len {x:Int} (h0:0≤x) (h1:x<400):(dw x).length≤21:=Lib.itoa_length_le (x+1) (by omega) (by omega)
theorem txt_len (l:List Int) (h:∀ k,k<l.length→0≤l[k]! ∧l[k]! <400):∀ k,k≤l.length→(txt (l.take k)).length≤22*k
 |0,_=>by simp[txt,join]
 |k+1,hk=>by
  have ih:=txt_len l h k (by omega)
  have:=dw_len (h k (by omega)).1 (h k (by omega)).2
  rw[txt_take l k (by omega)]
  split
  ·rw[List.nil_append];omega
  ·rw[List.length_append,List.length_append,List.length_singleton];omega
section
variable (w:World) (n:Nat)
theorem pcheck_p (s:Nat) (l:List Int) (hs:s ≠ 1) (hl:l.length≤140737488351232):VSpec (EN w (n+2)) 17 [.sl s l.length (l.map iD)] (.sc (.int .i64 (chk l))) ⟨[],0,0⟩:=by
 refine vspec_flat rfl rfl (fun _ _=>rfl) (Nat.le_of_ble_eq_true rfl) (oldVals w) rfl fun C hC h0=>?_
 have o1:okD (.sl s l.length (l.map iD))=true:=okD_ne hs
 have hck:=check_p w n [(s,l)] (by simp) (fun k hk=>by
  rcases k with _|k
  ·exact hl
  ·simp at hk)
 rw[chkL_one] at hck
 repeat' (first|(simp (disch:=first|omega|assumption|exact bd (by with_unfolding_all rfl)|exact Or.inl rfl|exact Or.inl trivial|exact okL_map _ (fun _=>rfl) _|(simp only[VVlen]<;>omega)|fail) only[VV0,VV1,VV2,VV3,VV4,VV5,VV6,VV7,VV8,VV9,mkFnV,vargs,slotsL,opdsA,Nat.reduceEqDiff,Nat.reduceLT,Nat.reduceAdd,Nat.reduceBEq,Int.reduceAdd,Int.reduceSub,Int.reduceLT,Int.reduceLE,Int.reduceEq,Int.reduceNeg,↓reduceIte,reduceCtorEq,scL,scD,expand,List.replicate,c17])|apply gC_drawW|((first|apply gI_dec|apply gG_dec|apply gPG_dec|apply gI_var|apply gG_var|apply gPG_var)<;>intro _))
 refine callV_flat (by rw[hC];exact hck.flat rfl rfl) ?_
 repeat' (first|(simp (disch:=first|omega|assumption|exact bd (by with_unfolding_all rfl)|exact Or.inl rfl|exact Or.inl trivial|exact okL_map _ (fun _=>rfl) _|(simp only[VVlen]<;>omega)|fail) only[VV0,VV1,VV2,VV3,VV4,VV5,VV6,VV7,VV8,VV9,mkFnV,vargs,slotsL,opdsA,Nat.reduceEqDiff,Nat.reduceLT,Nat.reduceAdd,Nat.reduceBEq,Int.reduceAdd,Int.reduceSub,Int.reduceLT,Int.reduceLE,Int.reduceEq,Int.reduceNeg,↓reduceIte,reduceCtorEq,scL,scD,expand,List.replicate])|apply gC_drawW|((first|apply gI_dec|apply gG_dec|apply gPG_dec|apply gI_var|apply gG_var|apply gPG_var)<;>intro _))
 exact weak_flat rfl h0 rfl
theorem text_p (s:Nat) (hs:s ≠ 1) (l:List Int) (hl:l.length≤140737488351232):VSpec (EN w (n+5)) 20 [.sl s l.length (l.map iD)] (.tup [strV (textF l).1,.sc (.int .i64 (textF l).2)]) ⟨[],0,0⟩:=by
 refine vspec_flat rfl rfl (fun _ _=>rfl) (Nat.le_of_ble_eq_true rfl) (oldVals w) rfl fun C hC hn=>?_
 have o1:okD (.sl s l.length (l.map iD))=true:=okD_ne hs
 have hck:=check_p w (n+3) [(s,l)] (by simp) (fun k hk=>by
  rcases k with _|k
  ·exact hl
  ·simp at hk)
 rw[chkL_one] at hck
 repeat' (first|(simp (disch:=first|omega|assumption|exact bd (by with_unfolding_all rfl)|exact Or.inl rfl|exact Or.inl trivial|exact okL_map _ (fun _=>rfl) _|(simp only[VVlen]<;>omega)|fail) only[VV0,VV1,VV2,VV3,VV4,VV5,VV6,VV7,VV8,VV9,mkFnV,vargs,slotsL,opdsA,Nat.reduceEqDiff,Nat.reduceLT,Nat.reduceAdd,Nat.reduceBEq,Int.reduceAdd,Int.reduceSub,Int.reduceLT,Int.reduceLE,Int.reduceEq,Int.reduceNeg,↓reduceIte,reduceCtorEq,scL,scD,expand,List.replicate,c20])|apply gC_drawW|((first|apply gI_dec|apply gG_dec|apply gPG_dec|apply gI_var|apply gG_var|apply gPG_var)<;>intro _))
 refine callV_flat (by rw[hC];exact hck.flat rfl rfl) ?_
 by_cases h0:chk l=0
 case neg=>
  have e:textF l=([],chk l):=if_neg h0
  rw[e]
  repeat' (first|(simp (disch:=first|omega|assumption|exact bd (by with_unfolding_all rfl)|exact Or.inl rfl|exact Or.inl trivial|exact okL_map _ (fun _=>rfl) _|(simp only[VVlen]<;>omega)|fail) only[VV0,VV1,VV2,VV3,VV4,VV5,VV6,VV7,VV8,VV9,mkFnV,vargs,slotsL,opdsA,Nat.reduceEqDiff,Nat.reduceLT,Nat.reduceAdd,Nat.reduceBEq,Int.reduceAdd,Int.reduceSub,Int.reduceLT,Int.reduceLE,Int.reduceEq,Int.reduceNeg,↓reduceIte,reduceCtorEq,scL,scD,expand,List.replicate])|apply gC_drawW|((first|apply gI_dec|apply gG_dec|apply gPG_dec|apply gI_var|apply gG_var|apply gPG_var)<;>intro _))
  all_goals try (exfalso;omega)
  exact weak_flat rfl hn rfl
 obtain ⟨hl4,hcol⟩:=chk_facts h0
 have e:textF l=(txt l,0):=if_pos h0
 rw[e,h0]
 repeat' (first|(simp (disch:=first|omega|assumption|exact bd (by with_unfolding_all rfl)|exact Or.inl rfl|exact Or.inl trivial|exact okL_map _ (fun _=>rfl) _|(simp only[VVlen]<;>omega)|fail) only[VV0,VV1,VV2,VV3,VV4,VV5,VV6,VV7,VV8,VV9,mkFnV,vargs,slotsL,opdsA,Nat.reduceEqDiff,Nat.reduceLT,Nat.reduceAdd,Nat.reduceBEq,Int.reduceAdd,Int.reduceSub,Int.reduceLT,Int.reduceLE,Int.reduceEq,Int.reduceNeg,↓reduceIte,reduceCtorEq,scL,scD,expand,List.replicate])|apply gC_drawW|((first|apply gI_dec|apply gG_dec|apply gPG_dec|apply gI_var|apply gG_var|apply gPG_var)<;>intro _))
 refine g_while (fun m fr st=>∃ (k r nx:Nat) (p:V) (acc:ByteArray),m=l.length - k∧k≤l.length∧(r ≠ 0∧r ≠ 1∧r<nx∧1<nx)∧selfP 1 p∧acc.data.toList=txt (l.take k)∧
   fr= [(5,.ptr 1 0),(6,.fn 35 [.ptr 1 0] []),(16,.sl s l.length (l.map iD)),(17,.sc (.int .i64 l.length)),(18,.sc (.int .i64 k))]∧
   st=⟨[(r,.gro 5 1 false (strD acc)),(1,.box 64 1 [p,.gr 2 r acc.size]),(0,.row 22 1 false false [.sl s l.length (l.map iD)])],nx,0⟩) l.length ?_
  ⟨_,_,weak_nilCell (C:=C) (l:= [.sc (.pointer none),.sc (.slice none 0 0)]) 1 64 1 1 5 1 rfl rfl (fun h=>absurd (show (1:Nat)=2 from h) (by decide)),0,2,3,.sc (.pointer none),⟨#[]⟩,rfl,Nat.zero_le _,by decide,.inl rfl,rfl,rfl,rfl⟩ ?_
 ·rw[hC,callP_rounds];unfold many;omega
 rintro m fr st ⟨k,r,nx,p,acc,rfl,hk,⟨h1,h2,h3,h4⟩,hp,ha,rfl,rfl⟩
 have b1:¬ (1=r):=fun h=>h2 h.symm
 have b2:¬ (1=nx):=by omega
 have b3:¬ (r=nx):=by omega
 have hbn:=txt_len l hcol k hk
 have hasz:acc.size=(txt (l.take k)).length:=by rw[← ha];simp
 by_cases hlt:k<l.length
 ·obtain ⟨c0,c1⟩:=hcol k hlt
  have htk:=txt_take l k hlt
  have hdl:=dw_len c0 c1
  have hdwd:Lib.itoa (l[k]! +1)=dw l[k]! :=rfl
  have hsz:(⟨(dw l[k]!).toArray⟩:ByteArray).size=(dw l[k]!).length:=by simp[ByteArray.size]
  generalize hx:l[k]! =x at*
  by_cases hz:k=0
  ·subst hz
   repeat' (first|(simp (disch:=first|omega|assumption|exact bd (by with_unfolding_all rfl)|exact Or.inl rfl|exact Or.inl trivial|exact okL_map _ (fun _=>rfl) _|(simp only[VVlen]<;>omega)|fail) only[VV0,VV1,VV2,VV3,VV4,VV5,VV6,VV7,VV8,VV9,mkFnV,vargs,slotsL,opdsA,Nat.reduceEqDiff,Nat.reduceLT,Nat.reduceAdd,Nat.reduceBEq,Int.reduceAdd,Int.reduceSub,Int.reduceLT,Int.reduceLE,Int.reduceEq,Int.reduceNeg,↓reduceIte,reduceCtorEq,scL,scD,expand,List.replicate,c20l0,iD_dv,hx])|apply gC_drawW|((first|apply gI_dec|apply gG_dec|apply gPG_dec|apply gI_var|apply gG_var|apply gPG_var)<;>intro _))
   all_goals try (exfalso;omega)
   refine callV_flat (by rw[hC];exact itoa_s w (n+3) _ _ (by omega) (by omega)) ?_
   rw[hdwd]
   repeat' (first|(simp (disch:=first|omega|assumption|exact bd (by with_unfolding_all rfl)|exact Or.inl rfl|exact Or.inl trivial|exact okL_map _ (fun _=>rfl) _|(simp only[VVlen]<;>omega)|fail) only[VV0,VV1,VV2,VV3,VV4,VV5,VV6,VV7,VV8,VV9,mkFnV,vargs,slotsL,opdsA,Nat.reduceEqDiff,Nat.reduceLT,Nat.reduceAdd,Nat.reduceBEq,Int.reduceAdd,Int.reduceSub,Int.reduceLT,Int.reduceLE,Int.reduceEq,Int.reduceNeg,↓reduceIte,reduceCtorEq,scL,scD,expand,List.replicate,b1,b2,b3])|apply gC_drawW|((first|apply gI_dec|apply gG_dec|apply gPG_dec|apply gI_var|apply gG_var|apply gPG_var)<;>intro _))
   refine writeString_w w (n+1) hC 1 r p acc _ (by simp[aget_cons,b1]) (by simp[aget_cons]) hp (Nat.zero_le _) (Nat.zero_le _) h2 b2 (by omega) ?_
   repeat' (first|(simp (disch:=first|omega|assumption|exact bd (by with_unfolding_all rfl)|exact Or.inl rfl|exact Or.inl trivial|exact okL_map _ (fun _=>rfl) _|(simp only[VVlen]<;>omega)|fail) only[VV0,VV1,VV2,VV3,VV4,VV5,VV6,VV7,VV8,VV9,mkFnV,vargs,slotsL,opdsA,Nat.reduceEqDiff,Nat.reduceLT,Nat.reduceAdd,Nat.reduceBEq,Int.reduceAdd,Int.reduceSub,Int.reduceLT,Int.reduceLE,Int.reduceEq,Int.reduceNeg,↓reduceIte,reduceCtorEq,scL,scD,expand,List.replicate,b1,b2,b3,h1,h2])|apply gC_drawW|((first|apply gI_dec|apply gG_dec|apply gPG_dec|apply gI_var|apply gG_var|apply gPG_var)<;>intro _))
   refine ⟨_,_,_,?_,.refl _ _,1,nx,nx+1,.ptr 1 0,acc++⟨(dw x).toArray⟩,rfl,hlt,by omega,.inr rfl,?_,rfl,?_⟩
   ·omega
   ·rw[ByteArray.data_append,Array.toList_append,ha,htk,if_pos rfl];rfl
   ·rw[ByteArray.size_append]
  ·have c1:¬ (1=nx+1):=by omega
   have c2:¬ (nx=1):=by omega
   have c3:¬ (nx=0):=by omega
   have c4:¬ (0=nx):=by omega
   have c5:¬ (nx=nx+1):=by omega
   have q6:(⟨#[32]⟩:ByteArray).size=1:=rfl
   repeat' (first|(simp (disch:=first|omega|assumption|exact bd (by with_unfolding_all rfl)|exact Or.inl rfl|exact Or.inl trivial|exact okL_map _ (fun _=>rfl) _|(simp only[VVlen]<;>omega)|fail) only[VV0,VV1,VV2,VV3,VV4,VV5,VV6,VV7,VV8,VV9,mkFnV,vargs,slotsL,opdsA,Nat.reduceEqDiff,Nat.reduceLT,Nat.reduceAdd,Nat.reduceBEq,Int.reduceAdd,Int.reduceSub,Int.reduceLT,Int.reduceLE,Int.reduceEq,Int.reduceNeg,↓reduceIte,reduceCtorEq,scL,scD,expand,List.replicate,c20l0,iD_dv,hx])|apply gC_drawW|((first|apply gI_dec|apply gG_dec|apply gPG_dec|apply gI_var|apply gG_var|apply gPG_var)<;>intro _))
   all_goals try (exfalso;omega)
   refine writeString_w w (n+1) hC 1 r p acc _ (by simp[aget_cons,b1]) (by simp[aget_cons]) hp (Nat.zero_le _) (Nat.zero_le _) h2 b2 (by omega) ?_
   repeat' (first|(simp (disch:=first|omega|assumption|exact bd (by with_unfolding_all rfl)|exact Or.inl rfl|exact Or.inl trivial|exact okL_map _ (fun _=>rfl) _|(simp only[VVlen]<;>omega)|fail) only[VV0,VV1,VV2,VV3,VV4,VV5,VV6,VV7,VV8,VV9,mkFnV,vargs,slotsL,opdsA,Nat.reduceEqDiff,Nat.reduceLT,Nat.reduceAdd,Nat.reduceBEq,Int.reduceAdd,Int.reduceSub,Int.reduceLT,Int.reduceLE,Int.reduceEq,Int.reduceNeg,↓reduceIte,reduceCtorEq,scL,scD,expand,List.replicate,b1,b2,b3,h1,h2])|apply gC_drawW|((first|apply gI_dec|apply gG_dec|apply gPG_dec|apply gI_var|apply gG_var|apply gPG_var)<;>intro _))
   refine callV_flat (by rw[hC];exact itoa_s w (n+3) _ _ (by omega) (by omega)) ?_
   rw[hdwd]
   repeat' (first|(simp (disch:=first|omega|assumption|exact bd (by with_unfolding_all rfl)|exact Or.inl rfl|exact Or.inl trivial|exact okL_map _ (fun _=>rfl) _|(simp only[VVlen]<;>omega)|fail) only[VV0,VV1,VV2,VV3,VV4,VV5,VV6,VV7,VV8,VV9,mkFnV,vargs,slotsL,opdsA,Nat.reduceEqDiff,Nat.reduceLT,Nat.reduceAdd,Nat.reduceBEq,Int.reduceAdd,Int.reduceSub,Int.reduceLT,Int.reduceLE,Int.reduceEq,Int.reduceNeg,↓reduceIte,reduceCtorEq,scL,scD,expand,List.replicate,b1,b2,b3,h1,h2])|apply gC_drawW|((first|apply gI_dec|apply gG_dec|apply gPG_dec|apply gI_var|apply gG_var|apply gPG_var)<;>intro _))
   refine writeString_w w (n+1) hC 1 nx (.ptr 1 0) (acc++⟨#[32]⟩) _ (by simp[aget_cons,b2,ByteArray.size_append]) (by simp[aget_cons]) (.inr rfl) (Nat.zero_le _) (Nat.zero_le _) c2 c1 (by rw[ByteArray.size_append];omega) ?_
   repeat' (first|(simp (disch:=first|omega|assumption|exact bd (by with_unfolding_all rfl)|exact Or.inl rfl|exact Or.inl trivial|exact okL_map _ (fun _=>rfl) _|(simp only[VVlen]<;>omega)|fail) only[VV0,VV1,VV2,VV3,VV4,VV5,VV6,VV7,VV8,VV9,mkFnV,vargs,slotsL,opdsA,Nat.reduceEqDiff,Nat.reduceLT,Nat.reduceAdd,Nat.reduceBEq,Int.reduceAdd,Int.reduceSub,Int.reduceLT,Int.reduceLE,Int.reduceEq,Int.reduceNeg,↓reduceIte,reduceCtorEq,scL,scD,expand,List.replicate,b1,b2,b3,h1,h2,c1,c2,c3,c4,c5])|apply gC_drawW|((first|apply gI_dec|apply gG_dec|apply gPG_dec|apply gI_var|apply gG_var|apply gPG_var)<;>intro _))
   refine ⟨_,_,_,?_,.refl _ _,k+1,nx+1,nx+1+1,.ptr 1 0,acc++⟨#[32]⟩++⟨(dw x).toArray⟩,rfl,hlt,by omega,.inr rfl,?_,rfl,?_⟩
   ·omega
   ·rw[ByteArray.data_append,Array.toList_append,ByteArray.data_append,Array.toList_append,ha,htk,if_neg hz]
   ·simp only[ByteArray.size_append]
 ·have:k=l.length:=by omega
  subst this
  rw[List.take_length] at ha hasz hbn
  have hacc:acc=⟨(txt l).toArray⟩:=by
   apply ByteArray.ext;apply Array.ext';rw[ha]
  repeat' (first|(simp (disch:=first|omega|assumption|exact bd (by with_unfolding_all rfl)|exact Or.inl rfl|exact Or.inl trivial|exact okL_map _ (fun _=>rfl) _|(simp only[VVlen]<;>omega)|fail) only[VV0,VV1,VV2,VV3,VV4,VV5,VV6,VV7,VV8,VV9,mkFnV,vargs,slotsL,opdsA,Nat.reduceEqDiff,Nat.reduceLT,Nat.reduceAdd,Nat.reduceBEq,Int.reduceAdd,Int.reduceSub,Int.reduceLT,Int.reduceLE,Int.reduceEq,Int.reduceNeg,↓reduceIte,reduceCtorEq,scL,scD,expand,List.replicate,c20l0])|apply gC_drawW|((first|apply gI_dec|apply gG_dec|apply gPG_dec|apply gI_var|apply gG_var|apply gPG_var)<;>intro _))
  refine string_w w (n+3) hC 1 r p acc (by simp[aget_cons,b1]) (by simp[aget_cons]) (Nat.zero_le _) (Nat.zero_le _) (by omega) fun st' hst=>?_
  rw[hacc]
  repeat' (first|(simp (disch:=first|omega|assumption|exact bd (by with_unfolding_all rfl)|exact Or.inl rfl|exact Or.inl trivial|exact okL_map _ (fun _=>rfl) _|(simp only[VVlen]<;>omega)|fail) only[VV0,VV1,VV2,VV3,VV4,VV5,VV6,VV7,VV8,VV9,mkFnV,vargs,slotsL,opdsA,Nat.reduceEqDiff,Nat.reduceLT,Nat.reduceAdd,Nat.reduceBEq,Int.reduceAdd,Int.reduceSub,Int.reduceLT,Int.reduceLE,Int.reduceEq,Int.reduceNeg,↓reduceIte,reduceCtorEq,scL,scD,expand,List.replicate])|apply gC_drawW|((first|apply gI_dec|apply gG_dec|apply gPG_dec|apply gI_var|apply gG_var|apply gPG_var)<;>intro _))
  exact weak_flat rfl hn hst
end
end Go.Proofs.YtkjkiodoighgnaaGreatDoor
namespace Go.Proofs.YtkjkiodoighgnaaGreatDoor
open Go Go.Itp
set_option maxRecDepth 100000
set_option maxHeartbeats 2000000
set_option linter.unusedSimpArgs false
set_option linter.unusedVariables false
def numA (l:List UInt8):Option Int:=match Lib.atoiAll l with
 | .ok v=>some v
 |_=>none
theorem numA_ok {l:List UInt8} {v:Int} (h:numA l=some v):Lib.atoiAll l= .ok v:=by
 unfold numA at h
 split at h
 ·rename_i u hu;cases h;exact hu
 ·cases h
theorem numA_none {l:List UInt8} (h:numA l=none) (v:Int):Lib.atoiAll l ≠ .ok v:=by
 intro e
 unfold numA at h
 rw[e] at h
 cases h
def readN (x:List UInt8):Option Int:=(numA x).bind fun v=>if Lib.itoa v=x∧¬ v<1 then some (v - 1) else none
def parseA:List (List UInt8)→Option (List Int)
 | []=>some []
 |x::ws=>(readN x).bind fun p=>(parseA ws).map (p::·)
theorem parseA_append:∀ {a:List (List UInt8)} {Q:List Int} (ws:List (List UInt8)),parseA a=some Q→parseA (a++ws)=(parseA ws).map (Q++·)
 | [],Q,ws,h=>by
  simp only[parseA,Option.some.injEq] at h;subst h
  simp
 |x::a,Q,ws,h=>by
  simp only[parseA,Option.bind_eq_some_iff,Option.map_eq_some_iff] at h
  obtain ⟨p,h1,R,h2,rfl⟩:=h
  simp only[List.cons_append,parseA,h1,Option.bind_some,parseA_append ws h2]
  cases parseA ws<;>rfl
theorem parseA_len:∀ {a:List (List UInt8)} {Q:List Int},parseA a=some Q→Q.length=a.length
 | [],Q,h=>by simp only[parseA,Option.some.injEq] at h;subst h;rfl
 |x::a,Q,h=>by
  simp only[parseA,Option.bind_eq_some_iff,Option.map_eq_some_iff] at h
  obtain ⟨p,h1,R,h2,rfl⟩:=h
  simp[parseA_len h2]
def pparseF (s:List UInt8):List Int × Int:=
 if s= [] then ([],0) else match parseA (words 32 s) with
  |none=>([],12)
  |some R=>if chk R=0 then (R,0) else ([],12)
abbrev baseV (g:Nat) (Q:List Int) (r:List UInt8) (c:Int):VHp:=
 [(g,.gro 3 1 false (Q.map iD)),(5,.box 3 1 [.sc (.int .i64 0)]),(4,sBox [32]),(3,sBox r),(2,.box 22 1 [.gr 2 g Q.length]),(1,.box 25 1 [.sc (.int .i64 c)]),(0,.box 22 1 [.sc (.slice none 0 0)])]
section
variable (w:World) (n:Nat)
theorem atoi_any {C:Ctx} {st:VSt} {Q:V→VSt→Prop} (hC:C.E=EN w (n+1)) (l:List UInt8) (hl:l.length≤1000000) (hes:(errO Tryz.prog w "strconv.ErrSyntax").isSome=true) (her:(errO Tryz.prog w "strconv.ErrRange").isSome=true)
  (h1:∀ v,numA l=some v→Q (.tup [.sc (.int .i64 v),.sc .nilIface]) st)
  (h2:numA l=none→∀ (k:Int) (cs:List V),Q (.tup [.sc (.int .i64 k),.ifc 90 (.ptr st.next 0)]) ⟨(st.next,.box 110 1 cs)::st.own,st.next+1,st.ro⟩):CallV C 33 [strV l] st Q:=by
 have hs:(ByteArray.mk l.toArray).size≤281474976710656:=by rw[mk_size];omega
 cases hu:numA l with
 |some v=>exact callV_flat (by rw[hC];exact atoi_s w n _ ⟨l.toArray⟩ v hs (numA_ok hu)) (h1 v hu)
 |none=>
  obtain ⟨k,cs,sp⟩:=atoi_f w n ⟨l.toArray⟩ hs hes her (numA_none hu)
  refine callV_of (by rw[hC];exact sp) rfl rfl rfl ?_
  obtain ⟨H,nx,ro⟩:=st
  have:=h2 hu k (vshL nx (cs.map V.sc))
  simp only[vsh,vshL,shH,shO,fzSL,fzS,frozA_none,Nat.add_zero,Nat.zero_add,List.nil_append,List.cons_append] at this ⊢
  exact this
theorem parse_round {C:Ctx} (hC:C.E=EN w (n+7)) (hes:(errO Tryz.prog w "strconv.ErrSyntax").isSome=true) (her:(errO Tryz.prog w "strconv.ErrRange").isSome=true) (x r:List UInt8) (hx:x.length≤100000) (g nx:Nat) (Q:List Int) (hQl:Q.length≤200000)
  (g1:g ≠ 0) (g2:g ≠ 1) (g3:g ≠ 2) (g4:g ≠ 3) (g5:g ≠ 4) (g6:g ≠ 5) (g7:g ≠ 7) (g8:g<nx) (g9:7<nx) (Q2:V→VSt→Prop)
  (hgo:∀ p,readN x=some p→Q2 (.sc (.bool true)) ⟨(7,recO 0)::baseV (nx+1) (Q++ [p]) r 0,nx+2,0⟩)
  (hstop:readN x=none→∀ nx',nx≤nx'→Q2 (.sc (.bool false)) ⟨(7,recO (codeOf .ret))::baseV g Q r 12,nx',0⟩):
  RoundV C.E c15a0 c15b0 [(2,.ptr 0 0),(3,.ptr 1 0),(4,.ptr 2 0)] [12] 7 [strV x] ⟨(7,recO 0)::baseV g Q r 0,nx,0⟩ Q2:=by
 have b1:¬ (7=nx):=by omega
 have b2:¬ (g=nx):=by omega
 have b3:¬ (5=nx):=by omega
 have b4:¬ (4=nx):=by omega
 have b5:¬ (3=nx):=by omega
 have b6:¬ (2=nx):=by omega
 have b7:¬ (1=nx):=by omega
 have b8:¬ (0=nx):=by omega
 have f1:=Ne.symm g1
 have f2:=Ne.symm g2
 have f3:=Ne.symm g3
 have f4:=Ne.symm g4
 have f5:=Ne.symm g5
 have f6:=Ne.symm g6
 have f7:=Ne.symm g7
 have hrd:readN x=(numA x).bind fun v=>if Lib.itoa v=x∧¬ v<1 then some (v - 1) else none:=rfl
 refine ⟨Nat.zero_le _,rfl,g9,_,rfl,fun C4 h4c h4n=>?_⟩
 have hcs:C4.E=EN w (n+6+1):=h4c.trans hC
 repeat' (first|(simp (disch:=first|omega|assumption|exact bd (by with_unfolding_all rfl)|exact Or.inl rfl|exact Or.inl trivial|exact okL_map _ (fun _=>rfl) _|(simp only[VVlen]<;>omega)|fail) only[VV0,VV1,VV2,VV3,VV4,VV5,VV6,VV7,VV8,VV9,mkFnV,vargs,slotsL,opdsA,Nat.reduceEqDiff,Nat.reduceLT,Nat.reduceAdd,Nat.reduceBEq,Int.reduceAdd,Int.reduceSub,Int.reduceLT,Int.reduceLE,Int.reduceEq,Int.reduceNeg,↓reduceIte,reduceCtorEq,scL,scD,expand,List.replicate,c15a0,eqIf_ifc,eqIf_nil,eqIfA_nn,b1,b2,b3,b4,b5,b6,b7,b8,g1,g2,g3,g4,g5,g6,g7,f1,f2,f3,f4,f5,f6,f7])|apply gC_drawW|((first|apply gI_dec|apply gG_dec|apply gPG_dec|apply gI_var|apply gG_var|apply gPG_var)<;>intro _))
 refine ⟨trivial,Nat.zero_le _,trivial,?_⟩
 repeat' (first|(simp (disch:=first|omega|assumption|exact bd (by with_unfolding_all rfl)|exact Or.inl rfl|exact Or.inl trivial|exact okL_map _ (fun _=>rfl) _|(simp only[VVlen]<;>omega)|fail) only[VV0,VV1,VV2,VV3,VV4,VV5,VV6,VV7,VV8,VV9,mkFnV,vargs,slotsL,opdsA,Nat.reduceEqDiff,Nat.reduceLT,Nat.reduceAdd,Nat.reduceBEq,Int.reduceAdd,Int.reduceSub,Int.reduceLT,Int.reduceLE,Int.reduceEq,Int.reduceNeg,↓reduceIte,reduceCtorEq,scL,scD,expand,List.replicate,c15b0,eqIf_ifc,eqIf_nil,eqIfA_nn,b1,b2,b3,b4,b5,b6,b7,b8,g1,g2,g3,g4,g5,g6,g7,f1,f2,f3,f4,f5,f6,f7])|apply gC_drawW|((first|apply gI_dec|apply gG_dec|apply gPG_dec|apply gI_var|apply gG_var|apply gPG_var)<;>intro _))
 have k1:¬ (7=nx+1):=by omega
 have k2:¬ (g=nx+1):=by omega
 have k3:¬ (5=nx+1):=by omega
 have k4:¬ (4=nx+1):=by omega
 have k5:¬ (3=nx+1):=by omega
 have k6:¬ (2=nx+1):=by omega
 have k7:¬ (1=nx+1):=by omega
 have k8:¬ (0=nx+1):=by omega
 refine atoi_any w (n+6) hcs x (by omega) hes her (fun v hv=>?_) (fun hv kv cv=>?_)
 ·have hvb:=Lib.atoiAll_bounds (numA_ok hv)
  rw[hv,Option.bind_some] at hrd
  repeat' (first|(simp (disch:=first|omega|assumption|exact bd (by with_unfolding_all rfl)|exact Or.inl rfl|exact Or.inl trivial|exact okL_map _ (fun _=>rfl) _|(simp only[VVlen]<;>omega)|fail) only[VV0,VV1,VV2,VV3,VV4,VV5,VV6,VV7,VV8,VV9,mkFnV,vargs,slotsL,opdsA,Nat.reduceEqDiff,Nat.reduceLT,Nat.reduceAdd,Nat.reduceBEq,Int.reduceAdd,Int.reduceSub,Int.reduceLT,Int.reduceLE,Int.reduceEq,Int.reduceNeg,↓reduceIte,reduceCtorEq,scL,scD,expand,List.replicate,baseV,eqIf_ifc,eqIf_nil,eqIfA_nn,b1,b2,b3,b4,b5,b6,b7,b8,g1,g2,g3,g4,g5,g6,g7,f1,f2,f3,f4,f5,f6,f7])|apply gC_drawW|((first|apply gI_dec|apply gG_dec|apply gPG_dec|apply gI_var|apply gG_var|apply gPG_var)<;>intro _))
  refine callV_flat (by rw[hcs];exact itoa_s w (n+6) _ _ hvb.1 hvb.2) ?_
  have m1:¬ (nx=6):=by omega
  have m2:¬ (nx=4):=by omega
  have m3:¬ (nx=3):=by omega
  have m4:¬ (nx=2):=by omega
  have m5:¬ (nx=1):=by omega
  have m6:¬ (nx=0):=by omega
  by_cases he:Lib.itoa v=x
  case neg=>
   repeat' (first|(simp (disch:=first|omega|assumption|exact bd (by with_unfolding_all rfl)|exact Or.inl rfl|exact Or.inl trivial|exact okL_map _ (fun _=>rfl) _|(simp only[VVlen]<;>omega)|fail) only[VV0,VV1,VV2,VV3,VV4,VV5,VV6,VV7,VV8,VV9,mkFnV,vargs,slotsL,opdsA,Nat.reduceEqDiff,Nat.reduceLT,Nat.reduceAdd,Nat.reduceBEq,Int.reduceAdd,Int.reduceSub,Int.reduceLT,Int.reduceLE,Int.reduceEq,Int.reduceNeg,↓reduceIte,reduceCtorEq,scL,scD,expand,List.replicate,mk_inj,he,b1,b2,b3,b4,b5,b6,b7,b8,g1,g2,g3,g4,g5,g6,g7,f1,f2,f3,f4,f5,f6,f7])|apply gC_drawW|((first|apply gI_dec|apply gG_dec|apply gPG_dec|apply gI_var|apply gG_var|apply gPG_var)<;>intro _))
   exact ⟨Nat.zero_le _,trivial,_,.refl _ _,hstop (by rw[hrd,if_neg (fun h=>he h.1)]) _ (by omega)⟩
  by_cases hv1:v<1
  ·repeat' (first|(simp (disch:=first|omega|assumption|exact bd (by with_unfolding_all rfl)|exact Or.inl rfl|exact Or.inl trivial|exact okL_map _ (fun _=>rfl) _|(simp only[VVlen]<;>omega)|fail) only[VV0,VV1,VV2,VV3,VV4,VV5,VV6,VV7,VV8,VV9,mkFnV,vargs,slotsL,opdsA,Nat.reduceEqDiff,Nat.reduceLT,Nat.reduceAdd,Nat.reduceBEq,Int.reduceAdd,Int.reduceSub,Int.reduceLT,Int.reduceLE,Int.reduceEq,Int.reduceNeg,↓reduceIte,reduceCtorEq,scL,scD,expand,List.replicate,mk_inj,he,b1,b2,b3,b4,b5,b6,b7,b8,g1,g2,g3,g4,g5,g6,g7,f1,f2,f3,f4,f5,f6,f7])|apply gC_drawW|((first|apply gI_dec|apply gG_dec|apply gPG_dec|apply gI_var|apply gG_var|apply gPG_var)<;>intro _))
   exact ⟨Nat.zero_le _,trivial,_,.refl _ _,hstop (by rw[hrd,if_neg (fun h=>h.2 hv1)]) _ (by omega)⟩
  ·repeat' (first|(simp (disch:=first|omega|assumption|exact bd (by with_unfolding_all rfl)|exact Or.inl rfl|exact Or.inl trivial|exact okL_map _ (fun _=>rfl) _|(simp only[VVlen]<;>omega)|fail) only[VV0,VV1,VV2,VV3,VV4,VV5,VV6,VV7,VV8,VV9,mkFnV,vargs,slotsL,opdsA,Nat.reduceEqDiff,Nat.reduceLT,Nat.reduceAdd,Nat.reduceBEq,Int.reduceAdd,Int.reduceSub,Int.reduceLT,Int.reduceLE,Int.reduceEq,Int.reduceNeg,↓reduceIte,reduceCtorEq,scL,scD,expand,List.replicate,mk_inj,he,b1,b2,b3,b4,b5,b6,b7,b8,g1,g2,g3,g4,g5,g6,g7,f1,f2,f3,f4,f5,f6,f7,k1,k2,k3,k4,k5,k6,k7,k8])|apply gC_drawW|((first|apply gI_dec|apply gG_dec|apply gPG_dec|apply gI_var|apply gG_var|apply gPG_var)<;>intro _))
   have hh:=hgo (v - 1) (by rw[hrd,if_pos ⟨he,hv1⟩])
   have hnx4:C4.w0.nx=nx:=h4n
   refine ⟨Nat.zero_le _,trivial,_,weak_keep [7,nx+1,5,4,3,2,1,0] (by simp;omega) (by simp;omega) (by omega),Eq.mp (congrArg (Q2 _) ?_) hh⟩
   simp[baseV,iD,idR,renH,aget_cons,renO,recO,vrenL,vren,codeOf,b1,b2,b3,b4,b5,b6,b7,b8,g1,g2,g3,g4,g5,g6,g7,f1,f2,f3,f4,f5,f6,f7,k1,k2,k3,k4,k5,k6,k7,k8,m1,m2,m3,m4,m5,m6]
 ·repeat' (first|(simp (disch:=first|omega|assumption|exact bd (by with_unfolding_all rfl)|exact Or.inl rfl|exact Or.inl trivial|exact okL_map _ (fun _=>rfl) _|(simp only[VVlen]<;>omega)|fail) only[VV0,VV1,VV2,VV3,VV4,VV5,VV6,VV7,VV8,VV9,mkFnV,vargs,slotsL,opdsA,Nat.reduceEqDiff,Nat.reduceLT,Nat.reduceAdd,Nat.reduceBEq,Int.reduceAdd,Int.reduceSub,Int.reduceLT,Int.reduceLE,Int.reduceEq,Int.reduceNeg,↓reduceIte,reduceCtorEq,scL,scD,expand,List.replicate,baseV,eqIf_ifc,eqIf_nil,eqIfA_nn,b1,b2,b3,b4,b5,b6,b7,b8,g1,g2,g3,g4,g5,g6,g7,f1,f2,f3,f4,f5,f6,f7,k1,k2,k3,k4,k5,k6,k7,k8])|apply gC_drawW|((first|apply gI_dec|apply gG_dec|apply gPG_dec|apply gI_var|apply gG_var|apply gPG_var)<;>intro _))
  exact ⟨Nat.zero_le _,trivial,_,(weak_front (aget_fresh _ _ (by simp;omega))).trans (.refl _ _),hstop (by rw[hrd,hv];rfl) _ (by omega)⟩
theorem parse_p (s:List UInt8) (hl:s.length≤100000) (hes:(errO Tryz.prog w "strconv.ErrSyntax").isSome=true) (her:(errO Tryz.prog w "strconv.ErrRange").isSome=true):VSpec (EN w (n+8)) 15 [strV s] (finV (pparseF s)) ⟨[],0,0⟩:=by
 refine vspec_g rfl rfl (fun _ _=>rfl) (Nat.le_of_ble_eq_true rfl) (oldVals w) retOK_fin rfl fun C hC hn=>?_
 have hsz:=mk_size s
 by_cases hs:s= []
 ·subst hs
  repeat' (first|(simp (disch:=first|omega|assumption|exact bd (by with_unfolding_all rfl)|exact Or.inl rfl|exact Or.inl trivial|exact okL_map _ (fun _=>rfl) _|(simp only[VVlen]<;>omega)|fail) only[VV0,VV1,VV2,VV3,VV4,VV5,VV6,VV7,VV8,VV9,mkFnV,vargs,slotsL,opdsA,Nat.reduceEqDiff,Nat.reduceLT,Nat.reduceAdd,Nat.reduceBEq,Int.reduceAdd,Int.reduceSub,Int.reduceLT,Int.reduceLE,Int.reduceEq,Int.reduceNeg,↓reduceIte,reduceCtorEq,scL,scD,expand,List.replicate,c15])|apply gC_drawW|((first|apply gI_dec|apply gG_dec|apply gPG_dec|apply gI_var|apply gG_var|apply gPG_var)<;>intro _))
  exact weak_finNil hn rfl
 have hs':¬ (ByteArray.mk s.toArray=ByteArray.mk #[]):=fun h=>hs (by
  have:=congrArg (fun b:ByteArray=>b.data.toList) h
  simpa using this)
 repeat' (first|(simp (disch:=first|omega|assumption|exact bd (by with_unfolding_all rfl)|exact Or.inl rfl|exact Or.inl trivial|exact okL_map _ (fun _=>rfl) _|(simp only[VVlen]<;>omega)|fail) only[VV0,VV1,VV2,VV3,VV4,VV5,VV6,VV7,VV8,VV9,mkFnV,vargs,slotsL,opdsA,Nat.reduceEqDiff,Nat.reduceLT,Nat.reduceAdd,Nat.reduceBEq,Int.reduceAdd,Int.reduceSub,Int.reduceLT,Int.reduceLE,Int.reduceEq,Int.reduceNeg,↓reduceIte,reduceCtorEq,scL,scD,expand,List.replicate,c15,hs'])|apply gC_drawW|((first|apply gI_dec|apply gG_dec|apply gPG_dec|apply gI_var|apply gG_var|apply gPG_var)<;>intro _))
 refine callV_of (by rw[hC];exact splitSeq_p w (n+5) s 32) rfl rfl rfl ?_
 repeat' (first|(simp (disch:=first|omega|assumption|exact bd (by with_unfolding_all rfl)|exact Or.inl rfl|exact Or.inl trivial|exact okL_map _ (fun _=>rfl) _|(simp only[VVlen]<;>omega)|fail) only[VV0,VV1,VV2,VV3,VV4,VV5,VV6,VV7,VV8,VV9,mkFnV,vargs,slotsL,opdsA,Nat.reduceEqDiff,Nat.reduceLT,Nat.reduceAdd,Nat.reduceBEq,Int.reduceAdd,Int.reduceSub,Int.reduceLT,Int.reduceLE,Int.reduceEq,Int.reduceNeg,↓reduceIte,reduceCtorEq,scL,scD,expand,List.replicate,vsh,vshL,shH,shO,fzSL,fzS])|apply gC_drawW|((first|apply gI_dec|apply gG_dec|apply gPG_dec|apply gI_var|apply gG_var|apply gPG_var)<;>intro _))
 refine g_rangeW (weak_nilCell (C:=C) (l:= [.sc (.slice none 0 0)]) 2 22 1 0 3 1 rfl rfl (fun h=>absurd (show (2:Nat)=6 from h) (by decide))) ?_
 refine g_range hC rfl rfl rfl (Nat.le_of_ble_eq_true rfl) rfl (Nat.zero_le _) fun C2 h2n h2r h2p h2o hT=>?_
 repeat' (first|(simp (disch:=first|omega|assumption|exact bd (by with_unfolding_all rfl)|exact Or.inl rfl|exact Or.inl trivial|exact okL_map _ (fun _=>rfl) _|(simp only[VVlen]<;>omega)|fail) only[VV0,VV1,VV2,VV3,VV4,VV5,VV6,VV7,VV8,VV9,mkFnV,vargs,slotsL,opdsA,Nat.reduceEqDiff,Nat.reduceLT,Nat.reduceAdd,Nat.reduceBEq,Int.reduceAdd,Int.reduceSub,Int.reduceLT,Int.reduceLE,Int.reduceEq,Int.reduceNeg,↓reduceIte,reduceCtorEq,scL,scD,expand,List.replicate])|apply gC_drawW|((first|apply gI_dec|apply gG_dec|apply gPG_dec|apply gI_var|apply gG_var|apply gPG_var)<;>intro _))
 refine split_iter (d:=7) (oP:=4) (oS:=3) (oV:=5) (c:=32) (s:=s) w (n+2)
  (fun dn r st=>∃ (g nx:Nat) (Q:List Int),(g ≠ 0∧g ≠ 1∧g ≠ 2∧g ≠ 3∧g ≠ 4∧g ≠ 5∧g ≠ 7∧g<nx∧7<nx)∧parseA dn=some Q∧st=⟨(7,recO 0)::baseV g Q r 0,nx,0⟩)
  (fun st=>∃ (g nx:Nat) (Q:List Int) (r:List UInt8),(g ≠ 0∧g ≠ 1∧g ≠ 2∧g ≠ 3∧g ≠ 4∧g ≠ 5∧g ≠ 7∧g<nx∧7<nx)∧parseA (words 32 s)=none∧st=⟨(7,recO (codeOf .ret))::baseV g Q r 12,nx,0⟩)
  h2p h2o h2r (by omega) hT ?_ ?_ ?_ ?_ ?_ _ ⟨6,8,[],by decide,rfl,rfl⟩
 ·rintro dn r st ⟨g,nx,Q,⟨g1,g2,g3,g4,g5,g6,g7,g8,g9⟩,hQ,rfl⟩
  have f1:=Ne.symm g1
  have f2:=Ne.symm g2
  have f3:=Ne.symm g3
  have f4:=Ne.symm g4
  have f5:=Ne.symm g5
  have f6:=Ne.symm g6
  refine ⟨?_,?_,?_,Nat.zero_le _⟩
  all_goals simp[aget_cons,f1,f2,f3,f4,f5,f6]
 ·rintro dn r x ws st Q2 hw hwr ⟨g,nx,Q,⟨g1,g2,g3,g4,g5,g6,g7,g8,g9⟩,hQ,rfl⟩ hgo hstop
  have hxm:x ∈ words 32 s:=by rw[hw,hwr];simp
  obtain ⟨hwl,hwx⟩:=words_len (c:=32) s.length (s:=s) (Nat.le_refl _)
  have hx1:=hwx x hxm
  have hQl:Q.length≤200000:=by
   have h1:=parseA_len hQ
   have h2:(words 32 s).length=dn.length+(words 32 r).length:=by rw[hw];simp
   omega
  refine parse_round w n hC hes her x r (by omega) g nx Q hQl g1 g2 g3 g4 g5 g6 g7 g8 g9 Q2 (fun p hp=>?_) (fun hp nx' hnx=>?_)
  ·refine hgo _ ⟨nx+1,nx+2,Q++ [p],by omega,?_,rfl⟩
   rw[parseA_append _ hQ]
   simp only[parseA,hp,Option.bind_some,Option.map_some]
  ·refine hstop _ ⟨g,nx',Q,r,by omega,?_,rfl⟩
   rw[hw,hwr,parseA_append _ hQ]
   simp only[parseA,hp,Option.bind_none,Option.map_none]
 ·rintro dn r r' st ⟨g,nx,Q,⟨g1,g2,g3,g4,g5,g6,g7,g8,g9⟩,hQ,rfl⟩
  have f4:=Ne.symm g4
  refine ⟨g,nx,Q,⟨g1,g2,g3,g4,g5,g6,g7,g8,g9⟩,hQ,?_⟩
  simp[aset_cons',f4]
 ·rintro fr st r ⟨g,nx,Q,⟨g1,g2,g3,g4,g5,g6,g7,g8,g9⟩,hQ,rfl⟩
  refine ⟨fun i h=>(by cases h),Nat.zero_le _,0,.normal,rfl,rfl,?_⟩
  have f1:=Ne.symm g1
  have f2:=Ne.symm g2
  have f3:=Ne.symm g3
  have f7:=Ne.symm g7
  have f4:=Ne.symm g4
  have f5:=Ne.symm g5
  have f6:=Ne.symm g6
  have hpe:pparseF s=if chk Q=0 then (Q,0) else ([],12):=by
   unfold pparseF
   rw[if_neg hs,hQ]
  have hQl:Q.length≤200000:=by
   have h1:=parseA_len hQ
   have h2:=(words_len (c:=32) s.length (s:=s) (Nat.le_refl _)).1
   omega
  rw[hpe]
  repeat' (first|(simp (disch:=first|omega|assumption|exact bd (by with_unfolding_all rfl)|exact Or.inl rfl|exact Or.inl trivial|exact okL_map _ (fun _=>rfl) _|(simp only[VVlen]<;>omega)|fail) only[VV0,VV1,VV2,VV3,VV4,VV5,VV6,VV7,VV8,VV9,mkFnV,vargs,slotsL,opdsA,Nat.reduceEqDiff,Nat.reduceLT,Nat.reduceAdd,Nat.reduceBEq,Int.reduceAdd,Int.reduceSub,Int.reduceLT,Int.reduceLE,Int.reduceEq,Int.reduceNeg,↓reduceIte,reduceCtorEq,scL,scD,expand,List.replicate,f1,f2,f3,f4,f5,f6,f7,g1,g2,g3,g4,g5,g6,g7])|apply gC_drawW|((first|apply gI_dec|apply gG_dec|apply gPG_dec|apply gI_var|apply gG_var|apply gPG_var)<;>intro _))
  have hQ0:Q ≠ []:=fun e=>by
   have h1:=parseA_len hQ
   rw[e] at h1
   exact words_ne 32 s (List.eq_nil_of_length_eq_zero h1.symm)
  have b2:¬ (g=nx):=by omega
  have b3:¬ (5=nx):=by omega
  have b4:¬ (4=nx):=by omega
  have b5:¬ (3=nx):=by omega
  have b6:¬ (2=nx):=by omega
  have b7:¬ (1=nx):=by omega
  have b8:¬ (0=nx):=by omega
  have b9:¬ (nx=g):=by omega
  have e1:∀ z,aget [(g,Obj.gro 3 1 z (Q.map iD)),(5,.box 3 1 [.sc (.int .i64 0)]),(4,sBox [32]),(3,sBox r),(2,.box 22 1 [.gr 2 g Q.length]),(1,.box 25 1 [.sc (.int .i64 0)]),(0,.box 22 1 [.sc (.slice none 0 0)])] g=some (.gro 3 1 z (Q.map iD)):=fun z=>by rw[aget_cons,if_pos rfl]
  refine callV_weak (st':=⟨[(nx,.row 22 1 false false [.sl 2 Q.length (Q.map iD)]),(g,.gro 3 1 true (Q.map iD)),(5,.box 3 1 [.sc (.int .i64 0)]),(4,sBox [32]),(3,sBox r),(2,.box 22 1 [.gr 2 g Q.length]),(1,.box 25 1 [.sc (.int .i64 0)]),(0,.box 22 1 [.sc (.slice none 0 0)])],nx+1,0⟩) (fun C' hn'=>?_) ?_
  ·have hw1:=weak_snapCell (C:=C') (fr:= []) (st:=⟨[(nx,.box 22 1 [.gr 2 g Q.length]),(g,.gro 3 1 false (Q.map iD)),(5,.box 3 1 [.sc (.int .i64 0)]),(4,sBox [32]),(3,sBox r),(2,.box 22 1 [.gr 2 g Q.length]),(1,.box 25 1 [.sc (.int .i64 0)]),(0,.box 22 1 [.sc (.slice none 0 0)])],nx+1,0⟩) (o:=nx) (g:=g) (n:=Q.length) (k:=0) (q:=Q.map iD) (t:=22) (e:=1) (l:= [.gr 2 g Q.length]) (t':=3) (by rw[aget_cons,if_pos rfl]) rfl (by rw[aget_cons,if_neg b2];exact e1 false) (by rw[List.length_map]) (Nat.zero_le _) (rowsB_gro 0 _ g 3 1 false (Q.map iD) [] (by rw[aget_cons,if_neg b2];exact e1 false) (Nat.zero_le _) rfl)
   have b1:¬ (nx=g):=b9
   have hst:(⟨aset (frozA [g] [(nx,.box 22 1 [.gr 2 g Q.length]),(g,.gro 3 1 false (Q.map iD)),(5,.box 3 1 [.sc (.int .i64 0)]),(4,sBox [32]),(3,sBox r),(2,.box 22 1 [.gr 2 g Q.length]),(1,.box 25 1 [.sc (.int .i64 0)]),(0,.box 22 1 [.sc (.slice none 0 0)])]) nx (.box 22 1 ([V.gr 2 g Q.length].set 0 (.sl 2 Q.length (Q.map iD)))),nx+1,0⟩:VSt)=
     ⟨[(nx,.box 22 1 [.sl 2 Q.length (Q.map iD)]),(g,.gro 3 1 true (Q.map iD)),(5,.box 3 1 [.sc (.int .i64 0)]),(4,sBox [32]),(3,sBox r),(2,.box 22 1 [.gr 2 g Q.length]),(1,.box 25 1 [.sc (.int .i64 0)]),(0,.box 22 1 [.sc (.slice none 0 0)])],nx+1,0⟩:=by
    simp[frozA_cons',frozA_nil',elemB_cons',elemB_nil',aset_cons',Obj.froz,b9,f1,f2,f3,f4,f5,f6]
   rw[hst] at hw1
   refine hw1.trans ?_
   have hw2:=weak_boxrow (C:=C') (fr:= []) (st:=⟨[(nx,.box 22 1 [.sl 2 Q.length (Q.map iD)]),(g,.gro 3 1 true (Q.map iD)),(5,.box 3 1 [.sc (.int .i64 0)]),(4,sBox [32]),(3,sBox r),(2,.box 22 1 [.gr 2 g Q.length]),(1,.box 25 1 [.sc (.int .i64 0)]),(0,.box 22 1 [.sc (.slice none 0 0)])],nx+1,0⟩) (o:=nx) (t:=22) (e:=1) (l:= [.sl 2 Q.length (Q.map iD)]) (by rw[aget_cons,if_pos rfl];rfl) (by
    have:okD (.sl 2 Q.length (Q.map iD))=true:=okD_ne (by decide)
    simp[okL,this])
   simpa [aset_cons'] using hw2
  ·have hck:=check_p w (n+6) [(2,Q)] (by simp) (fun k hk=>by
    rcases k with _|k
    ·show Q.length≤_;omega
    ·simp at hk)
   rw[chkL_one] at hck
   have hsn:snapL [(nx,Obj.row 22 1 false false [.sl 2 Q.length (Q.map iD)]),(g,.gro 3 1 true (Q.map iD)),(5,.box 3 1 [.sc (.int .i64 0)]),(4,sBox [32]),(3,sBox r),(2,.box 22 1 [.gr 2 g Q.length]),(1,.box 25 1 [.sc (.int .i64 0)]),(0,.box 22 1 [.sc (.slice none 0 0)])] [V.ref nx 0 1 1]=some [.sl 0 1 [.sl 2 Q.length (Q.map iD)]]:=by
    simp only[snapL,snapV,toD,aget_cons,if_true]
    rfl
   refine callV_flat (by rw[hC];exact hck.flat rfl hsn) ?_
   by_cases hc:chk Q=0
   ·rw[if_pos hc]
    repeat' (first|(simp (disch:=first|omega|assumption|exact bd (by with_unfolding_all rfl)|exact Or.inl rfl|exact Or.inl trivial|exact okL_map _ (fun _=>rfl) _|(simp only[VVlen]<;>omega)|fail) only[VV0,VV1,VV2,VV3,VV4,VV5,VV6,VV7,VV8,VV9,mkFnV,vargs,slotsL,opdsA,Nat.reduceEqDiff,Nat.reduceLT,Nat.reduceAdd,Nat.reduceBEq,Int.reduceAdd,Int.reduceSub,Int.reduceLT,Int.reduceLE,Int.reduceEq,Int.reduceNeg,↓reduceIte,reduceCtorEq,scL,scD,expand,List.replicate,hc,f1,f2,f3,f4,f5,f6,f7,g1,g2,g3,g4,g5,g6,g7,b2,b3,b4,b5,b6,b7,b8,b9])|apply gC_drawW|((first|apply gI_dec|apply gG_dec|apply gPG_dec|apply gI_var|apply gG_var|apply gPG_var)<;>intro _))
    have ag:∀ R,aget ((nx,R)::(g,Obj.gro 3 1 true (Q.map iD)):: [(5,.box 3 1 [.sc (.int .i64 0)]),(4,sBox [32]),(3,sBox r),(2,.box 22 1 [.gr 2 g Q.length]),(1,.box 25 1 [.sc (.int .i64 0)]),(0,.box 22 1 [.gr 2 g Q.length])]) g=some (.gro 3 1 true (Q.map iD)):=fun R=>by rw[aget_cons,if_neg b2,aget_cons,if_pos rfl]
    refine weak_fin (s:=2) (n:=Q.length) (l:=Q.map iD) ?_ (rowsB_gro 0 _ g 3 1 true (Q.map iD) [] (ag _) (Nat.zero_le _) rfl) (.inl (by decide)) hn rfl
    simp only[snapV,toD,ag]
    rw[if_pos ⟨by rw[List.length_map,Nat.mul_one],by decide,by decide,by decide⟩]
    rfl
   ·rw[if_neg hc]
    repeat' (first|(simp (disch:=first|omega|assumption|exact bd (by with_unfolding_all rfl)|exact Or.inl rfl|exact Or.inl trivial|exact okL_map _ (fun _=>rfl) _|(simp only[VVlen]<;>omega)|fail) only[VV0,VV1,VV2,VV3,VV4,VV5,VV6,VV7,VV8,VV9,mkFnV,vargs,slotsL,opdsA,Nat.reduceEqDiff,Nat.reduceLT,Nat.reduceAdd,Nat.reduceBEq,Int.reduceAdd,Int.reduceSub,Int.reduceLT,Int.reduceLE,Int.reduceEq,Int.reduceNeg,↓reduceIte,reduceCtorEq,scL,scD,expand,List.replicate,hc,f1,f2,f3,f4,f5,f6,f7,g1,g2,g3,g4,g5,g6,g7,b2,b3,b4,b5,b6,b7,b8,b9])|apply gC_drawW|((first|apply gI_dec|apply gG_dec|apply gPG_dec|apply gI_var|apply gG_var|apply gPG_var)<;>intro _))
    exact weak_finNil hn rfl
 ·rintro ex fr st hex ⟨g,nx,Q,r,⟨g1,g2,g3,g4,g5,g6,g7,g8,g9⟩,hQ,rfl⟩
  refine ⟨hex,Nat.zero_le _,_,.ret,rfl,rfl,?_⟩
  have f1:=Ne.symm g1
  have f2:=Ne.symm g2
  have f7:=Ne.symm g7
  have hpe:pparseF s=([],12):=by
   unfold pparseF
   rw[if_neg hs,hQ]
  rw[hpe]
  repeat' (first|(simp (disch:=first|omega|assumption|exact bd (by with_unfolding_all rfl)|exact Or.inl rfl|exact Or.inl trivial|exact okL_map _ (fun _=>rfl) _|(simp only[VVlen]<;>omega)|fail) only[VV0,VV1,VV2,VV3,VV4,VV5,VV6,VV7,VV8,VV9,mkFnV,vargs,slotsL,opdsA,Nat.reduceEqDiff,Nat.reduceLT,Nat.reduceAdd,Nat.reduceBEq,Int.reduceAdd,Int.reduceSub,Int.reduceLT,Int.reduceLE,Int.reduceEq,Int.reduceNeg,↓reduceIte,reduceCtorEq,scL,scD,expand,List.replicate,f1,f2,f7,g1,g2,g7])|apply gC_drawW|((first|apply gI_dec|apply gG_dec|apply gPG_dec|apply gI_var|apply gG_var|apply gPG_var)<;>intro _))
  exact weak_finNil hn rfl
end
end Go.Proofs.YtkjkiodoighgnaaGreatDoor
namespace Go.Proofs.YtkjkiodoighgnaaGreatDoor
open Go Go.Itp
set_option maxRecDepth 100000
set_option maxHeartbeats 1000000
set_option linter.unusedSimpArgs false
set_option linter.unusedVariables false
def arrI (N:Nat) (f:Nat→Int):List V:=(List.range N).map fun x=> .sc (.int .i64 (f x))
theorem arrI_len (N:Nat) (f:Nat→Int):(arrI N f).length=N:=by simp[arrI]
theorem arrI_get (N:Nat) (f:Nat→Int) (k:Nat) (hk:k<N):lget (arrI N f) k=some (.sc (.int .i64 (f k))):=by
 rw[lget_eq]
 simp[arrI,hk]
theorem arrI_set (N:Nat) (f:Nat→Int) (k:Nat) (z:Int):(arrI N f).set k (.sc (.int .i64 z))=arrI N fun x=>if x=k then z else f x:=by
 refine List.ext_getElem (by simp[arrI]) fun i h1 h2=>?_
 rw[List.getElem_set]
 simp only[arrI,List.getElem_map,List.getElem_range]
 by_cases h:k=i
 ·rw[if_pos h,if_pos h.symm]
 ·rw[if_neg h,if_neg (fun e=>h e.symm)]
theorem rep_arr (N:Nat) (v:Value):scL (expand [(N,v)])=(List.range N).map fun _=>V.sc v:=by
 refine List.ext_getElem (by simp[scL,expand]) fun i h1 h2=>by simp[scL,expand]
theorem arrI_zero:scL (expand [(400,.int .i64 0)])=arrI 400 fun _=>0:=rep_arr _ _
theorem expand_ok:((expand [(400,Value.int .i64 0)]).all scOK)=true:=by
 rw[List.all_eq_true]
 intro x hx
 simp only[expand,List.append_nil] at hx
 rw[List.eq_of_mem_replicate hx];rfl
def rs (l:List Int):Nat→(Nat→Int) × Int
 |0=>(fun _=>0,0)
 |k+1=>if (rs l k).1 l[k]!.toNat=0 then (fun x=>if x=l[k]!.toNat then (rs l k).2+1 else (rs l k).1 x,(rs l k).2+1) else rs l k
def rv (l:List Int) (k:Nat):Int:=if (rs l k).1 l[k]!.toNat=0 then (rs l k).2 else (rs l k).1 l[k]!.toNat - 1
theorem rs_bnd (l:List Int):∀ k,0≤(rs l k).2∧(rs l k).2≤k∧∀ x,0≤(rs l k).1 x∧(rs l k).1 x≤(rs l k).2
 |0=>⟨Int.le_refl _,Int.le_refl _,fun x=>⟨Int.le_refl _,Int.le_refl _⟩⟩
 |k+1=>by
  obtain ⟨h1,h2,h3⟩:=rs_bnd l k
  rw[rs]
  split
  ·refine ⟨by simp only;omega,by simp only;omega,fun x=>?_⟩
   have:=h3 x
   simp only
   split<;>omega
  ·exact ⟨h1,by omega,h3⟩
def rnmF (l:List Int):List Int × Int:=if chk l=0 then ((List.range l.length).map (rv l),0) else ([],chk l)
section
variable (w:World) (n:Nat)
theorem renumber_p (s:Nat) (hs:s ≠ 1) (l:List Int) (hl:l.length≤140737488351232):VSpec (EN w (n+2)) 21 [.sl s l.length (l.map iD)] (finV (rnmF l)) ⟨[],0,0⟩:=by
 refine vspec_g rfl rfl (fun _ _=>rfl) (Nat.le_of_ble_eq_true rfl) (oldVals w) retOK_fin rfl fun C hC hn=>?_
 have o1:okD (.sl s l.length (l.map iD))=true:=okD_ne hs
 have hck:=check_p w n [(s,l)] (by simp) (fun k hk=>by
  rcases k with _|k
  ·exact hl
  ·simp at hk)
 rw[chkL_one] at hck
 by_cases h0:chk l=0
 case neg=>
  have e:rnmF l=([],chk l):=if_neg h0
  rw[e]
  repeat' (first|(simp (disch:=first|omega|assumption|exact bd (by with_unfolding_all rfl)|exact Or.inl rfl|exact Or.inl trivial|exact okL_map _ (fun _=>rfl) _|(simp only[VVlen]<;>omega)|fail) only[VV0,VV1,VV2,VV3,VV4,VV5,VV6,VV7,VV8,VV9,mkFnV,vargs,slotsL,opdsA,Nat.reduceEqDiff,Nat.reduceLT,Nat.reduceAdd,Nat.reduceBEq,Int.reduceAdd,Int.reduceSub,Int.reduceLT,Int.reduceLE,Int.reduceEq,Int.reduceNeg,↓reduceIte,reduceCtorEq,scL,scD,expand,List.replicate,c21])|apply gC_drawW|((first|apply gI_dec|apply gG_dec|apply gPG_dec|apply gI_var|apply gG_var|apply gPG_var)<;>intro _))
  refine callV_flat (by rw[hC];exact hck.flat rfl rfl) ?_
  repeat' (first|(simp (disch:=first|omega|assumption|exact bd (by with_unfolding_all rfl)|exact Or.inl rfl|exact Or.inl trivial|exact okL_map _ (fun _=>rfl) _|(simp only[VVlen]<;>omega)|fail) only[VV0,VV1,VV2,VV3,VV4,VV5,VV6,VV7,VV8,VV9,mkFnV,vargs,slotsL,opdsA,Nat.reduceEqDiff,Nat.reduceLT,Nat.reduceAdd,Nat.reduceBEq,Int.reduceAdd,Int.reduceSub,Int.reduceLT,Int.reduceLE,Int.reduceEq,Int.reduceNeg,↓reduceIte,reduceCtorEq,scL,scD,expand,List.replicate])|apply gC_drawW|((first|apply gI_dec|apply gG_dec|apply gPG_dec|apply gI_var|apply gG_var|apply gPG_var)<;>intro _))
  all_goals try (exfalso;omega)
  exact weak_finNil hn rfl
 obtain ⟨hl4,hcol⟩:=chk_facts h0
 have e:rnmF l=(stTo (rv l) l.length l.length,0):=by unfold rnmF;rw[if_pos h0,stTo_end]
 rw[e]
 have hz:=stTo_zero (rv l) l.length
 have hsl:=stTo_len (rv l) l.length
 have hst:=stTo_step (rv l) l.length
 simp (disch:=first|omega|assumption|exact bd (by with_unfolding_all rfl)|exact Or.inl rfl|exact Or.inl trivial|exact okL_map _ (fun _=>rfl) _|(simp only[VVlen]<;>omega)|fail) only[VV0,VV1,VV2,VV3,VV4,VV5,VV6,VV7,VV8,VV9,mkFnV,vargs,slotsL,opdsA,Nat.reduceEqDiff,Nat.reduceLT,Nat.reduceAdd,Nat.reduceBEq,Int.reduceAdd,Int.reduceSub,Int.reduceLT,Int.reduceLE,Int.reduceEq,Int.reduceNeg,↓reduceIte,reduceCtorEq,scL,scD,expand,List.replicate,c21]
 refine callV_flat (by rw[hC];exact hck.flat rfl rfl) ?_
 rw[h0]
 repeat' (first|(simp (disch:=first|omega|assumption|exact bd (by with_unfolding_all rfl)|exact Or.inl rfl|exact Or.inl trivial|exact okL_map _ (fun _=>rfl) _|(simp only[VVlen]<;>omega)|fail) only[VV0,VV1,VV2,VV3,VV4,VV5,VV6,VV7,VV8,VV9,mkFnV,vargs,slotsL,opdsA,Nat.reduceEqDiff,Nat.reduceLT,Nat.reduceAdd,Nat.reduceBEq,Int.reduceAdd,Int.reduceSub,Int.reduceLT,Int.reduceLE,Int.reduceEq,Int.reduceNeg,↓reduceIte,reduceCtorEq,scL,scD,expand,List.replicate,↓arrI_zero,expand_ok])|apply gC_drawW|((first|apply gI_dec|apply gG_dec|apply gPG_dec|apply gI_var|apply gG_var|apply gPG_var)<;>intro _))
 refine g_while (fun m fr st=>∃ k:Nat,m=l.length - k∧k≤l.length∧fr= [(5,.ptr 1 0),(6,.sc (.int .i64 (rs l k).2)),(7,.ref 2 0 l.length l.length),(19,.sl s l.length (l.map iD)),(20,.sc (.int .i64 l.length)),(21,.sc (.int .i64 k))]∧
   st=⟨[(2,.row 3 1 false false ((stTo (rv l) l.length k).map iD)),(1,.box 66 1 (arrI 400 (rs l k).1)),(0,.row 22 1 false false [.sl s l.length (l.map iD)])],3,0⟩) l.length ?_ ⟨_,_,.refl _ _,0,by omega,by omega,rfl,by rw[hz];rfl⟩ ?_
 ·rw[hC,callP_rounds];unfold many;omega
 rintro m fr st ⟨k,rfl,hk,rfl,rfl⟩
 by_cases hlt:k<l.length
 ·obtain ⟨c0,c1⟩:=hcol k hlt
  obtain ⟨r1,r2,r3⟩:=rs_bnd l k
  have hlk:((stTo (rv l) l.length k).map iD).length=l.length:=by rw[List.length_map,hsl]
  have hs1:=hst k hlt
  have hc:l[k]!.toNat<400:=by omega
  have hg:=fun f=>arrI_get 400 f l[k]!.toNat hc
  have hset:=arrI_set 400 (rs l k).1 l[k]!.toNat
  have hle:(arrI 400 (rs l k).1).length=400:=arrI_len 400 _
  by_cases hf:(rs l k).1 l[k]!.toNat=0
  ·have e1:rs l (k+1)=(fun x=>if x=l[k]!.toNat then (rs l k).2+1 else (rs l k).1 x,(rs l k).2+1):=by rw[rs,if_pos hf]
   have e2:rv l k=(rs l k).2:=if_pos hf
   rw[e2] at hs1
   rw[show k+1=k+1 from rfl] at e1
   generalize hR:rs l (k+1)=R at e1
   repeat' (first|(simp (disch:=first|omega|assumption|exact bd (by with_unfolding_all rfl)|exact Or.inl rfl|exact Or.inl trivial|exact okL_map _ (fun _=>rfl) _|(simp only[VVlen]<;>omega)|fail) only[VV0,VV1,VV2,VV3,VV4,VV5,VV6,VV7,VV8,VV9,mkFnV,vargs,slotsL,opdsA,Nat.reduceEqDiff,Nat.reduceLT,Nat.reduceAdd,Nat.reduceBEq,Int.reduceAdd,Int.reduceSub,Int.reduceLT,Int.reduceLE,Int.reduceEq,Int.reduceNeg,↓reduceIte,reduceCtorEq,scL,scD,expand,List.replicate,c21l0,iD_dv,hg,hset,hf])|apply gC_drawW|((first|apply gI_dec|apply gG_dec|apply gPG_dec|apply gI_var|apply gG_var|apply gPG_var)<;>intro _))
   all_goals try (exfalso;omega)
   refine ⟨_,_,_,by omega,.refl _ _,k+1,rfl,hlt,?_,?_⟩
   ·rw[hR,e1];rfl
   ·rw[hR,e1,hs1]
  ·have e1:rs l (k+1)=rs l k:=by rw[rs,if_neg hf]
   have e2:rv l k=(rs l k).1 l[k]!.toNat - 1:=if_neg hf
   rw[e2] at hs1
   have:=r3 l[k]!.toNat
   repeat' (first|(simp (disch:=first|omega|assumption|exact bd (by with_unfolding_all rfl)|exact Or.inl rfl|exact Or.inl trivial|exact okL_map _ (fun _=>rfl) _|(simp only[VVlen]<;>omega)|fail) only[VV0,VV1,VV2,VV3,VV4,VV5,VV6,VV7,VV8,VV9,mkFnV,vargs,slotsL,opdsA,Nat.reduceEqDiff,Nat.reduceLT,Nat.reduceAdd,Nat.reduceBEq,Int.reduceAdd,Int.reduceSub,Int.reduceLT,Int.reduceLE,Int.reduceEq,Int.reduceNeg,↓reduceIte,reduceCtorEq,scL,scD,expand,List.replicate,c21l0,iD_dv,hg,hset,hf])|apply gC_drawW|((first|apply gI_dec|apply gG_dec|apply gPG_dec|apply gI_var|apply gG_var|apply gPG_var)<;>intro _))
   all_goals try (exfalso;omega)
   refine ⟨_,_,_,by omega,.refl _ _,k+1,rfl,hlt,?_,?_⟩
   ·rw[e1];rfl
   ·rw[e1,hs1]
 ·have:k=l.length:=by omega
  subst this
  repeat' (first|(simp (disch:=first|omega|assumption|exact bd (by with_unfolding_all rfl)|exact Or.inl rfl|exact Or.inl trivial|exact okL_map _ (fun _=>rfl) _|(simp only[VVlen]<;>omega)|fail) only[VV0,VV1,VV2,VV3,VV4,VV5,VV6,VV7,VV8,VV9,mkFnV,vargs,slotsL,opdsA,Nat.reduceEqDiff,Nat.reduceLT,Nat.reduceAdd,Nat.reduceBEq,Int.reduceAdd,Int.reduceSub,Int.reduceLT,Int.reduceLE,Int.reduceEq,Int.reduceNeg,↓reduceIte,reduceCtorEq,scL,scD,expand,List.replicate,c21l0])|apply gC_drawW|((first|apply gI_dec|apply gG_dec|apply gPG_dec|apply gI_var|apply gG_var|apply gPG_var)<;>intro _))
  have hs:=snap_ref (H:= [(2,.row 3 1 false false ((stTo (rv l) l.length l.length).map iD)),(1,.box 66 1 (arrI 400 (rs l l.length).1)),(0,.row 22 1 false false [.sl s l.length (l.map iD)])]) (o:=2) (c:=l.length) (t:=3) (g:=false) (z:=false) (l:=stTo (rv l) l.length l.length) rfl
  rw[hsl] at hs
  refine weak_fin (C:=C) (s:=0) (n:=_) (l:=_) ?_ rfl (.inl (by omega)) hn rfl
  rw[hsl]
  exact hs
end
end Go.Proofs.YtkjkiodoighgnaaGreatDoor
namespace Go.Proofs.YtkjkiodoighgnaaGreatDoor
open Go Go.Itp
set_option maxRecDepth 100000
set_option maxHeartbeats 2000000
set_option linter.unusedSimpArgs false
set_option linter.unusedVariables false
def arrB (N:Nat) (f:Nat→Bool):List V:=(List.range N).map fun x=> .sc (.bool (f x))
theorem arrB_len (N:Nat) (f:Nat→Bool):(arrB N f).length=N:=by simp[arrB]
theorem arrB_get (N:Nat) (f:Nat→Bool) (k:Nat) (hk:k<N):lget (arrB N f) k=some (.sc (.bool (f k))):=by
 rw[lget_eq]
 simp[arrB,hk]
theorem arrB_set (N:Nat) (f:Nat→Bool) (k:Nat) (z:Bool):(arrB N f).set k (.sc (.bool z))=arrB N fun x=>if x=k then z else f x:=by
 refine List.ext_getElem (by simp[arrB]) fun i h1 h2=>?_
 rw[List.getElem_set]
 simp only[arrB,List.getElem_map,List.getElem_range]
 by_cases h:k=i
 ·rw[if_pos h,if_pos h.symm]
 ·rw[if_neg h,if_neg (fun e=>h e.symm)]
theorem arrB_zero:scL (expand [(400,.bool false)])=arrB 400 fun _=>false:=rep_arr _ _
theorem expandB_ok:((expand [(400,Value.bool false)]).all scOK)=true:=by
 rw[List.all_eq_true]
 intro x hx
 simp only[expand,List.append_nil] at hx
 rw[List.eq_of_mem_replicate hx];rfl
def ofF (M:Nat) (o:Nat→Int):List Int:=(List.range M).map o
theorem ofF_len (M:Nat) (o:Nat→Int):(ofF M o).length=M:=by simp[ofF]
theorem ofF_get (M:Nat) (o:Nat→Int) (k:Nat) (h:k<M):(ofF M o)[k]! =o k:=by
 rw[getElem!_pos _ _ (by rw[ofF_len];exact h)]
 simp[ofF]
theorem ofF_set (M:Nat) (o:Nat→Int) (k:Nat) (z:Int):((ofF M o).map iD).set k (.sc (.int .i64 z))=(ofF M fun x=>if x=k then z else o x).map iD:=by
 refine List.ext_getElem (by simp[ofF]) fun i h1 h2=>?_
 rw[List.getElem_set]
 simp only[ofF,List.getElem_map,List.getElem_range,iD]
 by_cases h:k=i
 ·rw[if_pos h,if_pos h.symm]
 ·rw[if_neg h,if_neg (fun e=>h e.symm)]
theorem ofF_zero (M:Nat):List.replicate M (D.sc (.int .i64 0))=(ofF M fun x=>if x<0 then -1 else 0).map iD:=by
 refine List.ext_getElem (by simp[ofF]) fun i h1 h2=>?_
 simp[ofF,iD]
def mx (l:List Int):Nat→Int
 |0=> -1
 |k+1=>max (mx l k) l[k]!
theorem mx_le (l:List Int):∀ (k j:Nat),j<k→l[j]! ≤mx l k
 |0,j,h=>absurd h (Nat.not_lt_zero _)
 |k+1,j,h=>by
  rw[mx]
  rcases Nat.lt_succ_iff_lt_or_eq.1 h with h|h
  ·have:=mx_le l k j h;omega
  ·subst h;omega
theorem mx_lt (l:List Int) (B:Int) (hB:0≤B):∀ (k:Nat),(∀ j,j<k→l[j]! <B)→mx l k<B
 |0,_=>by rw[mx];omega
 |k+1,h=>by
  have:=mx_lt l B hB k fun j hj=>h j (by omega)
  have:=h k (by omega)
  rw[mx];omega
def ms (a b:List Int):Nat→Option ((Nat→Int) × (Nat→Bool))
 |0=>some (fun _=> -1,fun _=>false)
 |k+1=>(ms a b k).bind fun p=>if p.1 a[k]!.toNat=b[k]! then some p else if 0≤p.1 a[k]!.toNat∨p.2 b[k]!.toNat=true then none
   else some (fun x=>if x=a[k]!.toNat then b[k]! else p.1 x,fun x=>if x=b[k]!.toNat then true else p.2 x)
theorem ms_none (a b:List Int) {k:Nat} (h:ms a b k=none):∀ j,ms a b (k+j)=none
 |0=>h
 |j+1=>by
  show (ms a b (k+j)).bind _=none
  rw[ms_none a b h j];rfl
def matchF (a b:List Int):List Int × Int:=
 if chkL [(0,a),(0,b)] ≠ 0 then ([],chkL [(0,a),(0,b)]) else if a.length ≠ b.length then ([],2) else if a= [] then ([],0) else
  match ms a b a.length with
  |none=>([],6)
  |some p=>(ofF (mx a a.length+1).toNat p.1,0)
section
variable (w:World) (n:Nat)
theorem max_p (s:Nat) (l:List Int) (hl:l.length≤140737488351232) (h0:l ≠ []) (hn:0≤l[0]!):VSpec (EN w (n+1)) 31 [.sl s l.length (l.map iD)] (.sc (.int .i64 (mx l l.length))) ⟨[],0,0⟩:=by
 refine vspec_flat rfl rfl (fun _ _=>rfl) (Nat.le_of_ble_eq_true rfl) (oldVals w) rfl fun C hC hn0=>?_
 have hlp:0<l.length:=List.length_pos_iff.2 h0
 have e1:mx l 1=l[0]! :=by rw[mx,mx];omega
 repeat' (first|(simp (disch:=first|omega|assumption|exact bd (by with_unfolding_all rfl)|exact Or.inl rfl|exact Or.inl trivial|exact okL_map _ (fun _=>rfl) _|(simp only[VVlen]<;>omega)|fail) only[VV0,VV1,VV2,VV3,VV4,VV5,VV6,VV7,VV8,VV9,mkFnV,vargs,slotsL,opdsA,Nat.reduceEqDiff,Nat.reduceLT,Nat.reduceAdd,Nat.reduceBEq,Int.reduceAdd,Int.reduceSub,Int.reduceLT,Int.reduceLE,Int.reduceEq,Int.reduceNeg,↓reduceIte,reduceCtorEq,scL,scD,expand,List.replicate,c31,iD_dv])|apply gC_drawW|((first|apply gI_dec|apply gG_dec|apply gPG_dec|apply gI_var|apply gG_var|apply gPG_var)<;>intro _))
 all_goals try (exfalso;omega)
 refine g_while (fun m fr st=>∃ k:Nat,m=l.length+1 - k∧1≤k∧k≤l.length∧fr= [(0,.sl s l.length (l.map iD)),(3,.sc (.int .i64 (mx l k))),(4,.sc (.int .i64 k))]∧st=⟨[],0,0⟩) l.length ?_ ⟨_,_,.refl _ _,1,by omega,by omega,hlp,by rw[e1];rfl,rfl⟩ ?_
 ·rw[hC,callP_rounds];unfold many;omega
 rintro m fr st ⟨k,rfl,hk1,hk,rfl,rfl⟩
 by_cases hlt:k<l.length
 ·have e2:mx l (k+1)=max (mx l k) l[k]! :=rfl
  repeat' (first|(simp (disch:=first|omega|assumption|exact bd (by with_unfolding_all rfl)|exact Or.inl rfl|exact Or.inl trivial|exact okL_map _ (fun _=>rfl) _|(simp only[VVlen]<;>omega)|fail) only[VV0,VV1,VV2,VV3,VV4,VV5,VV6,VV7,VV8,VV9,mkFnV,vargs,slotsL,opdsA,Nat.reduceEqDiff,Nat.reduceLT,Nat.reduceAdd,Nat.reduceBEq,Int.reduceAdd,Int.reduceSub,Int.reduceLT,Int.reduceLE,Int.reduceEq,Int.reduceNeg,↓reduceIte,reduceCtorEq,scL,scD,expand,List.replicate,c31l0,iD_dv])|apply gC_drawW|((first|apply gI_dec|apply gG_dec|apply gPG_dec|apply gI_var|apply gG_var|apply gPG_var)<;>intro _))
  all_goals try (exfalso;omega)
  exact ⟨_,_,_,by omega,.refl _ _,k+1,rfl,by omega,hlt,by rw[e2];rfl,rfl⟩
 ·have:k=l.length:=by omega
  subst this
  repeat' (first|(simp (disch:=first|omega|assumption|exact bd (by with_unfolding_all rfl)|exact Or.inl rfl|exact Or.inl trivial|exact okL_map _ (fun _=>rfl) _|(simp only[VVlen]<;>omega)|fail) only[VV0,VV1,VV2,VV3,VV4,VV5,VV6,VV7,VV8,VV9,mkFnV,vargs,slotsL,opdsA,Nat.reduceEqDiff,Nat.reduceLT,Nat.reduceAdd,Nat.reduceBEq,Int.reduceAdd,Int.reduceSub,Int.reduceLT,Int.reduceLE,Int.reduceEq,Int.reduceNeg,↓reduceIte,reduceCtorEq,scL,scD,expand,List.replicate,c31l0,iD_dv])|apply gC_drawW|((first|apply gI_dec|apply gG_dec|apply gPG_dec|apply gI_var|apply gG_var|apply gPG_var)<;>intro _))
  all_goals try (exfalso;omega)
  exact weak_flat rfl hn0 rfl
theorem match_p (s s':Nat) (hs:s ≠ 1) (hs':s' ≠ 1) (a b:List Int) (ha:a.length≤140737488351232) (hb:b.length≤140737488351232):VSpec (EN w (n+2)) 14 [.sl s a.length (a.map iD),.sl s' b.length (b.map iD)] (finV (matchF a b)) ⟨[],0,0⟩:=by
 refine vspec_g rfl rfl (fun _ _=>rfl) (Nat.le_of_ble_eq_true rfl) (oldVals w) retOK_fin rfl fun C hC hn=>?_
 have o1:okD (.sl s a.length (a.map iD))=true:=okD_ne hs
 have o2:okD (.sl s' b.length (b.map iD))=true:=okD_ne hs'
 have hck:=check_p w n [(s,a),(s',b)] (by simp) (fun k hk=>by
  rcases k with _|_|k
  ·exact ha
  ·exact hb
  ·simp at hk;omega)
 have ec:chkL [(s,a),(s',b)]=chkL [(0,a),(0,b)]:=rfl
 rw[ec] at hck
 by_cases c1:chkL [(0,a),(0,b)] ≠ 0
 ·have e:matchF a b=([],chkL [(0,a),(0,b)]):=if_pos c1
  rw[e]
  generalize chkL [(0,a),(0,b)]=x at c1 hck
  repeat' (first|(simp (disch:=first|omega|assumption|exact bd (by with_unfolding_all rfl)|exact Or.inl rfl|exact Or.inl trivial|exact okL_map _ (fun _=>rfl) _|(simp only[VVlen]<;>omega)|fail) only[VV0,VV1,VV2,VV3,VV4,VV5,VV6,VV7,VV8,VV9,mkFnV,vargs,slotsL,opdsA,Nat.reduceEqDiff,Nat.reduceLT,Nat.reduceAdd,Nat.reduceBEq,Int.reduceAdd,Int.reduceSub,Int.reduceLT,Int.reduceLE,Int.reduceEq,Int.reduceNeg,↓reduceIte,reduceCtorEq,scL,scD,expand,List.replicate,c14,row2V_sl])|apply gC_drawW|((first|apply gI_dec|apply gG_dec|apply gPG_dec|apply gI_var|apply gG_var|apply gPG_var)<;>intro _))
  refine callV_flat (by rw[hC];exact hck.flat rfl rfl) ?_
  repeat' (first|(simp (disch:=first|omega|assumption|exact bd (by with_unfolding_all rfl)|exact Or.inl rfl|exact Or.inl trivial|exact okL_map _ (fun _=>rfl) _|(simp only[VVlen]<;>omega)|fail) only[VV0,VV1,VV2,VV3,VV4,VV5,VV6,VV7,VV8,VV9,mkFnV,vargs,slotsL,opdsA,Nat.reduceEqDiff,Nat.reduceLT,Nat.reduceAdd,Nat.reduceBEq,Int.reduceAdd,Int.reduceSub,Int.reduceLT,Int.reduceLE,Int.reduceEq,Int.reduceNeg,↓reduceIte,reduceCtorEq,scL,scD,expand,List.replicate])|apply gC_drawW|((first|apply gI_dec|apply gG_dec|apply gPG_dec|apply gI_var|apply gG_var|apply gPG_var)<;>intro _))
  all_goals first|exact weak_finNil hn rfl|contradiction
 have c1':chkL [(0,a),(0,b)]=0:=Classical.not_not.1 c1
 obtain ⟨k1,k2⟩:chk a=0∧chk b=0:=by
  simp only[chkL] at c1'
  split at c1'
  ·rename_i h
   split at c1'
   ·rename_i h2;exact ⟨h,h2⟩
   ·exact ⟨h,c1'⟩
  ·rename_i h;exact absurd c1' h
 rw[c1'] at hck
 obtain ⟨a1,a2⟩:=chk_facts k1
 obtain ⟨b1,b2⟩:=chk_facts k2
 by_cases c2:a.length=b.length
 case neg=>
  have e:matchF a b=([],2):=by unfold matchF;rw[if_neg c1,if_pos c2]
  rw[e]
  repeat' (first|(simp (disch:=first|omega|assumption|exact bd (by with_unfolding_all rfl)|exact Or.inl rfl|exact Or.inl trivial|exact okL_map _ (fun _=>rfl) _|(simp only[VVlen]<;>omega)|fail) only[VV0,VV1,VV2,VV3,VV4,VV5,VV6,VV7,VV8,VV9,mkFnV,vargs,slotsL,opdsA,Nat.reduceEqDiff,Nat.reduceLT,Nat.reduceAdd,Nat.reduceBEq,Int.reduceAdd,Int.reduceSub,Int.reduceLT,Int.reduceLE,Int.reduceEq,Int.reduceNeg,↓reduceIte,reduceCtorEq,scL,scD,expand,List.replicate,c14,row2V_sl])|apply gC_drawW|((first|apply gI_dec|apply gG_dec|apply gPG_dec|apply gI_var|apply gG_var|apply gPG_var)<;>intro _))
  refine callV_flat (by rw[hC];exact hck.flat rfl rfl) ?_
  repeat' (first|(simp (disch:=first|omega|assumption|exact bd (by with_unfolding_all rfl)|exact Or.inl rfl|exact Or.inl trivial|exact okL_map _ (fun _=>rfl) _|(simp only[VVlen]<;>omega)|fail) only[VV0,VV1,VV2,VV3,VV4,VV5,VV6,VV7,VV8,VV9,mkFnV,vargs,slotsL,opdsA,Nat.reduceEqDiff,Nat.reduceLT,Nat.reduceAdd,Nat.reduceBEq,Int.reduceAdd,Int.reduceSub,Int.reduceLT,Int.reduceLE,Int.reduceEq,Int.reduceNeg,↓reduceIte,reduceCtorEq,scL,scD,expand,List.replicate])|apply gC_drawW|((first|apply gI_dec|apply gG_dec|apply gPG_dec|apply gI_var|apply gG_var|apply gPG_var)<;>intro _))
  all_goals first|(exfalso;omega)|exact weak_finNil hn rfl
 by_cases c3:a= []
 ·have e:matchF a b=([],0):=by unfold matchF;rw[if_neg c1,if_neg (fun h=>h c2),if_pos c3]
  have c3':a.length=0:=by rw[c3];rfl
  rw[e]
  repeat' (first|(simp (disch:=first|omega|assumption|exact bd (by with_unfolding_all rfl)|exact Or.inl rfl|exact Or.inl trivial|exact okL_map _ (fun _=>rfl) _|(simp only[VVlen]<;>omega)|fail) only[VV0,VV1,VV2,VV3,VV4,VV5,VV6,VV7,VV8,VV9,mkFnV,vargs,slotsL,opdsA,Nat.reduceEqDiff,Nat.reduceLT,Nat.reduceAdd,Nat.reduceBEq,Int.reduceAdd,Int.reduceSub,Int.reduceLT,Int.reduceLE,Int.reduceEq,Int.reduceNeg,↓reduceIte,reduceCtorEq,scL,scD,expand,List.replicate,c14,row2V_sl])|apply gC_drawW|((first|apply gI_dec|apply gG_dec|apply gPG_dec|apply gI_var|apply gG_var|apply gPG_var)<;>intro _))
  refine callV_flat (by rw[hC];exact hck.flat rfl rfl) ?_
  repeat' (first|(simp (disch:=first|omega|assumption|exact bd (by with_unfolding_all rfl)|exact Or.inl rfl|exact Or.inl trivial|exact okL_map _ (fun _=>rfl) _|(simp only[VVlen]<;>omega)|fail) only[VV0,VV1,VV2,VV3,VV4,VV5,VV6,VV7,VV8,VV9,mkFnV,vargs,slotsL,opdsA,Nat.reduceEqDiff,Nat.reduceLT,Nat.reduceAdd,Nat.reduceBEq,Int.reduceAdd,Int.reduceSub,Int.reduceLT,Int.reduceLE,Int.reduceEq,Int.reduceNeg,↓reduceIte,reduceCtorEq,scL,scD,expand,List.replicate])|apply gC_drawW|((first|apply gI_dec|apply gG_dec|apply gPG_dec|apply gI_var|apply gG_var|apply gPG_var)<;>intro _))
  all_goals first|(exfalso;omega)|exact weak_finNil hn rfl
 have hap:0<a.length:=List.length_pos_iff.2 c3
 have hmx:=max_p w n s a ha c3 (a2 0 hap).1
 have hm0:0≤mx a a.length:=Int.le_trans (a2 0 hap).1 (mx_le a _ 0 hap)
 have hm1:=mx_lt a 400 (by omega) a.length fun j hj=>(a2 j hj).2
 have hme:=mx_le a a.length
 have e:matchF a b=match ms a b a.length with
  |none=>([],6)
  |some p=>(ofF (mx a a.length+1).toNat p.1,0):=by unfold matchF;rw[if_neg c1,if_neg (fun h=>h c2),if_neg c3]
 rw[e]
 generalize hM:(mx a a.length+1).toNat=M at*
 have hMi:mx a a.length+1=(M:Int):=by omega
 have hz:=ofF_zero M
 repeat' (first|(simp (disch:=first|omega|assumption|exact bd (by with_unfolding_all rfl)|exact Or.inl rfl|exact Or.inl trivial|exact okL_map _ (fun _=>rfl) _|(simp only[VVlen]<;>omega)|fail) only[VV0,VV1,VV2,VV3,VV4,VV5,VV6,VV7,VV8,VV9,mkFnV,vargs,slotsL,opdsA,Nat.reduceEqDiff,Nat.reduceLT,Nat.reduceAdd,Nat.reduceBEq,Int.reduceAdd,Int.reduceSub,Int.reduceLT,Int.reduceLE,Int.reduceEq,Int.reduceNeg,↓reduceIte,reduceCtorEq,scL,scD,expand,List.replicate,c14,row2V_sl])|apply gC_drawW|((first|apply gI_dec|apply gG_dec|apply gPG_dec|apply gI_var|apply gG_var|apply gPG_var)<;>intro _))
 refine callV_flat (by rw[hC];exact hck.flat rfl rfl) ?_
 repeat' (first|(simp (disch:=first|omega|assumption|exact bd (by with_unfolding_all rfl)|exact Or.inl rfl|exact Or.inl trivial|exact okL_map _ (fun _=>rfl) _|(simp only[VVlen]<;>omega)|fail) only[VV0,VV1,VV2,VV3,VV4,VV5,VV6,VV7,VV8,VV9,mkFnV,vargs,slotsL,opdsA,Nat.reduceEqDiff,Nat.reduceLT,Nat.reduceAdd,Nat.reduceBEq,Int.reduceAdd,Int.reduceSub,Int.reduceLT,Int.reduceLE,Int.reduceEq,Int.reduceNeg,↓reduceIte,reduceCtorEq,scL,scD,expand,List.replicate])|apply gC_drawW|((first|apply gI_dec|apply gG_dec|apply gPG_dec|apply gI_var|apply gG_var|apply gPG_var)<;>intro _))
 all_goals try (exfalso;omega)
 refine callV_flat (by rw[hC];exact hmx.flat rfl rfl) ?_
 repeat' (first|(simp (disch:=first|omega|assumption|exact bd (by with_unfolding_all rfl)|exact Or.inl rfl|exact Or.inl trivial|exact okL_map _ (fun _=>rfl) _|(simp only[VVlen]<;>omega)|fail) only[VV0,VV1,VV2,VV3,VV4,VV5,VV6,VV7,VV8,VV9,mkFnV,vargs,slotsL,opdsA,Nat.reduceEqDiff,Nat.reduceLT,Nat.reduceAdd,Nat.reduceBEq,Int.reduceAdd,Int.reduceSub,Int.reduceLT,Int.reduceLE,Int.reduceEq,Int.reduceNeg,↓reduceIte,reduceCtorEq,scL,scD,expand,List.replicate,hMi])|apply gC_drawW|((first|apply gI_dec|apply gG_dec|apply gPG_dec|apply gI_var|apply gG_var|apply gPG_var)<;>intro _))
 all_goals try (exfalso;omega)
 refine g_while (fun m fr st=>∃ k:Nat,m=M - k∧k≤M∧fr= [(0,.sl s a.length (a.map iD)),(1,.sl s' b.length (b.map iD)),(7,.ref 1 0 M M),(32,.sc (.int .i64 M)),(33,.sc (.int .i64 k))]∧
   st=⟨[(1,.row 3 1 false false ((ofF M fun x=>if x<k then -1 else 0).map iD)),(0,.row 22 1 false false [.sl s a.length (a.map iD),.sl s' b.length (b.map iD)])],2,0⟩) M ?_ ⟨_,_,.refl _ _,0,by omega,by omega,rfl,by rw[hz]⟩ ?_
 ·rw[hC,callP_rounds];unfold many;omega
 rintro m fr st ⟨k,rfl,hk,rfl,rfl⟩
 by_cases hlt:k<M
 ·have hlk:((ofF M fun x=>if x<k then (-1:Int) else 0).map iD).length=M:=by rw[List.length_map,ofF_len]
  have hs1:((ofF M fun x=>if x<k then (-1:Int) else 0).map iD).set k (.sc (.int .i64 (-1)))=(ofF M fun x=>if x<k+1 then (-1:Int) else 0).map iD:=by
   rw[ofF_set]
   congr 1
   unfold ofF
   refine List.map_congr_left fun x hx=>?_
   split
   ·rw[if_pos (by omega)]
   ·split
    ·rw[if_pos (by omega)]
    ·rw[if_neg (by omega)]
  repeat' (first|(simp (disch:=first|omega|assumption|exact bd (by with_unfolding_all rfl)|exact Or.inl rfl|exact Or.inl trivial|exact okL_map _ (fun _=>rfl) _|(simp only[VVlen]<;>omega)|fail) only[VV0,VV1,VV2,VV3,VV4,VV5,VV6,VV7,VV8,VV9,mkFnV,vargs,slotsL,opdsA,Nat.reduceEqDiff,Nat.reduceLT,Nat.reduceAdd,Nat.reduceBEq,Int.reduceAdd,Int.reduceSub,Int.reduceLT,Int.reduceLE,Int.reduceEq,Int.reduceNeg,↓reduceIte,reduceCtorEq,scL,scD,expand,List.replicate,c14l1,hs1])|apply gC_drawW|((first|apply gI_dec|apply gG_dec|apply gPG_dec|apply gI_var|apply gG_var|apply gPG_var)<;>intro _))
  all_goals try (exfalso;omega)
  exact ⟨_,_,_,by omega,.refl _ _,k+1,rfl,hlt,rfl,rfl⟩
 have:k=M:=by omega
 subst this
 have hm1:(ofF k fun x=>if x<k then (-1:Int) else 0)=ofF k fun _=> -1:=by
  unfold ofF
  refine List.map_congr_left fun x hx=>?_
  rw[if_pos (by simpa using hx)]
 rw[hm1]
 repeat' (first|(simp (disch:=first|omega|assumption|exact bd (by with_unfolding_all rfl)|exact Or.inl rfl|exact Or.inl trivial|exact okL_map _ (fun _=>rfl) _|(simp only[VVlen]<;>omega)|fail) only[VV0,VV1,VV2,VV3,VV4,VV5,VV6,VV7,VV8,VV9,mkFnV,vargs,slotsL,opdsA,Nat.reduceEqDiff,Nat.reduceLT,Nat.reduceAdd,Nat.reduceBEq,Int.reduceAdd,Int.reduceSub,Int.reduceLT,Int.reduceLE,Int.reduceEq,Int.reduceNeg,↓reduceIte,reduceCtorEq,scL,scD,expand,List.replicate,c14l1,↓arrB_zero,expandB_ok])|apply gC_drawW|((first|apply gI_dec|apply gG_dec|apply gPG_dec|apply gI_var|apply gG_var|apply gPG_var)<;>intro _))
 all_goals try (exfalso;omega)
 refine g_while (fun m fr st=>∃ (j:Nat) (o:Nat→Int) (t:Nat→Bool),m=a.length - j∧j≤a.length∧ms a b j=some (o,t)∧
   fr= [(1,.sl s' b.length (b.map iD)),(7,.ref 1 0 k k),(9,.ptr 2 0),(40,.sl s a.length (a.map iD)),(41,.sc (.int .i64 a.length)),(42,.sc (.int .i64 j))]∧
   st=⟨[(2,.box 52 1 (arrB 400 t)),(1,.row 3 1 false false ((ofF k o).map iD)),(0,.row 22 1 false false [.sl s a.length (a.map iD),.sl s' b.length (b.map iD)])],3,0⟩) a.length ?_ ⟨_,_,.refl _ _,0,_,_,rfl,Nat.zero_le _,rfl,rfl,rfl⟩ ?_
 ·rw[hC,callP_rounds];unfold many;omega
 rintro m fr st ⟨j,o,t,rfl,hj,hmsj,rfl,rfl⟩
 by_cases hjl:j<a.length
 ·have hstep:ms a b (j+1)=if o a[j]!.toNat=b[j]! then some (o,t) else if 0≤o a[j]!.toNat∨t b[j]!.toNat=true then none
    else some (fun x=>if x=a[j]!.toNat then b[j]! else o x,fun x=>if x=b[j]!.toNat then true else t x):=by
   rw[ms,hmsj];rfl
  have x0:=a2 j hjl
  have y0:=b2 j (by omega)
  have x1:=hme j hjl
  have hX:a[j]!.toNat<k:=by omega
  have hY:b[j]!.toNat<400:=by omega
  have hlo:(ofF k o).length=k:=ofF_len k o
  have hlo2:((ofF k o).map iD).length=k:=by rw[List.length_map,hlo]
  have hgo:=ofF_get k o a[j]!.toNat hX
  have hgt:=arrB_get 400 t b[j]!.toNat hY
  have hlt2:(arrB 400 t).length=400:=arrB_len 400 t
  have hso:=ofF_set k o a[j]!.toNat b[j]!
  have hst:=arrB_set 400 t b[j]!.toNat true
  have hjb:j<b.length:=by omega
  generalize hx:a[j]! =x at*
  generalize hy:b[j]! =y at*
  by_cases q1:o x.toNat=y
  ·rw[if_pos q1] at hstep
   repeat' (first|(simp (disch:=first|omega|assumption|exact bd (by with_unfolding_all rfl)|exact Or.inl rfl|exact Or.inl trivial|exact okL_map _ (fun _=>rfl) _|(simp only[VVlen]<;>omega)|fail) only[VV0,VV1,VV2,VV3,VV4,VV5,VV6,VV7,VV8,VV9,mkFnV,vargs,slotsL,opdsA,Nat.reduceEqDiff,Nat.reduceLT,Nat.reduceAdd,Nat.reduceBEq,Int.reduceAdd,Int.reduceSub,Int.reduceLT,Int.reduceLE,Int.reduceEq,Int.reduceNeg,↓reduceIte,reduceCtorEq,scL,scD,expand,List.replicate,c14l0,iD_dv,hx,hy,hgo,q1])|apply gC_drawW|((first|apply gI_dec|apply gG_dec|apply gPG_dec|apply gI_var|apply gG_var|apply gPG_var)<;>intro _))
   all_goals try (exfalso;omega)
   exact ⟨_,_,_,by omega,.refl _ _,j+1,o,t,rfl,hjl,hstep,rfl,rfl⟩
  rw[if_neg q1] at hstep
  have hnone:(0≤o x.toNat∨t y.toNat=true)→ms a b a.length=none:=fun h=>by
   rw[if_pos h] at hstep
   have:=ms_none a b hstep (a.length - (j+1))
   rwa [show j+1+(a.length - (j+1))=a.length by omega] at this
  by_cases q2:0≤o x.toNat
  ·rw[hnone (.inl q2)]
   repeat' (first|(simp (disch:=first|omega|assumption|exact bd (by with_unfolding_all rfl)|exact Or.inl rfl|exact Or.inl trivial|exact okL_map _ (fun _=>rfl) _|(simp only[VVlen]<;>omega)|fail) only[VV0,VV1,VV2,VV3,VV4,VV5,VV6,VV7,VV8,VV9,mkFnV,vargs,slotsL,opdsA,Nat.reduceEqDiff,Nat.reduceLT,Nat.reduceAdd,Nat.reduceBEq,Int.reduceAdd,Int.reduceSub,Int.reduceLT,Int.reduceLE,Int.reduceEq,Int.reduceNeg,↓reduceIte,reduceCtorEq,scL,scD,expand,List.replicate,c14l0,iD_dv,hx,hy,hgo,q1])|apply gC_drawW|((first|apply gI_dec|apply gG_dec|apply gPG_dec|apply gI_var|apply gG_var|apply gPG_var)<;>intro _))
   all_goals try (exfalso;omega)
   exact weak_finNil hn rfl
  by_cases q3:t y.toNat=true
  ·rw[hnone (.inr q3)]
   repeat' (first|(simp (disch:=first|omega|assumption|exact bd (by with_unfolding_all rfl)|exact Or.inl rfl|exact Or.inl trivial|exact okL_map _ (fun _=>rfl) _|(simp only[VVlen]<;>omega)|fail) only[VV0,VV1,VV2,VV3,VV4,VV5,VV6,VV7,VV8,VV9,mkFnV,vargs,slotsL,opdsA,Nat.reduceEqDiff,Nat.reduceLT,Nat.reduceAdd,Nat.reduceBEq,Int.reduceAdd,Int.reduceSub,Int.reduceLT,Int.reduceLE,Int.reduceEq,Int.reduceNeg,↓reduceIte,reduceCtorEq,scL,scD,expand,List.replicate,c14l0,iD_dv,hx,hy,hgo,hgt,q1,q3])|apply gC_drawW|((first|apply gI_dec|apply gG_dec|apply gPG_dec|apply gI_var|apply gG_var|apply gPG_var)<;>intro _))
   all_goals try (exfalso;omega)
   exact weak_finNil hn rfl
  ·rw[if_neg (fun h=>h.elim q2 q3)] at hstep
   have q3':t y.toNat=false:=by simpa using q3
   repeat' (first|(simp (disch:=first|omega|assumption|exact bd (by with_unfolding_all rfl)|exact Or.inl rfl|exact Or.inl trivial|exact okL_map _ (fun _=>rfl) _|(simp only[VVlen]<;>omega)|fail) only[VV0,VV1,VV2,VV3,VV4,VV5,VV6,VV7,VV8,VV9,mkFnV,vargs,slotsL,opdsA,Nat.reduceEqDiff,Nat.reduceLT,Nat.reduceAdd,Nat.reduceBEq,Int.reduceAdd,Int.reduceSub,Int.reduceLT,Int.reduceLE,Int.reduceEq,Int.reduceNeg,↓reduceIte,reduceCtorEq,scL,scD,expand,List.replicate,c14l0,iD_dv,hx,hy,hgo,hgt,q1,q3',hso,hst])|apply gC_drawW|((first|apply gI_dec|apply gG_dec|apply gPG_dec|apply gI_var|apply gG_var|apply gPG_var)<;>intro _))
   all_goals try (exfalso;omega)
   exact ⟨_,_,_,by omega,.refl _ _,j+1,_,_,rfl,hjl,hstep,rfl,rfl⟩
 ·have:j=a.length:=by omega
  subst this
  rw[hmsj]
  repeat' (first|(simp (disch:=first|omega|assumption|exact bd (by with_unfolding_all rfl)|exact Or.inl rfl|exact Or.inl trivial|exact okL_map _ (fun _=>rfl) _|(simp only[VVlen]<;>omega)|fail) only[VV0,VV1,VV2,VV3,VV4,VV5,VV6,VV7,VV8,VV9,mkFnV,vargs,slotsL,opdsA,Nat.reduceEqDiff,Nat.reduceLT,Nat.reduceAdd,Nat.reduceBEq,Int.reduceAdd,Int.reduceSub,Int.reduceLT,Int.reduceLE,Int.reduceEq,Int.reduceNeg,↓reduceIte,reduceCtorEq,scL,scD,expand,List.replicate,c14l0])|apply gC_drawW|((first|apply gI_dec|apply gG_dec|apply gPG_dec|apply gI_var|apply gG_var|apply gPG_var)<;>intro _))
  have hlo:(ofF k o).length=k:=ofF_len k o
  have hs:=snap_ref (H:= [(2,.box 52 1 (arrB 400 t)),(1,.row 3 1 false false ((ofF k o).map iD)),(0,.row 22 1 false false [.sl s a.length (a.map iD),.sl s' b.length (b.map iD)])]) (o:=1) (c:=k) (t:=3) (g:=false) (z:=false) (l:=ofF k o) rfl
  rw[hlo] at hs
  refine weak_fin (C:=C) (s:=0) (n:=_) (l:=_) ?_ rfl (.inl (by omega)) hn rfl
  rw[hlo]
  exact hs
end
end Go.Proofs.YtkjkiodoighgnaaGreatDoor
