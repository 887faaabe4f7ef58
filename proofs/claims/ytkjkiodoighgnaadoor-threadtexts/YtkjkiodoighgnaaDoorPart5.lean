/- What is proved: the law ThreadTexts returns true for every input. Conditions: none beyond the card's own.
   Texts: S02D, L02D, C02A, H02A, T02a, T02i, T02j, T02k, T02l, T02b, T02c, T02d, T02e, T02f, T02m, T02n, T02o, T02p, T02q, T02r, T02t, T02u, T02v, T02w, T02zb, T02zc, T02zd, T02ze, T02zf.
-/
import Derived.Test.YtkjkiodoighgnaaDoorPart4
import Derived.Shelf.Small.Bits
import Derived.Shelf.Strconv.Atoi
import Derived.Shelf.Strconv.Itoa0
import Derived.Shelf.Strconv.Itoa1
import Derived.Shelf.LaysM
import Derived.Shelf.Strconv.Itoa2
import Derived.Shelf.Strconv.Itoa3
import Derived.Shelf.Strconv.AtoiErrFast
import Derived.Shelf.Strconv.ParseIntEmpty
import Derived.Shelf.Strconv.AtoiFail
import Derived.Shelf.Strconv.Clone
import Derived.Shelf.Strconv.SyntaxError
import Derived.Shelf.LaysC
import Derived.Shelf.Strconv.ToError
import Derived.Shelf.Strconv.Lower
import Derived.Shelf.Strconv.ParseUint10
import Derived.Shelf.Strconv.ParseUint10Empty
import Derived.Shelf.Strconv.ParseUint10Any
import Derived.Shelf.Strconv.ParseInt10
import Derived.Shelf.Strconv.AtoiLong
import Derived.Shelf.Strconv.AtoiInnerAll
import Derived.Shelf.Strconv.RangeError
import Derived.Shelf.Strconv.ToErrorRange
import Derived.Shelf.Strconv.AtoiAll
import Derived.Shelf.Strconv.ErrVarAll
import Derived.Shelf.Strings.Search1
import Derived.Shelf.Strings.Search2
import Derived.Shelf.Strings.Search3
import Derived.Shelf.Strings.Shaped
import Derived.Shelf.Sort.Plain
import Derived.Shelf.Unicode.DecodeSlow
import Derived.Shelf.Unicode.DecodeAny
import Derived.Shelf.Slices.Reverse
import Derived.Ground.Names2Prog
import Derived.Shelf.Slices.Clone
import Derived.Shelf.Slices.CompactI
import Derived.Shelf.Slices.SearchI
import Derived.Shelf.Slices.Cells
import Derived.Shelf.Slices.In.SortNone
import Derived.Ground.SlgnProg
import Derived.Shelf.SlicesE.Clone
import Derived.Test.YtkjkiodoighgnaaDoorProg
import Derived.KernelRfl
import Derived.Lib.ItoaLen
import Derived.Lib.AtoiAllCases
import Derived.Test.YtkjkiodoighgnaaDoorCards
import Derived.Test.YtkjkiodoighgnaaDoorTie
import Derived.SizedLaws
import Derived.ChangeAt
import Derived.SevenTiedAt
import Derived.Stop.Joined
import Derived.Lay
namespace Go.Proofs
open Go.Shelf
def Tryd.laysM171_ren:Go.Shelf.Ren:=⟨fun|171=>26|243=>42|246=>51|283=>63|284=>64|285=>65|286=>66|129=>82|317=>83|318=>84|319=>85|320=>86|337=>99|338=>100|n=>n,fun|3=>3|9=>9|2=>2|4=>4|171=>94|0=>0|53=>95|37=>48|5=>5|173=>98|212=>118|51=>115|20=>20|213=>119|46=>93|232=>139|233=>140|n=>n,fun|17=>2|18=>6|19=>7|n=>n⟩
theorem Tryd.laysM171:Go.Proofs.LaysM.n171 Tryd.prog Tryd.laysM171_ren:={
 mixed:=by kernel_rfl
 f129:=Tryd.func82.trans (congrArg some (by kernel_rfl))
 f171:=Tryd.func26.trans (congrArg some (by kernel_rfl))
 f243:=Tryd.func42.trans (congrArg some (by kernel_rfl))
 f246:=Tryd.func51.trans (congrArg some (by kernel_rfl))
 f283:=Tryd.func63.trans (congrArg some (by kernel_rfl))
 f284:=Tryd.func64.trans (congrArg some (by kernel_rfl))
 f285:=Tryd.func65.trans (congrArg some (by kernel_rfl))
 f286:=Tryd.func66.trans (congrArg some (by kernel_rfl))
 f317:=Tryd.func83.trans (congrArg some (by kernel_rfl))
 f318:=Tryd.func84.trans (congrArg some (by kernel_rfl))
 f319:=Tryd.func85.trans (congrArg some (by kernel_rfl))
 f320:=Tryd.func86.trans (congrArg some (by kernel_rfl))
 f337:=Tryd.func99.trans (congrArg some (by kernel_rfl))
 f338:=Tryd.func100.trans (congrArg some (by kernel_rfl))
 t0:=Tryd.underlying0
 a0:=Tryd.isAgg0
 z0:=Tryd.sizeOf0
 v0:=Tryd.zeroValue0
 t2:=Tryd.underlying2
 a2:=Tryd.isAgg2
 z2:=Tryd.sizeOf2
 v2:=Tryd.zeroValue2
 t3:=Tryd.underlying3
 a3:=Tryd.isAgg3
 z3:=Tryd.sizeOf3
 v3:=Tryd.zeroValue3
 t4:=Tryd.underlying4
 a4:=Tryd.isAgg4
 z4:=Tryd.sizeOf4
 v4:=Tryd.zeroValue4
 t5:=Tryd.underlying5
 a5:=Tryd.isAgg5
 z5:=Tryd.sizeOf5
 v5:=Tryd.zeroValue5
 t9:=Tryd.underlying9
 a9:=Tryd.isAgg9
 z9:=Tryd.sizeOf9
 v9:=Tryd.zeroValue9
 t20:=Tryd.underlying20
 a20:=Tryd.isAgg20
 z20:=Tryd.sizeOf20
 v20:=Tryd.zeroValue20
 t37:=Tryd.underlying48
 a37:=Tryd.isAgg48
 z37:=Tryd.sizeOf48
 v37:=Tryd.zeroValue48
 t46:=Tryd.underlying93
 a46:=Tryd.isAgg93
 z46:=Tryd.sizeOf93
 v46:=Tryd.zeroValue93
 t51:=Tryd.underlying115
 a51:=Tryd.isAgg115
 z51:=Tryd.sizeOf115
 v51:=Tryd.zeroValue115
 t53:=Tryd.underlying95
 a53:=Tryd.isAgg95
 z53:=Tryd.sizeOf95
 v53:=Tryd.zeroValue95
 t171:=Tryd.underlying94
 a171:=Tryd.isAgg94
 z171:=Tryd.sizeOf94
 v171:=Tryd.zeroValue94
 t173:=Tryd.underlying98
 a173:=Tryd.isAgg98
 z173:=Tryd.sizeOf98
 v173:=Tryd.zeroValue98
 t212:=Tryd.underlying118
 a212:=Tryd.isAgg118
 z212:=Tryd.sizeOf118
 v212:=Tryd.zeroValue118
 t213:=Tryd.underlying119
 a213:=Tryd.isAgg119
 z213:=Tryd.sizeOf119
 t232:=Tryd.underlying139
 a232:=Tryd.isAgg139
 z232:=Tryd.sizeOf139
 v232:=Tryd.zeroValue139
 t233:=Tryd.underlying140
 a233:=Tryd.isAgg140
 z233:=Tryd.sizeOf140
 v233:=Tryd.zeroValue140
 g17:=by kernel_rfl
 g18:=by kernel_rfl
 g19:=by kernel_rfl
 i0:=by kernel_rfl
 i2:=by kernel_rfl
 i3:=by kernel_rfl
 i4:=by kernel_rfl
 i5:=by kernel_rfl
 i9:=by kernel_rfl
 i20:=by kernel_rfl
 i37:=by kernel_rfl
 i46:=by kernel_rfl
 i51:=by kernel_rfl
 i53:=by kernel_rfl
 i171:=by kernel_rfl
 i173:=by kernel_rfl
 i212:=by kernel_rfl
 i232:=by kernel_rfl
 i233:=by kernel_rfl
 m17:=by kernel_rfl
 m18:=by kernel_rfl
 m19:=by kernel_rfl}
open Go.RowKit Go.Sort Go.Lib in
theorem Tryd.strconv_Itoa (n:Int) (h0: -9223372036854775808≤n) (h1:n≤9223372036854775807) (w:World) (htab:Lib.TabIs Tryd.prog w "internal/strconv.uint64pow10" .u64 Lib.pow10Tab):
  Calls Tryd.prog 26 #[.int .i64 n] w fun e w'=>e= .returned (.string ⟨(Lib.itoa n).toArray⟩)∧∃ k os,w'=grow (w.drewN k) os:=Any.strconv_Itoa Tryd.laysM171 n h0 h1 w htab
def Tryd.laysC172_ren:Go.Shelf.Ren:=⟨fun|172=>29|244=>44|245=>45|247=>55|279=>56|280=>57|281=>58|282=>59|287=>69|316=>70|171=>26|205=>71|321=>91|322=>92|243=>42|246=>51|283=>63|284=>64|285=>65|286=>66|129=>82|317=>83|318=>84|319=>85|320=>86|337=>99|338=>100|n=>n,fun|9=>9|3=>3|75=>53|76=>54|4=>4|5=>5|167=>84|37=>48|0=>0|85=>85|2=>2|168=>87|53=>95|175=>100|46=>93|210=>104|127=>73|145=>128|143=>126|21=>21|171=>94|173=>98|212=>118|51=>115|20=>20|213=>119|232=>139|233=>140|80=>56|n=>n,fun|15=>0|16=>1|17=>2|18=>6|19=>7|n=>n⟩
theorem Tryd.laysC172:Go.Proofs.LaysC.n172 Tryd.prog Tryd.laysC172_ren:={
 mixed:=by kernel_rfl
 f129:=Tryd.func82.trans (congrArg some (by kernel_rfl))
 f171:=Tryd.func26.trans (congrArg some (by kernel_rfl))
 f172:=Tryd.func29.trans (congrArg some (by kernel_rfl))
 f205:=Tryd.func71.trans (congrArg some (by kernel_rfl))
 f243:=Tryd.func42.trans (congrArg some (by kernel_rfl))
 f244:=Tryd.func44.trans (congrArg some (by kernel_rfl))
 f245:=Tryd.func45.trans (congrArg some (by kernel_rfl))
 f246:=Tryd.func51.trans (congrArg some (by kernel_rfl))
 f247:=Tryd.func55.trans (congrArg some (by kernel_rfl))
 f279:=Tryd.func56.trans (congrArg some (by kernel_rfl))
 f280:=Tryd.func57.trans (congrArg some (by kernel_rfl))
 f281:=Tryd.func58.trans (congrArg some (by kernel_rfl))
 f282:=Tryd.func59.trans (congrArg some (by kernel_rfl))
 f283:=Tryd.func63.trans (congrArg some (by kernel_rfl))
 f284:=Tryd.func64.trans (congrArg some (by kernel_rfl))
 f285:=Tryd.func65.trans (congrArg some (by kernel_rfl))
 f286:=Tryd.func66.trans (congrArg some (by kernel_rfl))
 f287:=Tryd.func69.trans (congrArg some (by kernel_rfl))
 f316:=Tryd.func70.trans (congrArg some (by kernel_rfl))
 f317:=Tryd.func83.trans (congrArg some (by kernel_rfl))
 f318:=Tryd.func84.trans (congrArg some (by kernel_rfl))
 f319:=Tryd.func85.trans (congrArg some (by kernel_rfl))
 f320:=Tryd.func86.trans (congrArg some (by kernel_rfl))
 f321:=Tryd.func91.trans (congrArg some (by kernel_rfl))
 f322:=Tryd.func92.trans (congrArg some (by kernel_rfl))
 f337:=Tryd.func99.trans (congrArg some (by kernel_rfl))
 f338:=Tryd.func100.trans (congrArg some (by kernel_rfl))
 t0:=Tryd.underlying0
 a0:=Tryd.isAgg0
 z0:=Tryd.sizeOf0
 v0:=Tryd.zeroValue0
 t2:=Tryd.underlying2
 a2:=Tryd.isAgg2
 z2:=Tryd.sizeOf2
 v2:=Tryd.zeroValue2
 t3:=Tryd.underlying3
 a3:=Tryd.isAgg3
 z3:=Tryd.sizeOf3
 v3:=Tryd.zeroValue3
 t4:=Tryd.underlying4
 a4:=Tryd.isAgg4
 z4:=Tryd.sizeOf4
 v4:=Tryd.zeroValue4
 t5:=Tryd.underlying5
 a5:=Tryd.isAgg5
 z5:=Tryd.sizeOf5
 v5:=Tryd.zeroValue5
 t9:=Tryd.underlying9
 a9:=Tryd.isAgg9
 z9:=Tryd.sizeOf9
 v9:=Tryd.zeroValue9
 t20:=Tryd.underlying20
 a20:=Tryd.isAgg20
 z20:=Tryd.sizeOf20
 v20:=Tryd.zeroValue20
 t21:=Tryd.underlying21
 a21:=Tryd.isAgg21
 z21:=Tryd.sizeOf21
 v21:=Tryd.zeroValue21
 t37:=Tryd.underlying48
 a37:=Tryd.isAgg48
 z37:=Tryd.sizeOf48
 v37:=Tryd.zeroValue48
 t46:=Tryd.underlying93
 a46:=Tryd.isAgg93
 z46:=Tryd.sizeOf93
 v46:=Tryd.zeroValue93
 t51:=Tryd.underlying115
 a51:=Tryd.isAgg115
 z51:=Tryd.sizeOf115
 v51:=Tryd.zeroValue115
 t53:=Tryd.underlying95
 a53:=Tryd.isAgg95
 z53:=Tryd.sizeOf95
 v53:=Tryd.zeroValue95
 t75:=Tryd.underlying53
 a75:=Tryd.isAgg53
 z75:=Tryd.sizeOf53
 v75:=Tryd.zeroValue53
 t76:=Tryd.underlying54
 a76:=Tryd.isAgg54
 z76:=Tryd.sizeOf54
 v76:=Tryd.zeroValue54
 t85:=Tryd.underlying85
 a85:=Tryd.isAgg85
 z85:=Tryd.sizeOf85
 v85:=Tryd.zeroValue85
 t127:=Tryd.underlying73
 a127:=Tryd.isAgg73
 z127:=Tryd.sizeOf73
 v127:=Tryd.zeroValue73
 t143:=Tryd.underlying126
 a143:=Tryd.isAgg126
 z143:=Tryd.sizeOf126
 v143:=Tryd.zeroValue126
 t145:=Tryd.underlying128
 a145:=Tryd.isAgg128
 z145:=Tryd.sizeOf128
 v145:=Tryd.zeroValue128
 t167:=Tryd.underlying84
 a167:=Tryd.isAgg84
 z167:=Tryd.sizeOf84
 v167:=Tryd.zeroValue84
 t168:=Tryd.underlying87
 a168:=Tryd.isAgg87
 z168:=Tryd.sizeOf87
 v168:=Tryd.zeroValue87
 t171:=Tryd.underlying94
 a171:=Tryd.isAgg94
 z171:=Tryd.sizeOf94
 v171:=Tryd.zeroValue94
 t173:=Tryd.underlying98
 a173:=Tryd.isAgg98
 z173:=Tryd.sizeOf98
 v173:=Tryd.zeroValue98
 t175:=Tryd.underlying100
 a175:=Tryd.isAgg100
 z175:=Tryd.sizeOf100
 v175:=Tryd.zeroValue100
 t210:=Tryd.underlying104
 a210:=Tryd.isAgg104
 z210:=Tryd.sizeOf104
 v210:=Tryd.zeroValue104
 t212:=Tryd.underlying118
 a212:=Tryd.isAgg118
 z212:=Tryd.sizeOf118
 v212:=Tryd.zeroValue118
 t213:=Tryd.underlying119
 a213:=Tryd.isAgg119
 z213:=Tryd.sizeOf119
 t232:=Tryd.underlying139
 a232:=Tryd.isAgg139
 z232:=Tryd.sizeOf139
 v232:=Tryd.zeroValue139
 t233:=Tryd.underlying140
 a233:=Tryd.isAgg140
 z233:=Tryd.sizeOf140
 v233:=Tryd.zeroValue140
 g15:=by kernel_rfl
 g16:=by kernel_rfl
 g17:=by kernel_rfl
 g18:=by kernel_rfl
 g19:=by kernel_rfl
 t80:=Tryd.underlying56
 a80:=Tryd.isAgg56
 z80:=Tryd.sizeOf56
 v80:=Tryd.zeroValue56
 i0:=by kernel_rfl
 i2:=by kernel_rfl
 i3:=by kernel_rfl
 i4:=by kernel_rfl
 i5:=by kernel_rfl
 i9:=by kernel_rfl
 i20:=by kernel_rfl
 i21:=by kernel_rfl
 i37:=by kernel_rfl
 i46:=by kernel_rfl
 i51:=by kernel_rfl
 i53:=by kernel_rfl
 i75:=by kernel_rfl
 i76:=by kernel_rfl
 i80:=by kernel_rfl
 i85:=by kernel_rfl
 i127:=by kernel_rfl
 i143:=by kernel_rfl
 i145:=by kernel_rfl
 i167:=by kernel_rfl
 i168:=by kernel_rfl
 i171:=by kernel_rfl
 i173:=by kernel_rfl
 i175:=by kernel_rfl
 i210:=by kernel_rfl
 i212:=by kernel_rfl
 i232:=by kernel_rfl
 i233:=by kernel_rfl
 m15:=by kernel_rfl
 m16:=by kernel_rfl
 m17:=by kernel_rfl
 m18:=by kernel_rfl
 m19:=by kernel_rfl
 c0:=by kernel_rfl
 c2:=by kernel_rfl
 c3:=by kernel_rfl
 c4:=by kernel_rfl
 c5:=by kernel_rfl
 c9:=by kernel_rfl
 c20:=by kernel_rfl
 c21:=by kernel_rfl
 c37:=by kernel_rfl
 c46:=by kernel_rfl
 c51:=by kernel_rfl
 c53:=by kernel_rfl
 c75:=by kernel_rfl
 c76:=by kernel_rfl
 c80:=by kernel_rfl
 c85:=by kernel_rfl
 c127:=by kernel_rfl
 c143:=by kernel_rfl
 c145:=by kernel_rfl
 c167:=by kernel_rfl
 c168:=by kernel_rfl
 c171:=by kernel_rfl
 c173:=by kernel_rfl
 c175:=by kernel_rfl
 c210:=by kernel_rfl
 c212:=by kernel_rfl
 c213:=by kernel_rfl
 c232:=by kernel_rfl
 c233:=by kernel_rfl}
open Go.RowKit in
theorem Tryd.strconv_Atoi_ok (s:ByteArray) (hmax:s.size≤9223372036854775806) (v:Int) (h:Lib.atoiAll s.data.toList= .ok v) (w:World):
  Calls Tryd.prog 29 #[.string s] w fun e w'=>e= .returned (.tuple #[.int .i64 v,.nilIface])∧(w'=w∨∃ t,w'=Lib.bytesWorld w 5 t):=Any.strconv_Atoi_ok Tryd.laysC172 s hmax v h w
open Go.RowKit in
theorem Tryd.strconv_Atoi_syntax_var (s:ByteArray) (hlim:s.size≤281474976710656) (h:Lib.atoiAll s.data.toList=Lib.atoiAll []) (tp:TypeId) (p:Value) (w:World) (hvar:w.var? Tryd.prog "strconv.ErrSyntax"=some #[.iface tp p]):
  Calls Tryd.prog 29 #[.string s] w fun e w'=>∃ N,e= .returned (.tuple #[.int .i64 0,.iface 87 (.pointer (some ⟨N,0,none⟩))])∧w.heap.size≤N∧w'.heap[N]? =some (.cells #[.string ⟨#[65,116,111,105]⟩,.string s,.iface tp p] 104 (0,0))∧Below w.heap.size w w':=Any.strconv_Atoi_syntax_var Tryd.laysC172 s hlim h tp p w hvar
open Go.RowKit in
theorem Tryd.strconv_Atoi_range_var (s:ByteArray) (hlim:s.size≤281474976710656) (h:Lib.atoiAll s.data.toList= .range) (tp:TypeId) (p:Value) (w:World) (hvar:w.var? Tryd.prog "strconv.ErrRange"=some #[.iface tp p]):
  Calls Tryd.prog 29 #[.string s] w fun e w'=>∃ N,e= .returned (.tuple #[.int .i64 (Lib.atoiSat s.data.toList),.iface 87 (.pointer (some ⟨N,0,none⟩))])∧w.heap.size≤N∧w'.heap[N]? =some (.cells #[.string ⟨#[65,116,111,105]⟩,.string s,.iface tp p] 104 (0,0))∧Below w.heap.size w w':=Any.strconv_Atoi_range_var Tryd.laysC172 s hlim h tp p w hvar
def Tryd.lays189_ren:Go.Shelf.Ren:=⟨fun|189=>47|125=>62|257=>61|128=>81|129=>82|294=>72|295=>73|296=>74|297=>75|298=>76|299=>77|216=>78|300=>79|301=>80|328=>93|329=>94|330=>95|331=>96|332=>97|215=>98|343=>103|n=>n,fun|28=>22|3=>3|46=>93|0=>0|51=>115|53=>95|4=>4|183=>108|182=>107|131=>112|5=>5|9=>9|218=>129|222=>133|228=>137|229=>34|n=>n,fun|n=>n⟩
theorem Tryd.lays189:Go.Proofs.Lays.n189 Tryd.prog Tryd.lays189_ren:={
 mixed:=by kernel_rfl
 f125:=Tryd.func62.trans (congrArg some (by kernel_rfl))
 f128:=Tryd.func81.trans (congrArg some (by kernel_rfl))
 f129:=Tryd.func82.trans (congrArg some (by kernel_rfl))
 f189:=Tryd.func47.trans (congrArg some (by kernel_rfl))
 f215:=Tryd.func98.trans (congrArg some (by kernel_rfl))
 f216:=Tryd.func78.trans (congrArg some (by kernel_rfl))
 f257:=Tryd.func61.trans (congrArg some (by kernel_rfl))
 f294:=Tryd.func72.trans (congrArg some (by kernel_rfl))
 f295:=Tryd.func73.trans (congrArg some (by kernel_rfl))
 f296:=Tryd.func74.trans (congrArg some (by kernel_rfl))
 f297:=Tryd.func75.trans (congrArg some (by kernel_rfl))
 f298:=Tryd.func76.trans (congrArg some (by kernel_rfl))
 f299:=Tryd.func77.trans (congrArg some (by kernel_rfl))
 f300:=Tryd.func79.trans (congrArg some (by kernel_rfl))
 f301:=Tryd.func80.trans (congrArg some (by kernel_rfl))
 f328:=Tryd.func93.trans (congrArg some (by kernel_rfl))
 f329:=Tryd.func94.trans (congrArg some (by kernel_rfl))
 f330:=Tryd.func95.trans (congrArg some (by kernel_rfl))
 f331:=Tryd.func96.trans (congrArg some (by kernel_rfl))
 f332:=Tryd.func97.trans (congrArg some (by kernel_rfl))
 f343:=Tryd.func103.trans (congrArg some (by kernel_rfl))
 t0:=Tryd.underlying0
 a0:=Tryd.isAgg0
 z0:=Tryd.sizeOf0
 v0:=Tryd.zeroValue0
 t3:=Tryd.underlying3
 a3:=Tryd.isAgg3
 z3:=Tryd.sizeOf3
 v3:=Tryd.zeroValue3
 t4:=Tryd.underlying4
 a4:=Tryd.isAgg4
 z4:=Tryd.sizeOf4
 v4:=Tryd.zeroValue4
 t5:=Tryd.underlying5
 a5:=Tryd.isAgg5
 z5:=Tryd.sizeOf5
 v5:=Tryd.zeroValue5
 t9:=Tryd.underlying9
 a9:=Tryd.isAgg9
 z9:=Tryd.sizeOf9
 v9:=Tryd.zeroValue9
 t28:=Tryd.underlying22
 a28:=Tryd.isAgg22
 z28:=Tryd.sizeOf22
 v28:=Tryd.zeroValue22
 t46:=Tryd.underlying93
 a46:=Tryd.isAgg93
 z46:=Tryd.sizeOf93
 v46:=Tryd.zeroValue93
 t51:=Tryd.underlying115
 a51:=Tryd.isAgg115
 z51:=Tryd.sizeOf115
 v51:=Tryd.zeroValue115
 t53:=Tryd.underlying95
 a53:=Tryd.isAgg95
 z53:=Tryd.sizeOf95
 v53:=Tryd.zeroValue95
 t131:=Tryd.underlying112
 a131:=Tryd.isAgg112
 z131:=Tryd.sizeOf112
 v131:=Tryd.zeroValue112
 t182:=Tryd.underlying107
 a182:=Tryd.isAgg107
 z182:=Tryd.sizeOf107
 v182:=Tryd.zeroValue107
 t183:=Tryd.underlying108
 a183:=Tryd.isAgg108
 z183:=Tryd.sizeOf108
 v183:=Tryd.zeroValue108
 t218:=Tryd.underlying129
 a218:=Tryd.isAgg129
 z218:=Tryd.sizeOf129
 v218:=Tryd.zeroValue129
 t222:=Tryd.underlying133
 a222:=Tryd.isAgg133
 z222:=Tryd.sizeOf133
 v222:=Tryd.zeroValue133
 t228:=Tryd.underlying137
 a228:=Tryd.isAgg137
 z228:=Tryd.sizeOf137
 v228:=Tryd.zeroValue137
 t229:=Tryd.underlying34
 a229:=Tryd.isAgg34
 z229:=Tryd.sizeOf34
 v229:=Tryd.zeroValue34}
open Go.Sort Go.RowKit in
theorem Tryd.slices_Sort_int (blk off cap:Nat) (zs:List Int) (w:World) (hH:Holds (Value.int .i64) w blk off zs.toArray) (hblk:blk<w.heap.size) (hsz:zs.length<4611686018427387904):
  Calls Tryd.prog 47 #[.slice (some ⟨blk,off,none⟩) zs.length cap] w fun e w'=>
   e= .returned (.tuple #[])∧∃ n os,w'=grow (putRow (Value.int .i64) (Sort.ahead w n) blk off (zs.mergeSort fun x y=>decide (x≤y)).toArray) os:=Any.slices_Sort_int Tryd.lays189 blk off cap zs w hH hblk hsz
def Tryd.laysNm220_ren:Go.Shelf.Ren:=⟨fun|20=>34|n=>n,fun|22=>22|3=>3|4=>4|0=>0|n=>n,fun|n=>n⟩
theorem Tryd.laysNm220:Go.Proofs.Lays2.n20 Tryd.prog Tryd.laysNm220_ren:={
 mixed:=by kernel_rfl
 f20:=Tryd.func34.trans (congrArg some (by kernel_rfl))
 t0:=Tryd.underlying0
 a0:=Tryd.isAgg0
 z0:=Tryd.sizeOf0
 v0:=Tryd.zeroValue0
 t3:=Tryd.underlying3
 a3:=Tryd.isAgg3
 z3:=Tryd.sizeOf3
 v3:=Tryd.zeroValue3
 t4:=Tryd.underlying4
 a4:=Tryd.isAgg4
 z4:=Tryd.sizeOf4
 v4:=Tryd.zeroValue4
 t22:=Tryd.underlying22
 a22:=Tryd.isAgg22
 z22:=Tryd.sizeOf22
 v22:=Tryd.zeroValue22
 i3:=by kernel_rfl}
open Go.RowKit Go.Lib Go.Sort in
theorem Tryd.slices_Compact_int (blk off cap:Nat) (zs:List Int) (w:World) (hH:Holds (Value.int .i64) w blk off zs.toArray) (hsz:zs.length≤9223372036854775807) (hcap:zs.length≤cap):
  Calls Tryd.prog 34 #[.slice (some ⟨blk,off,none⟩) zs.length cap] w fun e w'=>e= .returned (.slice (some ⟨blk,off,none⟩) (Lib.compact zs).length cap)∧∃ q,w'=putRow (Value.int .i64) (Sort.ahead w q) blk off (Lib.compact zs++List.replicate (zs.length - (Lib.compact zs).length) 0).toArray:=Any.slices_Compact_int Tryd.laysNm220 blk off cap zs w hH hsz hcap
open Go.RowKit Go.Lib Go.Sort in
theorem Tryd.slices_Compact_int_empty (a:Option Addr) (cap:Nat) (w:World):
  Calls Tryd.prog 34 #[.slice a 0 cap] w fun e w'=>e= .returned (.slice a 0 cap)∧w'=w:=Any.slices_Compact_int_empty Tryd.laysNm220 a cap w
open Go.RowKit Go.Sort in
theorem Tryd.slices_Sort_int_none (p:Option Addr) (cap:Nat) (w:World):
  Calls Tryd.prog 47 #[.slice p 0 cap] w fun e w'=>e= .returned (.tuple #[])∧w'=w:=Any.slices_Sort_int_none Tryd.lays189 p cap w
end Go.Proofs
namespace Go.Proofs.YtkjkiodoighgnaaDoor
open Go Go.Itp
theorem cpt_eq (zs:List Int):Lib.compact zs=cpt zs:=by
 unfold Lib.compact Lib.compactUpTo cpt
 have e:∀ j:Nat,zs.toArray[j]! =zs[j]! :=fun j=>by simp
 have e1:(Lib.keeps zs.toArray)=fun j=>decide (j=0∨zs[j]! ≠ zs[j - 1]!):=by
  funext j
  unfold Lib.keeps
  rw[e,e]
 rw[e1]
 refine List.map_congr_left fun j _=>e j
theorem sort_fact:LibFact Tryd.prog 47 0 where
 none:=fun p cap w=>Tryd.slices_Sort_int_none p cap w
 some:=fun blk off cap zs w hH hb hl hc=>Tryd.slices_Sort_int blk off cap zs w hH hb hl
theorem compact_fact:LibFact Tryd.prog 34 1 where
 none:=fun p cap w=>(Tryd.slices_Compact_int_empty p cap w)
 some:=fun blk off cap zs w hH hb hl hc=>(Tryd.slices_Compact_int blk off cap zs w hH (by omega) hc).mono fun e w' ⟨he,q,hw⟩=>⟨by rw[he,cpt_eq];rfl,q,#[],by
  rw[hw,cpt_eq]
  simp only[libL,Go.Sort.grow,Array.append_empty]⟩
end Go.Proofs.YtkjkiodoighgnaaDoor
namespace Go.Proofs.YtkjkiodoighgnaaDoor
open Go Go.Itp
set_option maxRecDepth 100000
/- raddle/raddlelaw02.ThreadTexts -/
def c4:AFun:=⟨
 .seq (.ops [⟨(some 4),none,.mov (.const (.bool false))⟩] [0,1])
 (.seq (.seq (.ops [⟨(some 17),none,.mov (.tmp 0)⟩,
   ⟨(some 18),none,.callF 12 [(.tmp 17)]⟩,
   ⟨(some 19),none,.mov (.tmp 18)⟩,
   ⟨(some 20),(some (19,false)),.mov (.tmp 1)⟩,
   ⟨(some 21),(some (19,false)),.len true (.tmp 20)⟩,
   ⟨(some 22),(some (19,false)),.bin .gtr (.tmp 21) (.const (.int .i64 2000))⟩,
   ⟨(some 23),none,.pick (.tmp 19) (.const (.bool true)) (.tmp 22)⟩] [0,1,23])
 (.cond (.tmp 23)
  (.seq (.ops [⟨(some 4),none,.mov (.const (.bool true))⟩] [4])
  (.ret))
  (.skip)))
 (.seq (.ops [⟨(some 25),none,.mov (.tmp 0)⟩,
   ⟨(some 26),none,.callF 13 [(.tmp 25)]⟩,
   ⟨(some 24),none,.mov (.tmp 26)⟩,
   ⟨(some 27),none,.ext (.tmp 24) 0⟩,
   ⟨(some 28),none,.ext (.tmp 24) 1⟩,
   ⟨(some 5),none,.mov (.tmp 27)⟩,
   ⟨(some 6),none,.mov (.tmp 28)⟩] [0,1,5,6])
 (.seq (.ops [⟨(some 30),none,.mov (.tmp 0)⟩,
   ⟨(some 31),none,.callF 14 [(.tmp 30)]⟩,
   ⟨(some 29),none,.mov (.tmp 31)⟩,
   ⟨(some 32),none,.ext (.tmp 29) 0⟩,
   ⟨(some 33),none,.ext (.tmp 29) 1⟩,
   ⟨(some 7),none,.mov (.tmp 32)⟩,
   ⟨(some 8),none,.mov (.tmp 33)⟩] [0,1,5,6,7,8])
 (.seq (.ops [⟨(some 35),none,.mov (.tmp 0)⟩,
   ⟨(some 36),none,.callF 8 [(.tmp 35)]⟩,
   ⟨(some 34),none,.mov (.tmp 36)⟩,
   ⟨(some 37),none,.ext (.tmp 34) 0⟩,
   ⟨(some 38),none,.ext (.tmp 34) 1⟩,
   ⟨(some 9),none,.mov (.tmp 37)⟩,
   ⟨(some 10),none,.mov (.tmp 38)⟩] [0,1,5,6,7,8,9,10])
 (.seq (.ops [⟨(some 40),none,.mov (.tmp 0)⟩,
   ⟨(some 41),none,.callF 15 [(.tmp 40)]⟩,
   ⟨(some 39),none,.mov (.tmp 41)⟩,
   ⟨(some 42),none,.ext (.tmp 39) 0⟩,
   ⟨(some 43),none,.ext (.tmp 39) 1⟩,
   ⟨(some 11),none,.mov (.tmp 42)⟩,
   ⟨(some 12),none,.mov (.tmp 43)⟩] [0,1,5,6,7,8,9,10,11,12])
 (.seq (.ops [⟨(some 45),none,.mov (.tmp 1)⟩,
   ⟨(some 46),none,.callF 9 [(.tmp 45)]⟩,
   ⟨(some 44),none,.mov (.tmp 46)⟩,
   ⟨(some 47),none,.ext (.tmp 44) 0⟩,
   ⟨(some 48),none,.ext (.tmp 44) 1⟩,
   ⟨(some 13),none,.mov (.tmp 47)⟩,
   ⟨(some 14),none,.mov (.tmp 48)⟩] [0,1,5,6,7,8,9,10,11,12,13,14])
 (.seq (.ops [⟨(some 50),none,.mov (.tmp 1)⟩,
   ⟨(some 51),none,.callF 16 [(.tmp 50)]⟩,
   ⟨(some 49),none,.mov (.tmp 51)⟩,
   ⟨(some 52),none,.ext (.tmp 49) 0⟩,
   ⟨(some 53),none,.ext (.tmp 49) 1⟩,
   ⟨(some 15),none,.mov (.tmp 52)⟩,
   ⟨(some 16),none,.mov (.tmp 53)⟩] [0,5,6,7,8,9,10,11,12,13,14,15,16])
 (.seq (.ops [⟨(some 54),none,.mov (.tmp 0)⟩,
   ⟨(some 55),none,.callF 17 [(.tmp 54)]⟩,
   ⟨(some 56),none,.mov (.tmp 0)⟩,
   ⟨(some 57),none,.callF 18 [(.tmp 56)]⟩,
   ⟨(some 58),none,.bin .eql (.tmp 55) (.tmp 57)⟩,
   ⟨(some 59),none,.mov (.tmp 58)⟩,
   ⟨(some 60),(some (59,true)),.mov (.tmp 5)⟩,
   ⟨(some 61),(some (59,true)),.mov (.tmp 7)⟩,
   ⟨(some 62),(some (59,true)),.bin .eql (.tmp 60) (.tmp 61)⟩,
   ⟨(some 63),none,.pick (.tmp 59) (.tmp 62) (.const (.bool false))⟩,
   ⟨(some 64),none,.mov (.tmp 63)⟩,
   ⟨(some 65),(some (64,true)),.mov (.tmp 6)⟩,
   ⟨(some 66),(some (64,true)),.mov (.tmp 8)⟩,
   ⟨(some 67),(some (64,true)),.bin .eql (.tmp 65) (.tmp 66)⟩,
   ⟨(some 68),none,.pick (.tmp 64) (.tmp 67) (.const (.bool false))⟩,
   ⟨(some 69),none,.mov (.tmp 68)⟩,
   ⟨(some 70),(some (69,true)),.mov (.tmp 9)⟩,
   ⟨(some 71),(some (69,true)),.mov (.tmp 11)⟩,
   ⟨(some 72),(some (69,true)),.bin .eql (.tmp 70) (.tmp 71)⟩,
   ⟨(some 73),none,.pick (.tmp 69) (.tmp 72) (.const (.bool false))⟩,
   ⟨(some 74),none,.mov (.tmp 73)⟩,
   ⟨(some 75),(some (74,true)),.mov (.tmp 10)⟩,
   ⟨(some 76),(some (74,true)),.mov (.tmp 12)⟩,
   ⟨(some 77),(some (74,true)),.bin .eql (.tmp 75) (.tmp 76)⟩,
   ⟨(some 78),none,.pick (.tmp 74) (.tmp 77) (.const (.bool false))⟩,
   ⟨(some 79),none,.mov (.tmp 78)⟩,
   ⟨(some 80),(some (79,true)),.mov (.tmp 13)⟩,
   ⟨(some 81),(some (79,true)),.mov (.tmp 15)⟩,
   ⟨(some 82),(some (79,true)),.callF 10 [(.tmp 80),(.tmp 81)]⟩,
   ⟨(some 83),none,.pick (.tmp 79) (.tmp 82) (.const (.bool false))⟩,
   ⟨(some 84),none,.mov (.tmp 83)⟩,
   ⟨(some 85),(some (84,true)),.mov (.tmp 14)⟩,
   ⟨(some 86),(some (84,true)),.mov (.tmp 16)⟩,
   ⟨(some 87),(some (84,true)),.bin .eql (.tmp 85) (.tmp 86)⟩,
   ⟨(some 88),none,.pick (.tmp 84) (.tmp 87) (.const (.bool false))⟩,
   ⟨(some 4),none,.mov (.tmp 88)⟩] [4])
 (.ret))))))))),
 89,[(4,none)],true⟩
theorem ok4:FunOK Tryd.prog 4 c4:= .code ⟨Tryd.f4,_,c4.code,Tryd.func4,rfl,by kernel_rfl,rfl,by kernel_rfl,by kernel_rfl⟩
/- raddle/thread.Text -/
def c8l0:AC:=
 .seq (.ops [⟨(some 19),none,.bin .lss (.tmp 18) (.tmp 17)⟩] [5,6,16,17,18,19])
   (.seq (.cond (.tmp 19)
    (.skip)
    (.exit 0))
   (.seq (.block 1
    (.seq (.ops [⟨(some 20),none,.mov (.tmp 18)⟩,
      ⟨(some 21),none,.idxS 1 (.tmp 16) (.tmp 18)⟩,
      ⟨(some 22),none,.load none (.tmp 21)⟩,
      ⟨(some 7),none,.mov (.tmp 20)⟩,
      ⟨(some 8),none,.mov (.tmp 22)⟩] [5,6,7,8,16,17,18])
    (.seq (.seq (.ops [⟨(some 23),none,.mov (.tmp 7)⟩,
      ⟨(some 24),none,.bin .gtr (.tmp 23) (.const (.int .i64 0))⟩] [5,6,8,16,17,18,24])
    (.cond (.tmp 24)
     (.ops [⟨(some 25),none,.mov (.tmp 6)⟩,
       ⟨(some 26),none,.callV (.tmp 25) [(.const (.string ⟨#[32]⟩))]⟩] [5,6,8,16,17,18])
     (.skip)))
    (.ops [⟨(some 27),none,.mov (.tmp 6)⟩,
      ⟨(some 28),none,.mov (.tmp 8)⟩,
      ⟨(some 29),none,.bin .add (.tmp 28) (.const (.int .i64 1))⟩,
      ⟨(some 30),none,.callF 26 [(.tmp 29)]⟩,
      ⟨(some 31),none,.callV (.tmp 27) [(.tmp 30)]⟩] [5,6,16,17,18]))))
   (.ops [⟨(some 32),none,.bin .add (.tmp 18) (.const (.int .i64 1))⟩,
     ⟨(some 18),none,.mov (.tmp 32)⟩] [5,6,16,17,18])))
def c8:AFun:=⟨
 .seq (.ops [⟨(some 2),none,.mov (.const (.string ⟨#[]⟩))⟩,
   ⟨(some 3),none,.mov (.const (.int .i64 0))⟩] [0])
 (.seq (.seq (.ops [⟨(some 9),none,.mov (.tmp 0)⟩,
   ⟨(some 10),none,.mkRow 22 1 1 [(.slice none 0 0)] [(0,1,(.tmp 9))]⟩,
   ⟨(some 11),none,.callF 24 [(.tmp 10)]⟩,
   ⟨(some 4),none,.mov (.tmp 11)⟩] [0,4])
 (.seq (.ops [⟨(some 12),none,.mov (.tmp 4)⟩,
   ⟨(some 13),none,.bin .neq (.tmp 12) (.const (.int .i64 0))⟩] [0,4,13])
 (.cond (.tmp 13)
  (.seq (.ops [⟨(some 14),none,.mov (.tmp 4)⟩,
    ⟨(some 2),none,.mov (.const (.string ⟨#[]⟩))⟩,
    ⟨(some 3),none,.mov (.tmp 14)⟩] [2,3])
  (.ret))
  (.skip))))
 (.seq (.ops [⟨(some 5),none,.alloc 50 [(1,(.pointer none)),(1,(.slice none 0 0))]⟩] [0,5])
 (.seq (.ops [⟨(some 15),none,.mkFn 25 [(.tmp 5)] []⟩,
   ⟨(some 6),none,.mov (.tmp 15)⟩] [0,5,6])
 (.seq (.seq (.ops [⟨(some 16),none,.mov (.tmp 0)⟩,
   ⟨(some 17),none,.len false (.tmp 16)⟩,
   ⟨(some 18),none,.mov (.const (.int .i64 0))⟩] [5,6,16,17,18])
 (.block 0
  (.loop [5,6,16,17,18]
   c8l0)))
 (.seq (.ops [⟨(some 33),none,.callF 27 [(.tmp 5)]⟩,
   ⟨(some 2),none,.mov (.tmp 33)⟩,
   ⟨(some 3),none,.mov (.const (.int .i64 0))⟩] [2,3])
 (.ret)))))),
 34,[(2,none),(3,none)],true⟩
theorem ok8:FunOK Tryd.prog 8 c8:= .code ⟨Tryd.f8,_,c8.code,Tryd.func8,rfl,by kernel_rfl,rfl,by kernel_rfl,by kernel_rfl⟩
/- raddle/thread.Parse -/
def c9a0:AC:=
 (.ops [⟨(some 5),none,.mov (.tmp 12)⟩] [2,3,4,5])
def c9b0:AC:=
 (.block 1
    (.seq (.ops [⟨(some 14),none,.mov (.tmp 5)⟩,
      ⟨(some 15),none,.callF 29 [(.tmp 14)]⟩,
      ⟨(some 13),none,.mov (.tmp 15)⟩,
      ⟨(some 16),none,.ext (.tmp 13) 0⟩,
      ⟨(some 17),none,.ext (.tmp 13) 1⟩,
      ⟨(some 6),none,.mov (.tmp 16)⟩,
      ⟨(some 7),none,.mov (.tmp 17)⟩] [2,3,4,5,6,7])
    (.seq (.seq (.ops [⟨(some 18),none,.mov (.tmp 7)⟩,
      ⟨(some 19),none,.eqIf true true [2,3,5,6,12,21,24,84,93,95,107,115,129,147,148,150,151] (.tmp 18) (.const .nilIface)⟩,
      ⟨(some 20),none,.mov (.tmp 19)⟩,
      ⟨(some 21),(some (20,false)),.mov (.tmp 6)⟩,
      ⟨(some 22),(some (20,false)),.callF 26 [(.tmp 21)]⟩,
      ⟨(some 23),(some (20,false)),.mov (.tmp 5)⟩,
      ⟨(some 24),(some (20,false)),.bin .neq (.tmp 22) (.tmp 23)⟩,
      ⟨(some 25),none,.pick (.tmp 20) (.const (.bool true)) (.tmp 24)⟩,
      ⟨(some 26),none,.mov (.tmp 25)⟩,
      ⟨(some 27),(some (26,false)),.mov (.tmp 6)⟩,
      ⟨(some 28),(some (26,false)),.bin .lss (.tmp 27) (.const (.int .i64 1))⟩,
      ⟨(some 29),none,.pick (.tmp 26) (.const (.bool true)) (.tmp 28)⟩] [2,3,4,6,29])
    (.cond (.tmp 29)
     (.seq (.ops [⟨none,none,.store 1 (.tmp 2) (.const (.slice none 0 0))⟩,
       ⟨none,none,.store 1 (.tmp 3) (.const (.int .i64 12))⟩] [])
     (.ret))
     (.skip)))
    (.ops [⟨(some 30),none,.load none (.tmp 4)⟩,
      ⟨(some 31),none,.mov (.tmp 6)⟩,
      ⟨(some 32),none,.bin .sub (.tmp 31) (.const (.int .i64 1))⟩,
      ⟨(some 33),none,.mkRow 3 1 1 [(.int .i64 0)] [(0,1,(.tmp 32))]⟩,
      ⟨(some 34),none,.app 3 1 8 (.tmp 30) (.tmp 33)⟩,
      ⟨none,none,.store 1 (.tmp 4) (.tmp 34)⟩] []))))
def c9:AFun:=⟨
 .seq (.ops [⟨(some 2),none,.alloc 22 [(1,(.slice none 0 0))]⟩,
   ⟨(some 3),none,.alloc 24 [(1,(.int .i64 0))]⟩] [0,2,3])
 (.seq (.seq (.ops [⟨(some 8),none,.mov (.tmp 0)⟩,
   ⟨(some 9),none,.bin .eql (.tmp 8) (.const (.string ⟨#[]⟩))⟩] [0,2,3,9])
 (.cond (.tmp 9)
  (.seq (.ops [⟨none,none,.store 1 (.tmp 2) (.const (.slice none 0 0))⟩,
    ⟨none,none,.store 1 (.tmp 3) (.const (.int .i64 0))⟩] [2,3])
  (.ret))
  (.skip)))
 (.seq (.ops [⟨(some 4),none,.alloc 22 [(1,(.slice none 0 0))]⟩] [0,2,3,4])
 (.seq (.seq (.ops [⟨(some 10),none,.mov (.tmp 0)⟩,
   ⟨(some 11),none,.callF 28 [(.tmp 10),(.const (.string ⟨#[32]⟩))]⟩] [2,3,4,11])
 (.block 0
  (.rangeF (.tmp 11) [12] [2,3,4]
   c9a0 c9b0)))
 (.seq (.seq (.ops [⟨(some 35),none,.load none (.tmp 4)⟩,
   ⟨(some 36),none,.mkRow 22 1 1 [(.slice none 0 0)] [(0,1,(.tmp 35))]⟩,
   ⟨(some 37),none,.callF 24 [(.tmp 36)]⟩,
   ⟨(some 38),none,.bin .neq (.tmp 37) (.const (.int .i64 0))⟩] [2,3,4,38])
 (.cond (.tmp 38)
  (.seq (.ops [⟨none,none,.store 1 (.tmp 2) (.const (.slice none 0 0))⟩,
    ⟨none,none,.store 1 (.tmp 3) (.const (.int .i64 12))⟩] [2,3])
  (.ret))
  (.skip)))
 (.seq (.ops [⟨(some 39),none,.load none (.tmp 4)⟩,
   ⟨none,none,.store 1 (.tmp 2) (.tmp 39)⟩,
   ⟨none,none,.store 1 (.tmp 3) (.const (.int .i64 0))⟩] [2,3])
 (.ret)))))),
 40,[(2,(some none)),(3,(some none))],true⟩
theorem ok9:FunOK Tryd.prog 9 c9:= .code ⟨Tryd.f9,_,c9.code,Tryd.func9,rfl,by kernel_rfl,rfl,by kernel_rfl,by kernel_rfl⟩
/- raddle/raddleref02.Same -/
def c10l0:AC:=
 .seq (.seq (.ops [⟨(some 11),none,.mov (.tmp 5)⟩,
     ⟨(some 12),none,.mov (.tmp 0)⟩,
     ⟨(some 13),none,.len false (.tmp 12)⟩,
     ⟨(some 14),none,.bin .lss (.tmp 11) (.tmp 13)⟩] [0,1,5,14])
   (.cond (.tmp 14)
    (.skip)
    (.exit 0)))
   (.seq (.block 1
    (.seq (.draw [⟨(some 17),none,.mov (.tmp 0)⟩,
      ⟨(some 18),none,.mov (.tmp 5)⟩,
      ⟨(some 19),none,.idxS 1 (.tmp 17) (.tmp 18)⟩,
      ⟨(some 20),none,.load none (.tmp 19)⟩,
      ⟨(some 21),none,.mov (.tmp 1)⟩,
      ⟨(some 22),none,.mov (.tmp 5)⟩,
      ⟨(some 23),none,.idxS 1 (.tmp 21) (.tmp 22)⟩,
      ⟨(some 24),none,.load none (.tmp 23)⟩] [⟨(some 25),none,.bin .neq (.tmp 20) (.tmp 24)⟩] [[],[],[],[],[],[],[],[]] [0,1,5,25])
    (.cond (.tmp 25)
     (.seq (.ops [⟨(some 4),none,.mov (.const (.bool false))⟩] [4])
     (.ret))
     (.skip))))
   (.ops [⟨(some 15),none,.mov (.tmp 5)⟩,
     ⟨(some 16),none,.bin .add (.tmp 15) (.const (.int .i64 1))⟩,
     ⟨(some 5),none,.mov (.tmp 16)⟩] [0,1,5]))
def c10:AFun:=⟨
 .seq (.ops [⟨(some 4),none,.mov (.const (.bool false))⟩] [0,1])
 (.seq (.seq (.ops [⟨(some 6),none,.mov (.tmp 0)⟩,
   ⟨(some 7),none,.len false (.tmp 6)⟩,
   ⟨(some 8),none,.mov (.tmp 1)⟩,
   ⟨(some 9),none,.len false (.tmp 8)⟩,
   ⟨(some 10),none,.bin .neq (.tmp 7) (.tmp 9)⟩] [0,1,10])
 (.cond (.tmp 10)
  (.seq (.ops [⟨(some 4),none,.mov (.const (.bool false))⟩] [4])
  (.ret))
  (.skip)))
 (.seq (.seq (.ops [⟨(some 5),none,.mov (.const (.int .i64 0))⟩] [0,1,5])
 (.block 0
  (.loop [0,1,5]
   c10l0)))
 (.seq (.ops [⟨(some 4),none,.mov (.const (.bool true))⟩] [4])
 (.ret)))),
 26,[(4,none)],true⟩
theorem ok10:FunOK Tryd.prog 10 c10:= .code ⟨Tryd.f10,_,c10.code,Tryd.func10,rfl,by kernel_rfl,rfl,by kernel_rfl,by kernel_rfl⟩
/- raddle/raddleref02.Great -/
def c12:AFun:=⟨
 .seq (.ops [⟨(some 2),none,.mov (.const (.bool false))⟩] [0])
 (.seq (.ops [⟨(some 3),none,.mov (.tmp 0)⟩,
   ⟨(some 4),none,.len false (.tmp 3)⟩,
   ⟨(some 5),none,.bin .gtr (.tmp 4) (.const (.int .i64 60))⟩,
   ⟨(some 6),none,.mov (.tmp 5)⟩,
   ⟨(some 7),(some (6,true)),.mov (.tmp 0)⟩,
   ⟨(some 8),(some (6,true)),.len false (.tmp 7)⟩,
   ⟨(some 9),(some (6,true)),.bin .leq (.tmp 8) (.const (.int .i64 400))⟩,
   ⟨(some 10),none,.pick (.tmp 6) (.tmp 9) (.const (.bool false))⟩,
   ⟨(some 11),none,.mov (.tmp 10)⟩,
   ⟨(some 12),(some (11,false)),.mov (.tmp 0)⟩,
   ⟨(some 13),(some (11,false)),.len false (.tmp 12)⟩,
   ⟨(some 14),(some (11,false)),.bin .gtr (.tmp 13) (.const (.int .i64 420))⟩,
   ⟨(some 15),none,.pick (.tmp 11) (.const (.bool true)) (.tmp 14)⟩,
   ⟨(some 2),none,.mov (.tmp 15)⟩] [2])
 (.ret)),
 16,[(2,none)],true⟩
theorem ok12:FunOK Tryd.prog 12 c12:= .code ⟨Tryd.f12,_,c12.code,Tryd.func12,rfl,by kernel_rfl,rfl,by kernel_rfl,by kernel_rfl⟩
/- raddle/thread.Used -/
def c13:AFun:=⟨
 .seq (.ops [⟨(some 2),none,.mov (.const (.int .i64 0))⟩,
   ⟨(some 3),none,.mov (.const (.int .i64 0))⟩] [0])
 (.seq (.seq (.ops [⟨(some 6),none,.mov (.tmp 0)⟩,
   ⟨(some 7),none,.mkRow 22 1 1 [(.slice none 0 0)] [(0,1,(.tmp 6))]⟩,
   ⟨(some 8),none,.callF 24 [(.tmp 7)]⟩,
   ⟨(some 4),none,.mov (.tmp 8)⟩] [0,4])
 (.seq (.ops [⟨(some 9),none,.mov (.tmp 4)⟩,
   ⟨(some 10),none,.bin .neq (.tmp 9) (.const (.int .i64 0))⟩] [0,4,10])
 (.cond (.tmp 10)
  (.seq (.ops [⟨(some 11),none,.mov (.tmp 4)⟩,
    ⟨(some 2),none,.mov (.const (.int .i64 0))⟩,
    ⟨(some 3),none,.mov (.tmp 11)⟩] [2,3])
  (.ret))
  (.skip))))
 (.seq (.ops [⟨(some 12),none,.mov (.tmp 0)⟩,
   ⟨(some 13),none,.callF 33 [(.tmp 12)]⟩,
   ⟨(some 14),none,.callF 32 [(.tmp 13)]⟩,
   ⟨(some 5),none,.mov (.tmp 14)⟩] [5])
 (.seq (.ops [⟨(some 15),none,.mov (.tmp 5)⟩,
   ⟨(some 16),none,.callF 34 [(.tmp 15)]⟩,
   ⟨(some 17),none,.len false (.tmp 16)⟩,
   ⟨(some 2),none,.mov (.tmp 17)⟩,
   ⟨(some 3),none,.mov (.const (.int .i64 0))⟩] [2,3])
 (.ret)))),
 18,[(2,none),(3,none)],true⟩
theorem ok13:FunOK Tryd.prog 13 c13:= .code ⟨Tryd.f13,_,c13.code,Tryd.func13,rfl,by kernel_rfl,rfl,by kernel_rfl,by kernel_rfl⟩
/- raddle/raddleref02.Used -/
def c14:AFun:=⟨
 .seq (.ops [⟨(some 2),none,.mov (.const (.int .i64 0))⟩,
   ⟨(some 3),none,.mov (.const (.int .i64 0))⟩] [0])
 (.seq (.seq (.ops [⟨(some 6),none,.mov (.tmp 0)⟩,
   ⟨(some 7),none,.callF 18 [(.tmp 6)]⟩,
   ⟨(some 8),none,.bin .neq (.tmp 7) (.const (.int .i64 0))⟩] [0,8])
 (.cond (.tmp 8)
  (.seq (.ops [⟨(some 9),none,.mov (.tmp 0)⟩,
    ⟨(some 10),none,.callF 18 [(.tmp 9)]⟩,
    ⟨(some 2),none,.mov (.const (.int .i64 0))⟩,
    ⟨(some 3),none,.mov (.tmp 10)⟩] [2,3])
  (.ret))
  (.skip)))
 (.seq (.ops [⟨(some 12),none,.mov (.tmp 0)⟩,
   ⟨(some 13),none,.callF 35 [(.tmp 12)]⟩,
   ⟨(some 11),none,.mov (.tmp 13)⟩,
   ⟨(some 14),none,.ext (.tmp 11) 0⟩,
   ⟨(some 15),none,.ext (.tmp 11) 1⟩,
   ⟨(some 4),none,.mov (.tmp 14)⟩,
   ⟨(some 5),none,.mov (.tmp 15)⟩] [5])
 (.seq (.ops [⟨(some 16),none,.mov (.tmp 5)⟩,
   ⟨(some 2),none,.mov (.tmp 16)⟩,
   ⟨(some 3),none,.mov (.const (.int .i64 0))⟩] [2,3])
 (.ret)))),
 17,[(2,none),(3,none)],true⟩
theorem ok14:FunOK Tryd.prog 14 c14:= .code ⟨Tryd.f14,_,c14.code,Tryd.func14,rfl,by kernel_rfl,rfl,by kernel_rfl,by kernel_rfl⟩
/- raddle/raddleref02.Text -/
def c15l0:AC:=
 .seq (.seq (.ops [⟨(some 11),none,.mov (.tmp 5)⟩,
     ⟨(some 12),none,.mov (.tmp 0)⟩,
     ⟨(some 13),none,.len false (.tmp 12)⟩,
     ⟨(some 14),none,.bin .lss (.tmp 11) (.tmp 13)⟩] [0,4,5,14])
   (.cond (.tmp 14)
    (.skip)
    (.exit 0)))
   (.seq (.block 1
    (.seq (.seq (.ops [⟨(some 17),none,.mov (.tmp 5)⟩,
      ⟨(some 18),none,.bin .gtr (.tmp 17) (.const (.int .i64 0))⟩] [0,4,5,18])
    (.cond (.tmp 18)
     (.ops [⟨(some 19),none,.mov (.tmp 4)⟩,
       ⟨(some 20),none,.bin .add (.tmp 19) (.const (.string ⟨#[32]⟩))⟩,
       ⟨(some 4),none,.mov (.tmp 20)⟩] [0,4,5])
     (.skip)))
    (.ops [⟨(some 21),none,.mov (.tmp 4)⟩,
      ⟨(some 22),none,.mov (.tmp 0)⟩,
      ⟨(some 23),none,.mov (.tmp 5)⟩,
      ⟨(some 24),none,.idxS 1 (.tmp 22) (.tmp 23)⟩,
      ⟨(some 25),none,.load none (.tmp 24)⟩,
      ⟨(some 26),none,.bin .add (.tmp 25) (.const (.int .i64 1))⟩,
      ⟨(some 27),none,.callF 36 [(.tmp 26)]⟩,
      ⟨(some 28),none,.bin .add (.tmp 21) (.tmp 27)⟩,
      ⟨(some 4),none,.mov (.tmp 28)⟩] [0,4,5])))
   (.ops [⟨(some 15),none,.mov (.tmp 5)⟩,
     ⟨(some 16),none,.bin .add (.tmp 15) (.const (.int .i64 1))⟩,
     ⟨(some 5),none,.mov (.tmp 16)⟩] [0,4,5]))
def c15:AFun:=⟨
 .seq (.ops [⟨(some 2),none,.mov (.const (.string ⟨#[]⟩))⟩,
   ⟨(some 3),none,.mov (.const (.int .i64 0))⟩] [0])
 (.seq (.seq (.ops [⟨(some 6),none,.mov (.tmp 0)⟩,
   ⟨(some 7),none,.callF 18 [(.tmp 6)]⟩,
   ⟨(some 8),none,.bin .neq (.tmp 7) (.const (.int .i64 0))⟩] [0,8])
 (.cond (.tmp 8)
  (.seq (.ops [⟨(some 9),none,.mov (.tmp 0)⟩,
    ⟨(some 10),none,.callF 18 [(.tmp 9)]⟩,
    ⟨(some 2),none,.mov (.const (.string ⟨#[]⟩))⟩,
    ⟨(some 3),none,.mov (.tmp 10)⟩] [2,3])
  (.ret))
  (.skip)))
 (.seq (.ops [⟨(some 4),none,.mov (.const (.string ⟨#[]⟩))⟩] [0,4])
 (.seq (.seq (.ops [⟨(some 5),none,.mov (.const (.int .i64 0))⟩] [0,4,5])
 (.block 0
  (.loop [0,4,5]
   c15l0)))
 (.seq (.ops [⟨(some 29),none,.mov (.tmp 4)⟩,
   ⟨(some 2),none,.mov (.tmp 29)⟩,
   ⟨(some 3),none,.mov (.const (.int .i64 0))⟩] [2,3])
 (.ret))))),
 30,[(2,none),(3,none)],true⟩
theorem ok15:FunOK Tryd.prog 15 c15:= .code ⟨Tryd.f15,_,c15.code,Tryd.func15,rfl,by kernel_rfl,rfl,by kernel_rfl,by kernel_rfl⟩
/- raddle/raddleref02.Parse -/
def c16l0:AC:=
 .seq (.seq (.ops [⟨(some 10),none,.mov (.tmp 7)⟩,
     ⟨(some 11),none,.mov (.tmp 0)⟩,
     ⟨(some 12),none,.len true (.tmp 11)⟩,
     ⟨(some 13),none,.bin .leq (.tmp 10) (.tmp 12)⟩] [0,4,5,6,7,13])
   (.cond (.tmp 13)
    (.skip)
    (.exit 0)))
   (.seq (.block 1
    (.seq (.seq (.ops [⟨(some 16),none,.mov (.tmp 7)⟩,
      ⟨(some 17),none,.mov (.tmp 0)⟩,
      ⟨(some 18),none,.len true (.tmp 17)⟩,
      ⟨(some 19),none,.bin .eql (.tmp 16) (.tmp 18)⟩,
      ⟨(some 20),none,.mov (.tmp 19)⟩,
      ⟨(some 21),(some (20,false)),.mov (.tmp 0)⟩,
      ⟨(some 22),(some (20,false)),.mov (.tmp 7)⟩,
      ⟨(some 23),(some (20,false)),.idxStr (.tmp 21) (.tmp 22)⟩,
      ⟨(some 24),(some (20,false)),.bin .eql (.tmp 23) (.const (.int .u8 32))⟩,
      ⟨(some 25),none,.pick (.tmp 20) (.const (.bool true)) (.tmp 24)⟩] [0,4,5,6,7,25])
    (.cond (.tmp 25)
     (.seq (.seq (.ops [⟨(some 26),none,.mov (.tmp 6)⟩,
       ⟨(some 27),none,.bin .eql (.tmp 26) (.const (.int .i64 0))⟩,
       ⟨(some 28),none,.mov (.tmp 27)⟩,
       ⟨(some 29),(some (28,false)),.mov (.tmp 4)⟩,
       ⟨(some 30),(some (28,false)),.len false (.tmp 29)⟩,
       ⟨(some 31),(some (28,false)),.bin .eql (.tmp 30) (.const (.int .i64 400))⟩,
       ⟨(some 32),none,.pick (.tmp 28) (.const (.bool true)) (.tmp 31)⟩] [0,4,5,7,32])
     (.cond (.tmp 32)
      (.seq (.ops [⟨(some 2),none,.mov (.const (.slice none 0 0))⟩,
        ⟨(some 3),none,.mov (.const (.int .i64 12))⟩] [2,3])
      (.ret))
      (.skip)))
     (.seq (.ops [⟨(some 33),none,.mov (.tmp 4)⟩,
       ⟨(some 34),none,.mov (.tmp 5)⟩,
       ⟨(some 35),none,.bin .sub (.tmp 34) (.const (.int .i64 1))⟩,
       ⟨(some 36),none,.mkRow 3 1 1 [(.int .i64 0)] [(0,1,(.tmp 35))]⟩,
       ⟨(some 37),none,.app 3 1 8 (.tmp 33) (.tmp 36)⟩,
       ⟨(some 4),none,.mov (.tmp 37)⟩] [0,4,7])
     (.seq (.ops [⟨(some 5),none,.mov (.const (.int .i64 0))⟩,
       ⟨(some 6),none,.mov (.const (.int .i64 0))⟩] [0,4,5,6,7])
     (.exit 1))))
     (.skip)))
    (.seq (.seq (.ops [⟨(some 38),none,.mov (.tmp 0)⟩,
      ⟨(some 39),none,.mov (.tmp 7)⟩,
      ⟨(some 40),none,.idxStr (.tmp 38) (.tmp 39)⟩,
      ⟨(some 41),none,.bin .lss (.tmp 40) (.const (.int .u8 48))⟩,
      ⟨(some 42),none,.mov (.tmp 41)⟩,
      ⟨(some 43),(some (42,false)),.mov (.tmp 0)⟩,
      ⟨(some 44),(some (42,false)),.mov (.tmp 7)⟩,
      ⟨(some 45),(some (42,false)),.idxStr (.tmp 43) (.tmp 44)⟩,
      ⟨(some 46),(some (42,false)),.bin .gtr (.tmp 45) (.const (.int .u8 57))⟩,
      ⟨(some 47),none,.pick (.tmp 42) (.const (.bool true)) (.tmp 46)⟩,
      ⟨(some 48),none,.mov (.tmp 47)⟩,
      ⟨(some 49),(some (48,false)),.mov (.tmp 6)⟩,
      ⟨(some 50),(some (48,false)),.bin .eql (.tmp 49) (.const (.int .i64 0))⟩,
      ⟨(some 51),(some (48,false)),.mov (.tmp 50)⟩,
      ⟨(some 52),(some (51,true)),.mov (.tmp 0)⟩,
      ⟨(some 53),(some (51,true)),.mov (.tmp 7)⟩,
      ⟨(some 54),(some (51,true)),.idxStr (.tmp 52) (.tmp 53)⟩,
      ⟨(some 55),(some (51,true)),.bin .eql (.tmp 54) (.const (.int .u8 48))⟩,
      ⟨(some 56),(some (48,false)),.pick (.tmp 51) (.tmp 55) (.const (.bool false))⟩,
      ⟨(some 57),none,.pick (.tmp 48) (.const (.bool true)) (.tmp 56)⟩] [0,4,5,6,7,57])
    (.cond (.tmp 57)
     (.seq (.ops [⟨(some 2),none,.mov (.const (.slice none 0 0))⟩,
       ⟨(some 3),none,.mov (.const (.int .i64 12))⟩] [2,3])
     (.ret))
     (.skip)))
    (.seq (.ops [⟨(some 58),none,.mov (.tmp 5)⟩,
      ⟨(some 59),none,.bin .mul (.const (.int .i64 10)) (.tmp 58)⟩,
      ⟨(some 60),none,.mov (.tmp 0)⟩,
      ⟨(some 61),none,.mov (.tmp 7)⟩,
      ⟨(some 62),none,.idxStr (.tmp 60) (.tmp 61)⟩,
      ⟨(some 63),none,.bin .sub (.tmp 62) (.const (.int .u8 48))⟩,
      ⟨(some 64),none,.convI .i64 (.tmp 63)⟩,
      ⟨(some 65),none,.bin .add (.tmp 59) (.tmp 64)⟩,
      ⟨(some 5),none,.mov (.tmp 65)⟩] [0,4,5,6,7])
    (.seq (.ops [⟨(some 66),none,.mov (.tmp 6)⟩,
      ⟨(some 67),none,.bin .add (.tmp 66) (.const (.int .i64 1))⟩,
      ⟨(some 6),none,.mov (.tmp 67)⟩] [0,4,5,6,7])
    (.seq (.ops [⟨(some 68),none,.mov (.tmp 5)⟩,
      ⟨(some 69),none,.bin .gtr (.tmp 68) (.const (.int .i64 400))⟩] [0,4,5,6,7,69])
    (.cond (.tmp 69)
     (.seq (.ops [⟨(some 2),none,.mov (.const (.slice none 0 0))⟩,
       ⟨(some 3),none,.mov (.const (.int .i64 12))⟩] [2,3])
     (.ret))
     (.skip))))))))
   (.ops [⟨(some 14),none,.mov (.tmp 7)⟩,
     ⟨(some 15),none,.bin .add (.tmp 14) (.const (.int .i64 1))⟩,
     ⟨(some 7),none,.mov (.tmp 15)⟩] [0,4,5,6,7]))
def c16:AFun:=⟨
 .seq (.ops [⟨(some 2),none,.mov (.const (.slice none 0 0))⟩,
   ⟨(some 3),none,.mov (.const (.int .i64 0))⟩] [0])
 (.seq (.seq (.ops [⟨(some 8),none,.mov (.tmp 0)⟩,
   ⟨(some 9),none,.bin .eql (.tmp 8) (.const (.string ⟨#[]⟩))⟩] [0,9])
 (.cond (.tmp 9)
  (.seq (.ops [⟨(some 2),none,.mov (.const (.slice none 0 0))⟩,
    ⟨(some 3),none,.mov (.const (.int .i64 0))⟩] [2,3])
  (.ret))
  (.skip)))
 (.seq (.ops [⟨(some 4),none,.mov (.const (.slice none 0 0))⟩] [0,4])
 (.seq (.ops [⟨(some 5),none,.mov (.const (.int .i64 0))⟩,
   ⟨(some 6),none,.mov (.const (.int .i64 0))⟩] [0,4,5,6])
 (.seq (.seq (.ops [⟨(some 7),none,.mov (.const (.int .i64 0))⟩] [0,4,5,6,7])
 (.block 0
  (.loop [0,4,5,6,7]
   c16l0)))
 (.seq (.ops [⟨(some 70),none,.mov (.tmp 4)⟩,
   ⟨(some 2),none,.mov (.tmp 70)⟩,
   ⟨(some 3),none,.mov (.const (.int .i64 0))⟩] [2,3])
 (.ret)))))),
 71,[(2,none),(3,none)],true⟩
theorem ok16:FunOK Tryd.prog 16 c16:= .code ⟨Tryd.f16,_,c16.code,Tryd.func16,rfl,by kernel_rfl,rfl,by kernel_rfl,by kernel_rfl⟩
/- raddle/thread.Check -/
def c17:AFun:=⟨
 .seq (.ops [⟨(some 2),none,.mov (.const (.int .i64 0))⟩] [0])
 (.seq (.ops [⟨(some 3),none,.mov (.tmp 0)⟩,
   ⟨(some 4),none,.mkRow 22 1 1 [(.slice none 0 0)] [(0,1,(.tmp 3))]⟩,
   ⟨(some 5),none,.callF 24 [(.tmp 4)]⟩,
   ⟨(some 2),none,.mov (.tmp 5)⟩] [2])
 (.ret)),
 6,[(2,none)],true⟩
theorem ok17:FunOK Tryd.prog 17 c17:= .code ⟨Tryd.f17,_,c17.code,Tryd.func17,rfl,by kernel_rfl,rfl,by kernel_rfl,by kernel_rfl⟩
/- raddle/raddleref02.Check -/
def c18l0:AC:=
 .seq (.seq (.ops [⟨(some 7),none,.mov (.tmp 3)⟩,
     ⟨(some 8),none,.mov (.tmp 0)⟩,
     ⟨(some 9),none,.len false (.tmp 8)⟩,
     ⟨(some 10),none,.bin .lss (.tmp 7) (.tmp 9)⟩] [0,3,10])
   (.cond (.tmp 10)
    (.skip)
    (.exit 0)))
   (.seq (.block 1
    (.seq (.ops [⟨(some 13),none,.mov (.tmp 0)⟩,
      ⟨(some 14),none,.mov (.tmp 3)⟩,
      ⟨(some 15),none,.idxS 1 (.tmp 13) (.tmp 14)⟩,
      ⟨(some 16),none,.load none (.tmp 15)⟩,
      ⟨(some 17),none,.bin .lss (.tmp 16) (.const (.int .i64 0))⟩,
      ⟨(some 18),none,.mov (.tmp 17)⟩,
      ⟨(some 19),(some (18,false)),.mov (.tmp 0)⟩,
      ⟨(some 20),(some (18,false)),.mov (.tmp 3)⟩,
      ⟨(some 21),(some (18,false)),.idxS 1 (.tmp 19) (.tmp 20)⟩,
      ⟨(some 22),(some (18,false)),.load none (.tmp 21)⟩,
      ⟨(some 23),(some (18,false)),.bin .geq (.tmp 22) (.const (.int .i64 400))⟩,
      ⟨(some 24),none,.pick (.tmp 18) (.const (.bool true)) (.tmp 23)⟩] [0,3,24])
    (.cond (.tmp 24)
     (.seq (.ops [⟨(some 2),none,.mov (.const (.int .i64 8))⟩] [2])
     (.ret))
     (.skip))))
   (.ops [⟨(some 11),none,.mov (.tmp 3)⟩,
     ⟨(some 12),none,.bin .add (.tmp 11) (.const (.int .i64 1))⟩,
     ⟨(some 3),none,.mov (.tmp 12)⟩] [0,3]))
def c18:AFun:=⟨
 .seq (.ops [⟨(some 2),none,.mov (.const (.int .i64 0))⟩] [0])
 (.seq (.seq (.ops [⟨(some 4),none,.mov (.tmp 0)⟩,
   ⟨(some 5),none,.len false (.tmp 4)⟩,
   ⟨(some 6),none,.bin .gtr (.tmp 5) (.const (.int .i64 400))⟩] [0,6])
 (.cond (.tmp 6)
  (.seq (.ops [⟨(some 2),none,.mov (.const (.int .i64 4))⟩] [2])
  (.ret))
  (.skip)))
 (.seq (.seq (.ops [⟨(some 3),none,.mov (.const (.int .i64 0))⟩] [0,3])
 (.block 0
  (.loop [0,3]
   c18l0)))
 (.seq (.ops [⟨(some 2),none,.mov (.const (.int .i64 0))⟩] [2])
 (.ret)))),
 25,[(2,none)],true⟩
theorem ok18:FunOK Tryd.prog 18 c18:= .code ⟨Tryd.f18,_,c18.code,Tryd.func18,rfl,by kernel_rfl,rfl,by kernel_rfl,by kernel_rfl⟩
/- raddle/thread.check -/
def c24l0:AC:=
 .seq (.ops [⟨(some 19),none,.bin .lss (.tmp 18) (.tmp 17)⟩] [7,8,9,16,17,18,19])
      (.seq (.cond (.tmp 19)
       (.skip)
       (.exit 2))
      (.seq (.block 3
       (.seq (.ops [⟨(some 20),none,.idxS 1 (.tmp 16) (.tmp 18)⟩,
         ⟨(some 21),none,.load none (.tmp 20)⟩,
         ⟨(some 6),none,.mov (.tmp 21)⟩] [6,7,8,9,16,17,18])
       (.seq (.ops [⟨(some 22),none,.mov (.tmp 6)⟩,
         ⟨(some 23),none,.bin .lss (.tmp 22) (.const (.int .i64 0))⟩,
         ⟨(some 24),none,.mov (.tmp 23)⟩,
         ⟨(some 25),(some (24,false)),.mov (.tmp 6)⟩,
         ⟨(some 26),(some (24,false)),.bin .geq (.tmp 25) (.const (.int .i64 400))⟩,
         ⟨(some 27),none,.pick (.tmp 24) (.const (.bool true)) (.tmp 26)⟩] [7,8,9,16,17,18,27])
       (.cond (.tmp 27)
        (.seq (.ops [⟨(some 2),none,.mov (.const (.int .i64 8))⟩] [2])
        (.ret))
        (.skip)))))
      (.ops [⟨(some 28),none,.bin .add (.tmp 18) (.const (.int .i64 1))⟩,
        ⟨(some 18),none,.mov (.tmp 28)⟩] [7,8,9,16,17,18])))
def c24l1:AC:=
 .seq (.ops [⟨(some 10),none,.bin .lss (.tmp 9) (.tmp 8)⟩] [7,8,9,10])
   (.seq (.cond (.tmp 10)
    (.skip)
    (.exit 0))
   (.seq (.block 1
    (.seq (.ops [⟨(some 11),none,.idxS 1 (.tmp 7) (.tmp 9)⟩,
      ⟨(some 12),none,.load none (.tmp 11)⟩,
      ⟨(some 4),none,.mov (.tmp 12)⟩] [4,7,8,9])
    (.seq (.seq (.ops [⟨(some 13),none,.mov (.tmp 4)⟩,
      ⟨(some 14),none,.len false (.tmp 13)⟩,
      ⟨(some 15),none,.bin .gtr (.tmp 14) (.const (.int .i64 400))⟩] [4,7,8,9,15])
    (.cond (.tmp 15)
     (.seq (.ops [⟨(some 2),none,.mov (.const (.int .i64 4))⟩] [2])
     (.ret))
     (.skip)))
    (.seq (.ops [⟨(some 16),none,.mov (.tmp 4)⟩,
      ⟨(some 17),none,.len false (.tmp 16)⟩,
      ⟨(some 18),none,.mov (.const (.int .i64 0))⟩] [7,8,9,16,17,18])
    (.block 2
     (.loop [7,8,9,16,17,18]
      c24l0))))))
   (.ops [⟨(some 29),none,.bin .add (.tmp 9) (.const (.int .i64 1))⟩,
     ⟨(some 9),none,.mov (.tmp 29)⟩] [7,8,9])))
def c24:AFun:=⟨
 .seq (.ops [⟨(some 2),none,.mov (.const (.int .i64 0))⟩] [0])
 (.seq (.seq (.ops [⟨(some 7),none,.mov (.tmp 0)⟩,
   ⟨(some 8),none,.len false (.tmp 7)⟩,
   ⟨(some 9),none,.mov (.const (.int .i64 0))⟩] [7,8,9])
 (.block 0
  (.loop [7,8,9]
   c24l1)))
 (.seq (.ops [⟨(some 2),none,.mov (.const (.int .i64 0))⟩] [2])
 (.ret))),
 30,[(2,none)],true⟩
theorem ok24:FunOK Tryd.prog 24 c24:= .code ⟨Tryd.f24,_,c24.code,Tryd.func24,rfl,by kernel_rfl,rfl,by kernel_rfl,by kernel_rfl⟩
/- (*strings.Builder).WriteString -/
def c25:AFun:=⟨
 .seq (.ops [⟨(some 4),none,.mov (.const (.int .i64 0))⟩,
   ⟨(some 5),none,.mov (.const .nilIface)⟩] [0,1])
 (.seq (.ops [⟨(some 6),none,.mov (.tmp 0)⟩,
   ⟨(some 7),none,.callF 41 [(.tmp 6)]⟩] [0,1])
 (.seq (.ops [⟨(some 8),none,.mov (.tmp 0)⟩,
   ⟨(some 9),none,.mov (.tmp 0)⟩,
   ⟨(some 10),none,.nilChk (.tmp 9)⟩,
   ⟨(some 11),none,.fldA 1 (.tmp 10)⟩,
   ⟨(some 12),none,.load none (.tmp 11)⟩,
   ⟨(some 13),none,.mov (.tmp 1)⟩,
   ⟨(some 14),none,.app 5 1 1 (.tmp 12) (.tmp 13)⟩,
   ⟨(some 15),none,.nilChk (.tmp 8)⟩,
   ⟨(some 16),none,.fldA 1 (.tmp 15)⟩,
   ⟨none,none,.store 1 (.tmp 16) (.tmp 14)⟩] [1])
 (.seq (.ops [⟨(some 17),none,.mov (.tmp 1)⟩,
   ⟨(some 18),none,.len true (.tmp 17)⟩,
   ⟨(some 4),none,.mov (.tmp 18)⟩,
   ⟨(some 5),none,.mov (.const .nilIface)⟩] [4,5])
 (.ret)))),
 19,[(4,none),(5,none)],false⟩
theorem ok25:FunOK Tryd.prog 25 c25:= .code ⟨Tryd.f25,_,c25.code,Tryd.func25,rfl,by kernel_rfl,rfl,by kernel_rfl,by kernel_rfl⟩
/- (*strings.Builder).String -/
def c27:AFun:=⟨
 .seq (.ops [⟨(some 2),none,.mov (.const (.string ⟨#[]⟩))⟩] [0])
 (.seq (.draw [⟨(some 3),none,.mov (.tmp 0)⟩,
   ⟨(some 4),none,.nilChk (.tmp 3)⟩,
   ⟨(some 5),none,.fldA 1 (.tmp 4)⟩,
   ⟨(some 6),none,.load none (.tmp 5)⟩,
   ⟨(some 7),none,.sdata (.tmp 6)⟩,
   ⟨(some 8),none,.mov (.tmp 0)⟩,
   ⟨(some 9),none,.nilChk (.tmp 8)⟩,
   ⟨(some 10),none,.fldA 1 (.tmp 9)⟩,
   ⟨(some 11),none,.load none (.tmp 10)⟩,
   ⟨(some 12),none,.len false (.tmp 11)⟩] [⟨(some 13),none,.ustr 5 (.tmp 7) (.tmp 12)⟩,
   ⟨(some 2),none,.mov (.tmp 13)⟩] [[],[],[],[],[],[],[],[],[],[]] [2])
 (.ret)),
 14,[(2,none)],false⟩
theorem ok27:FunOK Tryd.prog 27 c27:= .code ⟨Tryd.f27,_,c27.code,Tryd.func27,rfl,by kernel_rfl,rfl,by kernel_rfl,by kernel_rfl⟩
/- strings.SplitSeq -/
def c28:AFun:=⟨
 .seq (.ops [⟨(some 4),none,.mov (.const .nilFunc)⟩] [0,1])
 (.seq (.ops [⟨(some 5),none,.mov (.tmp 0)⟩,
   ⟨(some 6),none,.mov (.tmp 1)⟩,
   ⟨(some 7),none,.callF 43 [(.tmp 5),(.tmp 6),(.const (.int .i64 0))]⟩,
   ⟨(some 4),none,.mov (.tmp 7)⟩] [4])
 (.ret)),
 8,[(4,none)],true⟩
theorem ok28:FunOK Tryd.prog 28 c28:= .code ⟨Tryd.f28,_,c28.code,Tryd.func28,rfl,by kernel_rfl,rfl,by kernel_rfl,by kernel_rfl⟩
/- slices.Sorted[int] -/
def c32:AFun:=⟨
 .seq (.ops [⟨(some 2),none,.mov (.const (.slice none 0 0))⟩] [0])
 (.seq (.ops [⟨(some 4),none,.mov (.tmp 0)⟩,
   ⟨(some 5),none,.callF 46 [(.tmp 4)]⟩,
   ⟨(some 3),none,.mov (.tmp 5)⟩] [3])
 (.seq (.ops [⟨(some 6),none,.mov (.tmp 3)⟩,
   ⟨(some 7),none,.callF 47 [(.tmp 6)]⟩] [3])
 (.seq (.ops [⟨(some 8),none,.mov (.tmp 3)⟩,
   ⟨(some 2),none,.mov (.tmp 8)⟩] [2])
 (.ret)))),
 9,[(2,none)],false⟩
theorem ok32:FunOK Tryd.prog 32 c32:= .code ⟨Tryd.f32,_,c32.code,Tryd.func32,rfl,by kernel_rfl,rfl,by kernel_rfl,by kernel_rfl⟩
/- slices.Values[[]int,int] -/
def c33:AFun:=⟨
 .seq (.ops [⟨(some 1),none,.box 22 (.tmp 0)⟩,
   ⟨(some 2),none,.mov (.const .nilFunc)⟩] [1])
 (.seq (.ops [⟨(some 3),none,.mkFn 48 [] [(.tmp 1)]⟩,
   ⟨(some 2),none,.mov (.tmp 3)⟩] [2])
 (.ret)),
 4,[(2,none)],true⟩
theorem ok33:FunOK Tryd.prog 33 c33:= .code ⟨Tryd.f33,_,c33.code,Tryd.func33,rfl,by kernel_rfl,rfl,by kernel_rfl,by kernel_rfl⟩
/- raddle/raddleref02.Numbered -/
def c35l0:AC:=
 .seq (.seq (.ops [⟨(some 8),none,.mov (.tmp 6)⟩,
     ⟨(some 9),none,.mov (.tmp 0)⟩,
     ⟨(some 10),none,.len false (.tmp 9)⟩,
     ⟨(some 11),none,.bin .lss (.tmp 8) (.tmp 10)⟩] [0,4,5,6,11])
   (.cond (.tmp 11)
    (.skip)
    (.exit 0)))
   (.seq (.block 1
    (.seq (.ops [⟨(some 14),none,.mov (.tmp 0)⟩,
      ⟨(some 15),none,.mov (.tmp 6)⟩,
      ⟨(some 16),none,.mov (.tmp 0)⟩,
      ⟨(some 17),none,.mov (.tmp 6)⟩,
      ⟨(some 18),none,.idxS 1 (.tmp 16) (.tmp 17)⟩,
      ⟨(some 19),none,.load none (.tmp 18)⟩,
      ⟨(some 20),none,.callF 49 [(.tmp 14),(.tmp 15),(.tmp 19)]⟩,
      ⟨(some 7),none,.mov (.tmp 20)⟩] [0,4,5,6,7])
    (.seq (.seq (.ops [⟨(some 21),none,.mov (.tmp 7)⟩,
      ⟨(some 22),none,.bin .geq (.tmp 21) (.const (.int .i64 0))⟩] [0,4,5,6,7,22])
    (.cond (.tmp 22)
     (.seq (.ops [⟨(some 23),none,.mov (.tmp 4)⟩,
       ⟨(some 24),none,.mov (.tmp 4)⟩,
       ⟨(some 25),none,.mov (.tmp 7)⟩,
       ⟨(some 26),none,.idxS 1 (.tmp 24) (.tmp 25)⟩,
       ⟨(some 27),none,.load none (.tmp 26)⟩,
       ⟨(some 28),none,.mkRow 3 1 1 [(.int .i64 0)] [(0,1,(.tmp 27))]⟩,
       ⟨(some 29),none,.app 3 1 8 (.tmp 23) (.tmp 28)⟩,
       ⟨(some 4),none,.mov (.tmp 29)⟩] [0,4,5,6])
     (.exit 1))
     (.skip)))
    (.seq (.ops [⟨(some 30),none,.mov (.tmp 4)⟩,
      ⟨(some 31),none,.mov (.tmp 5)⟩,
      ⟨(some 32),none,.mkRow 3 1 1 [(.int .i64 0)] [(0,1,(.tmp 31))]⟩,
      ⟨(some 33),none,.app 3 1 8 (.tmp 30) (.tmp 32)⟩,
      ⟨(some 4),none,.mov (.tmp 33)⟩] [0,4,5,6])
    (.ops [⟨(some 34),none,.mov (.tmp 5)⟩,
      ⟨(some 35),none,.bin .add (.tmp 34) (.const (.int .i64 1))⟩,
      ⟨(some 5),none,.mov (.tmp 35)⟩] [0,4,5,6])))))
   (.ops [⟨(some 12),none,.mov (.tmp 6)⟩,
     ⟨(some 13),none,.bin .add (.tmp 12) (.const (.int .i64 1))⟩,
     ⟨(some 6),none,.mov (.tmp 13)⟩] [0,4,5,6]))
def c35:AFun:=⟨
 .seq (.ops [⟨(some 2),none,.mov (.const (.slice none 0 0))⟩,
   ⟨(some 3),none,.mov (.const (.int .i64 0))⟩] [0])
 (.seq (.ops [⟨(some 4),none,.mov (.const (.slice none 0 0))⟩] [0,4])
 (.seq (.ops [⟨(some 5),none,.mov (.const (.int .i64 0))⟩] [0,4,5])
 (.seq (.seq (.ops [⟨(some 6),none,.mov (.const (.int .i64 0))⟩] [0,4,5,6])
 (.block 0
  (.loop [0,4,5,6]
   c35l0)))
 (.seq (.ops [⟨(some 36),none,.mov (.tmp 4)⟩,
   ⟨(some 37),none,.mov (.tmp 5)⟩,
   ⟨(some 2),none,.mov (.tmp 36)⟩,
   ⟨(some 3),none,.mov (.tmp 37)⟩] [2,3])
 (.ret))))),
 38,[(2,none),(3,none)],true⟩
theorem ok35:FunOK Tryd.prog 35 c35:= .code ⟨Tryd.f35,_,c35.code,Tryd.func35,rfl,by kernel_rfl,rfl,by kernel_rfl,by kernel_rfl⟩
/- raddle/raddleref02.Decimal -/
def c36l0:AC:=
 .seq (.seq (.ops [⟨(some 4),none,.mov (.tmp 0)⟩,
     ⟨(some 5),none,.bin .gtr (.tmp 4) (.const (.int .i64 9))⟩] [0,3,5])
   (.cond (.tmp 5)
    (.skip)
    (.exit 0)))
   (.block 1
    (.seq (.ops [⟨(some 6),none,.mov (.tmp 0)⟩,
      ⟨(some 7),none,.bin .rem (.tmp 6) (.const (.int .i64 10))⟩,
      ⟨(some 8),none,.bin .add (.const (.int .i64 48)) (.tmp 7)⟩,
      ⟨(some 9),none,.convI .u8 (.tmp 8)⟩,
      ⟨(some 10),none,.mkRow 5 1 1 [(.int .u8 0)] [(0,1,(.tmp 9))]⟩,
      ⟨(some 11),none,.b2s (.tmp 10)⟩,
      ⟨(some 12),none,.mov (.tmp 3)⟩,
      ⟨(some 13),none,.bin .add (.tmp 11) (.tmp 12)⟩,
      ⟨(some 3),none,.mov (.tmp 13)⟩] [0,3])
    (.ops [⟨(some 14),none,.mov (.tmp 0)⟩,
      ⟨(some 15),none,.bin .quo (.tmp 14) (.const (.int .i64 10))⟩,
      ⟨(some 0),none,.mov (.tmp 15)⟩] [0,3])))
def c36:AFun:=⟨
 .seq (.ops [⟨(some 2),none,.mov (.const (.string ⟨#[]⟩))⟩] [0])
 (.seq (.ops [⟨(some 3),none,.mov (.const (.string ⟨#[]⟩))⟩] [0,3])
 (.seq (.block 0
  (.loop [0,3]
   c36l0))
 (.seq (.ops [⟨(some 16),none,.mov (.tmp 0)⟩,
   ⟨(some 17),none,.bin .add (.const (.int .i64 48)) (.tmp 16)⟩,
   ⟨(some 18),none,.convI .u8 (.tmp 17)⟩,
   ⟨(some 19),none,.mkRow 5 1 1 [(.int .u8 0)] [(0,1,(.tmp 18))]⟩,
   ⟨(some 20),none,.b2s (.tmp 19)⟩,
   ⟨(some 21),none,.mov (.tmp 3)⟩,
   ⟨(some 22),none,.bin .add (.tmp 20) (.tmp 21)⟩,
   ⟨(some 2),none,.mov (.tmp 22)⟩] [2])
 (.ret)))),
 23,[(2,none)],true⟩
theorem ok36:FunOK Tryd.prog 36 c36:= .code ⟨Tryd.f36,_,c36.code,Tryd.func36,rfl,by kernel_rfl,rfl,by kernel_rfl,by kernel_rfl⟩
/- (*strings.Builder).copyCheck (1 operations that the interpreter lacks) -/
def c41:AFun:=⟨
 .seq (.ops [⟨(some 2),none,.mov (.tmp 0)⟩,
   ⟨(some 3),none,.nilChk (.tmp 2)⟩,
   ⟨(some 4),none,.fldA 0 (.tmp 3)⟩,
   ⟨(some 5),none,.load none (.tmp 4)⟩,
   ⟨(some 6),none,.eqNil 0 false (.tmp 5) (.const (.pointer none))⟩] [0,6])
 (.cond (.tmp 6)
  (.ops [⟨(some 7),none,.mov (.tmp 0)⟩,
    ⟨(some 8),none,.mov (.tmp 0)⟩,
    ⟨(some 9),none,.toUns (.tmp 8)⟩,
    ⟨(some 10),none,.callF 50 [(.tmp 9)]⟩,
    ⟨(some 11),none,.fromUns 50 2 (.tmp 10)⟩,
    ⟨(some 12),none,.nilChk (.tmp 7)⟩,
    ⟨(some 13),none,.fldA 0 (.tmp 12)⟩,
    ⟨none,none,.store 1 (.tmp 13) (.tmp 11)⟩] [])
  (.seq (.ops [⟨(some 14),none,.mov (.tmp 0)⟩,
    ⟨(some 15),none,.nilChk (.tmp 14)⟩,
    ⟨(some 16),none,.fldA 0 (.tmp 15)⟩,
    ⟨(some 17),none,.load none (.tmp 16)⟩,
    ⟨(some 18),none,.mov (.tmp 0)⟩,
    ⟨(some 19),none,.eqPtr true (.tmp 17) (.tmp 18)⟩] [19])
  (.cond (.tmp 19)
   (.bad)
   (.skip)))),
 20,[],false⟩
theorem ok41:FunOK Tryd.prog 41 c41:= .code ⟨Tryd.f41,_,c41.code,Tryd.func41,rfl,by kernel_rfl,rfl,by kernel_rfl,by kernel_rfl⟩
/- strings.splitSeq -/
def c43:AFun:=⟨
 .seq (.ops [⟨(some 3),none,.box 9 (.tmp 0)⟩,
   ⟨(some 4),none,.box 9 (.tmp 1)⟩,
   ⟨(some 5),none,.box 3 (.tmp 2)⟩,
   ⟨(some 6),none,.mov (.const .nilFunc)⟩] [3,4,5])
 (.seq (.ops [⟨(some 7),none,.mkFn 52 [] [(.tmp 4),(.tmp 3),(.tmp 5)]⟩,
   ⟨(some 6),none,.mov (.tmp 7)⟩] [6])
 (.ret)),
 8,[(6,none)],true⟩
theorem ok43:FunOK Tryd.prog 43 c43:= .code ⟨Tryd.f43,_,c43.code,Tryd.func43,rfl,by kernel_rfl,rfl,by kernel_rfl,by kernel_rfl⟩
/- slices.Collect[int] -/
def c46:AFun:=⟨
 .seq (.ops [⟨(some 2),none,.mov (.const (.slice none 0 0))⟩] [0])
 (.seq (.ops [⟨(some 3),none,.mov (.tmp 0)⟩,
   ⟨(some 4),none,.callF 60 [(.const (.slice none 0 0)),(.tmp 3)]⟩,
   ⟨(some 2),none,.mov (.tmp 4)⟩] [2])
 (.ret)),
 5,[(2,none)],false⟩
theorem ok46:FunOK Tryd.prog 46 c46:= .code ⟨Tryd.f46,_,c46.code,Tryd.func46,rfl,by kernel_rfl,rfl,by kernel_rfl,by kernel_rfl⟩
/- slices.Values[[]int,int]$1 -/
def c48l0:AC:=
 .seq (.ops [⟨(some 8),none,.bin .lss (.tmp 7) (.tmp 6)⟩] [0,5,6,7,8])
   (.seq (.cond (.tmp 8)
    (.skip)
    (.exit 0))
   (.seq (.block 1
    (.seq (.ops [⟨(some 9),none,.idxS 1 (.tmp 5) (.tmp 7)⟩,
      ⟨(some 10),none,.load none (.tmp 9)⟩,
      ⟨(some 4),none,.mov (.tmp 10)⟩] [0,4,5,6,7])
    (.seq (.ops [⟨(some 11),none,.mov (.tmp 0)⟩,
      ⟨(some 12),none,.mov (.tmp 4)⟩,
      ⟨(some 13),none,.callV (.tmp 11) [(.tmp 12)]⟩,
      ⟨(some 14),none,.un .not (.tmp 13)⟩] [0,5,6,7,14])
    (.cond (.tmp 14)
     (.ret)
     (.skip)))))
   (.ops [⟨(some 15),none,.bin .add (.tmp 7) (.const (.int .i64 1))⟩,
     ⟨(some 7),none,.mov (.tmp 15)⟩] [0,5,6,7])))
def c48:AFun:=⟨
 .seq (.ops [⟨(some 5),none,.load none (.tmp 1)⟩,
   ⟨(some 6),none,.len false (.tmp 5)⟩,
   ⟨(some 7),none,.mov (.const (.int .i64 0))⟩] [0,5,6,7])
 (.block 0
  (.loop [0,5,6,7]
   c48l0)),
 16,[],false⟩
theorem ok48:FunOK Tryd.prog 48 c48:= .code ⟨Tryd.f48,_,c48.code,Tryd.func48,rfl,by kernel_rfl,rfl,by kernel_rfl,by kernel_rfl⟩
/- raddle/raddleref02.Place -/
def c49l0:AC:=
 .seq (.seq (.ops [⟨(some 8),none,.mov (.tmp 7)⟩,
     ⟨(some 9),none,.mov (.tmp 1)⟩,
     ⟨(some 10),none,.bin .lss (.tmp 8) (.tmp 9)⟩] [0,1,2,7,10])
   (.cond (.tmp 10)
    (.skip)
    (.exit 0)))
   (.seq (.block 1
    (.seq (.ops [⟨(some 13),none,.mov (.tmp 0)⟩,
      ⟨(some 14),none,.mov (.tmp 7)⟩,
      ⟨(some 15),none,.idxS 1 (.tmp 13) (.tmp 14)⟩,
      ⟨(some 16),none,.load none (.tmp 15)⟩,
      ⟨(some 17),none,.mov (.tmp 2)⟩,
      ⟨(some 18),none,.bin .eql (.tmp 16) (.tmp 17)⟩] [0,1,2,7,18])
    (.cond (.tmp 18)
     (.seq (.ops [⟨(some 19),none,.mov (.tmp 7)⟩,
       ⟨(some 6),none,.mov (.tmp 19)⟩] [6])
     (.ret))
     (.skip))))
   (.ops [⟨(some 11),none,.mov (.tmp 7)⟩,
     ⟨(some 12),none,.bin .add (.tmp 11) (.const (.int .i64 1))⟩,
     ⟨(some 7),none,.mov (.tmp 12)⟩] [0,1,2,7]))
def c49:AFun:=⟨
 .seq (.ops [⟨(some 6),none,.mov (.const (.int .i64 0))⟩] [0,1,2])
 (.seq (.seq (.ops [⟨(some 7),none,.mov (.const (.int .i64 0))⟩] [0,1,2,7])
 (.block 0
  (.loop [0,1,2,7]
   c49l0)))
 (.seq (.ops [⟨(some 6),none,.mov (.const (.int .i64 (-1)))⟩] [6])
 (.ret))),
 20,[(6,none)],true⟩
theorem ok49:FunOK Tryd.prog 49 c49:= .code ⟨Tryd.f49,_,c49.code,Tryd.func49,rfl,by kernel_rfl,rfl,by kernel_rfl,by kernel_rfl⟩
/- strings.splitSeq$1 -/
def c52l0:AC:=
 .block 3
    (.seq (.ops [⟨(some 29),none,.load none (.tmp 2)⟩,
      ⟨(some 30),none,.load none (.tmp 1)⟩,
      ⟨(some 31),none,.callF 54 [(.tmp 29),(.tmp 30)]⟩,
      ⟨(some 7),none,.mov (.tmp 31)⟩] [0,1,2,3,7])
    (.seq (.seq (.ops [⟨(some 32),none,.mov (.tmp 7)⟩,
      ⟨(some 33),none,.bin .lss (.tmp 32) (.const (.int .i64 0))⟩] [0,1,2,3,7,33])
    (.cond (.tmp 33)
     (.exit 2)
     (.skip)))
    (.seq (.ops [⟨(some 34),none,.load none (.tmp 2)⟩,
      ⟨(some 35),none,.mov (.tmp 7)⟩,
      ⟨(some 36),none,.load none (.tmp 3)⟩,
      ⟨(some 37),none,.bin .add (.tmp 35) (.tmp 36)⟩,
      ⟨(some 38),none,.slcS (.tmp 34) none (some (.tmp 37))⟩,
      ⟨(some 8),none,.mov (.tmp 38)⟩] [0,1,2,3,7,8])
    (.seq (.seq (.ops [⟨(some 39),none,.mov (.tmp 0)⟩,
      ⟨(some 40),none,.mov (.tmp 8)⟩,
      ⟨(some 41),none,.callV (.tmp 39) [(.tmp 40)]⟩,
      ⟨(some 42),none,.un .not (.tmp 41)⟩] [0,1,2,3,7,42])
    (.cond (.tmp 42)
     (.ret)
     (.skip)))
    (.ops [⟨(some 43),none,.load none (.tmp 2)⟩,
      ⟨(some 44),none,.mov (.tmp 7)⟩,
      ⟨(some 45),none,.load none (.tmp 1)⟩,
      ⟨(some 46),none,.len true (.tmp 45)⟩,
      ⟨(some 47),none,.bin .add (.tmp 44) (.tmp 46)⟩,
      ⟨(some 48),none,.slcS (.tmp 43) (some (.tmp 47)) none⟩,
      ⟨none,none,.store 1 (.tmp 2) (.tmp 48)⟩] [0,1,2,3])))))
def c52l1:AC:=
 .seq (.seq (.ops [⟨(some 12),none,.load none (.tmp 2)⟩,
      ⟨(some 13),none,.len true (.tmp 12)⟩,
      ⟨(some 14),none,.bin .gtr (.tmp 13) (.const (.int .i64 0))⟩] [0,2,14])
    (.cond (.tmp 14)
     (.skip)
     (.exit 0)))
    (.block 1
     (.seq (.ops [⟨(some 16),none,.load none (.tmp 2)⟩,
       ⟨(some 17),none,.callF 53 [(.tmp 16)]⟩,
       ⟨(some 15),none,.mov (.tmp 17)⟩,
       ⟨(some 18),none,.ext (.tmp 15) 0⟩,
       ⟨(some 19),none,.ext (.tmp 15) 1⟩,
       ⟨(some 5),none,.mov (.tmp 18)⟩,
       ⟨(some 6),none,.mov (.tmp 19)⟩] [0,2,6])
     (.seq (.seq (.ops [⟨(some 20),none,.mov (.tmp 0)⟩,
       ⟨(some 21),none,.load none (.tmp 2)⟩,
       ⟨(some 22),none,.mov (.tmp 6)⟩,
       ⟨(some 23),none,.slcS (.tmp 21) none (some (.tmp 22))⟩,
       ⟨(some 24),none,.callV (.tmp 20) [(.tmp 23)]⟩,
       ⟨(some 25),none,.un .not (.tmp 24)⟩] [0,2,6,25])
     (.cond (.tmp 25)
      (.ret)
      (.skip)))
     (.ops [⟨(some 26),none,.load none (.tmp 2)⟩,
       ⟨(some 27),none,.mov (.tmp 6)⟩,
       ⟨(some 28),none,.slcS (.tmp 26) (some (.tmp 27)) none⟩,
       ⟨none,none,.store 1 (.tmp 2) (.tmp 28)⟩] [0,2]))))
def c52:AFun:=⟨
 .seq (.seq (.ops [⟨(some 9),none,.load none (.tmp 1)⟩,
   ⟨(some 10),none,.len true (.tmp 9)⟩,
   ⟨(some 11),none,.bin .eql (.tmp 10) (.const (.int .i64 0))⟩] [0,1,2,3,11])
 (.cond (.tmp 11)
  (.seq (.block 0
   (.loop [0,2]
    c52l1))
  (.ret))
  (.skip)))
 (.seq (.block 2
  (.loop [0,1,2,3]
   c52l0))
 (.ops [⟨(some 49),none,.mov (.tmp 0)⟩,
   ⟨(some 50),none,.load none (.tmp 2)⟩,
   ⟨(some 51),none,.callV (.tmp 49) [(.tmp 50)]⟩] [])),
 52,[],false⟩
theorem ok52:FunOK Tryd.prog 52 c52:= .code ⟨Tryd.f52,_,c52.code,Tryd.func52,rfl,by kernel_rfl,rfl,by kernel_rfl,by kernel_rfl⟩
/- strings.Index -/
def c54:AFun:=⟨
 .seq (.ops [⟨(some 4),none,.mov (.const (.int .i64 0))⟩] [0,1])
 (.seq (.ops [⟨(some 5),none,.mov (.tmp 0)⟩,
   ⟨(some 6),none,.mov (.tmp 1)⟩,
   ⟨(some 7),none,.callF 68 [(.tmp 5),(.tmp 6)]⟩,
   ⟨(some 4),none,.mov (.tmp 7)⟩] [4])
 (.ret)),
 8,[(4,none)],true⟩
theorem ok54:FunOK Tryd.prog 54 c54:= .code ⟨Tryd.f54,_,c54.code,Tryd.func54,rfl,by kernel_rfl,rfl,by kernel_rfl,by kernel_rfl⟩
/- slices.AppendSeq[[]int,int] -/
def c60a0:AC:=
 (.ops [⟨(some 5),none,.mov (.tmp 7)⟩] [2,5])
def c60b0:AC:=
 (.block 1
    (.ops [⟨(some 8),none,.load none (.tmp 2)⟩,
      ⟨(some 9),none,.mov (.tmp 5)⟩,
      ⟨(some 10),none,.mkRow 3 1 1 [(.int .i64 0)] [(0,1,(.tmp 9))]⟩,
      ⟨(some 11),none,.app 3 1 8 (.tmp 8) (.tmp 10)⟩,
      ⟨none,none,.store 1 (.tmp 2) (.tmp 11)⟩] []))
def c60:AFun:=⟨
 .seq (.ops [⟨(some 2),none,.box 22 (.tmp 0)⟩,
   ⟨(some 4),none,.mov (.const (.slice none 0 0))⟩] [1,2,4])
 (.seq (.seq (.ops [⟨(some 6),none,.mov (.tmp 1)⟩] [2,4,6])
 (.block 0
  (.rangeF (.tmp 6) [7] [2,4]
   c60a0 c60b0)))
 (.seq (.ops [⟨(some 12),none,.load none (.tmp 2)⟩,
   ⟨(some 4),none,.mov (.tmp 12)⟩] [4])
 (.ret))),
 13,[(4,none)],false⟩
theorem ok60:FunOK Tryd.prog 60 c60:= .code ⟨Tryd.f60,_,c60.code,Tryd.func60,rfl,by kernel_rfl,rfl,by kernel_rfl,by kernel_rfl⟩
/- internal/stringslite.Index -/
def c68l0:AC:=
 .seq (.seq (.ops [⟨(some 57),none,.mov (.tmp 8)⟩,
     ⟨(some 58),none,.mov (.tmp 9)⟩,
     ⟨(some 59),none,.bin .lss (.tmp 57) (.tmp 58)⟩] [0,1,5,6,7,8,9,10,59])
   (.cond (.tmp 59)
    (.skip)
    (.exit 1)))
   (.block 2
    (.seq (.seq (.ops [⟨(some 60),none,.mov (.tmp 0)⟩,
      ⟨(some 61),none,.mov (.tmp 8)⟩,
      ⟨(some 62),none,.idxStr (.tmp 60) (.tmp 61)⟩,
      ⟨(some 63),none,.mov (.tmp 6)⟩,
      ⟨(some 64),none,.bin .neq (.tmp 62) (.tmp 63)⟩] [0,1,5,6,7,8,9,10,64])
    (.cond (.tmp 64)
     (.seq (.ops [⟨(some 65),none,.mov (.tmp 0)⟩,
       ⟨(some 66),none,.mov (.tmp 8)⟩,
       ⟨(some 67),none,.bin .add (.tmp 66) (.const (.int .i64 1))⟩,
       ⟨(some 68),none,.mov (.tmp 9)⟩,
       ⟨(some 69),none,.slcS (.tmp 65) (some (.tmp 67)) (some (.tmp 68))⟩,
       ⟨(some 70),none,.mov (.tmp 6)⟩,
       ⟨(some 71),none,.callF 87 [(.tmp 69),(.tmp 70)]⟩,
       ⟨(some 11),none,.mov (.tmp 71)⟩] [0,1,5,6,7,8,9,10,11])
     (.seq (.seq (.ops [⟨(some 72),none,.mov (.tmp 11)⟩,
       ⟨(some 73),none,.bin .lss (.tmp 72) (.const (.int .i64 0))⟩] [0,1,5,6,7,8,9,10,11,73])
     (.cond (.tmp 73)
      (.seq (.ops [⟨(some 4),none,.mov (.const (.int .i64 (-1)))⟩] [4])
      (.ret))
      (.skip)))
     (.ops [⟨(some 74),none,.mov (.tmp 8)⟩,
       ⟨(some 75),none,.mov (.tmp 11)⟩,
       ⟨(some 76),none,.bin .add (.tmp 75) (.const (.int .i64 1))⟩,
       ⟨(some 77),none,.bin .add (.tmp 74) (.tmp 76)⟩,
       ⟨(some 8),none,.mov (.tmp 77)⟩] [0,1,5,6,7,8,9,10])))
     (.skip)))
    (.seq (.seq (.ops [⟨(some 78),none,.mov (.tmp 0)⟩,
      ⟨(some 79),none,.mov (.tmp 8)⟩,
      ⟨(some 80),none,.bin .add (.tmp 79) (.const (.int .i64 1))⟩,
      ⟨(some 81),none,.idxStr (.tmp 78) (.tmp 80)⟩,
      ⟨(some 82),none,.mov (.tmp 7)⟩,
      ⟨(some 83),none,.bin .eql (.tmp 81) (.tmp 82)⟩,
      ⟨(some 84),none,.mov (.tmp 83)⟩,
      ⟨(some 85),(some (84,true)),.mov (.tmp 0)⟩,
      ⟨(some 86),(some (84,true)),.mov (.tmp 8)⟩,
      ⟨(some 87),(some (84,true)),.mov (.tmp 8)⟩,
      ⟨(some 88),(some (84,true)),.mov (.tmp 5)⟩,
      ⟨(some 89),(some (84,true)),.bin .add (.tmp 87) (.tmp 88)⟩,
      ⟨(some 90),(some (84,true)),.slcS (.tmp 85) (some (.tmp 86)) (some (.tmp 89))⟩,
      ⟨(some 91),(some (84,true)),.mov (.tmp 1)⟩,
      ⟨(some 92),(some (84,true)),.bin .eql (.tmp 90) (.tmp 91)⟩,
      ⟨(some 93),none,.pick (.tmp 84) (.tmp 92) (.const (.bool false))⟩] [0,1,5,6,7,8,9,10,93])
    (.cond (.tmp 93)
     (.seq (.ops [⟨(some 94),none,.mov (.tmp 8)⟩,
       ⟨(some 4),none,.mov (.tmp 94)⟩] [4])
     (.ret))
     (.skip)))
    (.seq (.ops [⟨(some 95),none,.mov (.tmp 8)⟩,
      ⟨(some 96),none,.bin .add (.tmp 95) (.const (.int .i64 1))⟩,
      ⟨(some 8),none,.mov (.tmp 96)⟩] [0,1,5,6,7,8,9,10])
    (.seq (.ops [⟨(some 97),none,.mov (.tmp 10)⟩,
      ⟨(some 98),none,.bin .add (.tmp 97) (.const (.int .i64 1))⟩,
      ⟨(some 10),none,.mov (.tmp 98)⟩] [0,1,5,6,7,8,9,10])
    (.seq (.ops [⟨(some 99),none,.mov (.tmp 5)⟩,
      ⟨(some 100),none,.load none (.global 5)⟩,
      ⟨(some 101),none,.bin .leq (.tmp 99) (.tmp 100)⟩,
      ⟨(some 102),none,.mov (.tmp 101)⟩,
      ⟨(some 103),(some (102,true)),.mov (.tmp 10)⟩,
      ⟨(some 104),(some (102,true)),.mov (.tmp 8)⟩,
      ⟨(some 105),(some (102,true)),.callF 89 [(.tmp 104)]⟩,
      ⟨(some 106),(some (102,true)),.bin .gtr (.tmp 103) (.tmp 105)⟩,
      ⟨(some 107),none,.pick (.tmp 102) (.tmp 106) (.const (.bool false))⟩] [0,1,5,6,7,8,9,10,107])
    (.cond (.tmp 107)
     (.seq (.ops [⟨(some 108),none,.mov (.tmp 0)⟩,
       ⟨(some 109),none,.mov (.tmp 8)⟩,
       ⟨(some 110),none,.slcS (.tmp 108) (some (.tmp 109)) none⟩,
       ⟨(some 111),none,.mov (.tmp 1)⟩,
       ⟨(some 112),none,.callF 88 [(.tmp 110),(.tmp 111)]⟩,
       ⟨(some 12),none,.mov (.tmp 112)⟩] [8,12])
     (.seq (.seq (.ops [⟨(some 113),none,.mov (.tmp 12)⟩,
       ⟨(some 114),none,.bin .geq (.tmp 113) (.const (.int .i64 0))⟩] [8,12,114])
     (.cond (.tmp 114)
      (.seq (.ops [⟨(some 115),none,.mov (.tmp 12)⟩,
        ⟨(some 116),none,.mov (.tmp 8)⟩,
        ⟨(some 117),none,.bin .add (.tmp 115) (.tmp 116)⟩,
        ⟨(some 4),none,.mov (.tmp 117)⟩] [4])
      (.ret))
      (.skip)))
     (.seq (.ops [⟨(some 4),none,.mov (.const (.int .i64 (-1)))⟩] [4])
     (.ret))))
     (.seq (.ops [⟨(some 118),none,.mov (.tmp 5)⟩,
       ⟨(some 119),none,.load none (.global 5)⟩,
       ⟨(some 120),none,.bin .gtr (.tmp 118) (.tmp 119)⟩,
       ⟨(some 121),none,.mov (.tmp 120)⟩,
       ⟨(some 122),(some (121,true)),.mov (.tmp 10)⟩,
       ⟨(some 123),(some (121,true)),.mov (.tmp 8)⟩,
       ⟨(some 124),(some (121,true)),.bin .shr (.tmp 123) (.const (.int .u64 4))⟩,
       ⟨(some 125),(some (121,true)),.bin .add (.const (.int .i64 4)) (.tmp 124)⟩,
       ⟨(some 126),(some (121,true)),.bin .geq (.tmp 122) (.tmp 125)⟩,
       ⟨(some 127),none,.pick (.tmp 121) (.tmp 126) (.const (.bool false))⟩,
       ⟨(some 128),none,.mov (.tmp 127)⟩,
       ⟨(some 129),(some (128,true)),.mov (.tmp 8)⟩,
       ⟨(some 130),(some (128,true)),.mov (.tmp 9)⟩,
       ⟨(some 131),(some (128,true)),.bin .lss (.tmp 129) (.tmp 130)⟩,
       ⟨(some 132),none,.pick (.tmp 128) (.tmp 131) (.const (.bool false))⟩] [0,1,5,6,7,8,9,10,132])
     (.cond (.tmp 132)
      (.seq (.ops [⟨(some 133),none,.mov (.tmp 0)⟩,
        ⟨(some 134),none,.mov (.tmp 8)⟩,
        ⟨(some 135),none,.slcS (.tmp 133) (some (.tmp 134)) none⟩,
        ⟨(some 136),none,.mov (.tmp 1)⟩,
        ⟨(some 137),none,.callF 90 [(.tmp 135),(.tmp 136)]⟩,
        ⟨(some 13),none,.mov (.tmp 137)⟩] [8,13])
      (.seq (.seq (.ops [⟨(some 138),none,.mov (.tmp 13)⟩,
        ⟨(some 139),none,.bin .lss (.tmp 138) (.const (.int .i64 0))⟩] [8,13,139])
      (.cond (.tmp 139)
       (.seq (.ops [⟨(some 4),none,.mov (.const (.int .i64 (-1)))⟩] [4])
       (.ret))
       (.skip)))
      (.seq (.ops [⟨(some 140),none,.mov (.tmp 8)⟩,
        ⟨(some 141),none,.mov (.tmp 13)⟩,
        ⟨(some 142),none,.bin .add (.tmp 140) (.tmp 141)⟩,
        ⟨(some 4),none,.mov (.tmp 142)⟩] [4])
      (.ret))))
      (.skip))))))))))
def c68:AFun:=⟨
 .seq (.ops [⟨(some 4),none,.mov (.const (.int .i64 0))⟩] [0,1])
 (.seq (.ops [⟨(some 14),none,.mov (.tmp 1)⟩,
   ⟨(some 15),none,.len true (.tmp 14)⟩,
   ⟨(some 5),none,.mov (.tmp 15)⟩] [0,1,5])
 (.seq (.block 0
  (.seq (.ops [⟨(some 17),none,.mov (.tmp 5)⟩,
    ⟨(some 18),none,.bin .eql (.tmp 17) (.const (.int .i64 0))⟩,
    ⟨(some 19),none,.mov (.tmp 18)⟩,
    ⟨(some 20),(some (19,false)),.mov (.tmp 1)⟩,
    ⟨(some 21),(some (19,false)),.mov (.tmp 0)⟩,
    ⟨(some 22),(some (19,false)),.bin .eql (.tmp 20) (.tmp 21)⟩,
    ⟨(some 23),none,.pick (.tmp 19) (.const (.bool true)) (.tmp 22)⟩,
    ⟨(some 16),none,.mov (.tmp 23)⟩] [0,1,5,16])
  (.cond (.tmp 16)
   (.seq (.ops [⟨(some 4),none,.mov (.const (.int .i64 0))⟩] [4])
   (.ret))
   (.seq (.ops [⟨(some 25),none,.mov (.tmp 5)⟩,
     ⟨(some 26),none,.bin .eql (.tmp 25) (.const (.int .i64 1))⟩,
     ⟨(some 24),none,.mov (.tmp 26)⟩] [0,1,5,24])
   (.cond (.tmp 24)
    (.seq (.ops [⟨(some 27),none,.mov (.tmp 0)⟩,
      ⟨(some 28),none,.mov (.tmp 1)⟩,
      ⟨(some 29),none,.idxStr (.tmp 28) (.const (.int .i64 0))⟩,
      ⟨(some 30),none,.callF 87 [(.tmp 27),(.tmp 29)]⟩,
      ⟨(some 4),none,.mov (.tmp 30)⟩] [4])
    (.ret))
    (.seq (.ops [⟨(some 32),none,.mov (.tmp 5)⟩,
      ⟨(some 33),none,.mov (.tmp 0)⟩,
      ⟨(some 34),none,.len true (.tmp 33)⟩,
      ⟨(some 35),none,.bin .geq (.tmp 32) (.tmp 34)⟩,
      ⟨(some 31),none,.mov (.tmp 35)⟩] [0,1,5,31])
    (.cond (.tmp 31)
     (.seq (.ops [⟨(some 4),none,.mov (.const (.int .i64 (-1)))⟩] [4])
     (.ret))
     (.seq (.ops [⟨(some 37),none,.mov (.tmp 5)⟩,
       ⟨(some 38),none,.load none (.global 5)⟩,
       ⟨(some 39),none,.bin .leq (.tmp 37) (.tmp 38)⟩,
       ⟨(some 40),none,.mov (.tmp 39)⟩,
       ⟨(some 41),(some (40,true)),.mov (.tmp 0)⟩,
       ⟨(some 42),(some (40,true)),.len true (.tmp 41)⟩,
       ⟨(some 43),(some (40,true)),.bin .leq (.tmp 42) (.const (.int .i64 64))⟩,
       ⟨(some 44),none,.pick (.tmp 40) (.tmp 43) (.const (.bool false))⟩,
       ⟨(some 36),none,.mov (.tmp 44)⟩] [0,1,5,36])
     (.cond (.tmp 36)
      (.seq (.ops [⟨(some 45),none,.mov (.tmp 0)⟩,
        ⟨(some 46),none,.mov (.tmp 1)⟩,
        ⟨(some 47),none,.callF 88 [(.tmp 45),(.tmp 46)]⟩,
        ⟨(some 4),none,.mov (.tmp 47)⟩] [4])
      (.ret))
      (.skip))))))))))
 (.seq (.ops [⟨(some 48),none,.mov (.tmp 1)⟩,
   ⟨(some 49),none,.idxStr (.tmp 48) (.const (.int .i64 0))⟩,
   ⟨(some 6),none,.mov (.tmp 49)⟩] [0,1,5,6])
 (.seq (.ops [⟨(some 50),none,.mov (.tmp 1)⟩,
   ⟨(some 51),none,.idxStr (.tmp 50) (.const (.int .i64 1))⟩,
   ⟨(some 7),none,.mov (.tmp 51)⟩] [0,1,5,6,7])
 (.seq (.ops [⟨(some 8),none,.mov (.const (.int .i64 0))⟩] [0,1,5,6,7,8])
 (.seq (.ops [⟨(some 52),none,.mov (.tmp 0)⟩,
   ⟨(some 53),none,.len true (.tmp 52)⟩,
   ⟨(some 54),none,.mov (.tmp 5)⟩,
   ⟨(some 55),none,.bin .sub (.tmp 53) (.tmp 54)⟩,
   ⟨(some 56),none,.bin .add (.tmp 55) (.const (.int .i64 1))⟩,
   ⟨(some 9),none,.mov (.tmp 56)⟩] [0,1,5,6,7,8,9])
 (.seq (.ops [⟨(some 10),none,.mov (.const (.int .i64 0))⟩] [0,1,5,6,7,8,9,10])
 (.seq (.block 1
  (.loop [0,1,5,6,7,8,9,10]
   c68l0))
 (.seq (.ops [⟨(some 4),none,.mov (.const (.int .i64 (-1)))⟩] [4])
 (.ret)))))))))),
 143,[(4,none)],true⟩
theorem ok68:FunOK Tryd.prog 68 c68:= .code ⟨Tryd.f68,_,c68.code,Tryd.func68,rfl,by kernel_rfl,rfl,by kernel_rfl,by kernel_rfl⟩
/- internal/stringslite.IndexByte -/
def c87:AFun:=⟨
 .seq (.ops [⟨(some 4),none,.mov (.const (.int .i64 0))⟩] [0,1])
 (.seq (.ops [⟨(some 5),none,.mov (.tmp 0)⟩,
   ⟨(some 6),none,.mov (.tmp 1)⟩,
   ⟨(some 7),none,.callF 101 [(.tmp 5),(.tmp 6)]⟩,
   ⟨(some 4),none,.mov (.tmp 7)⟩] [4])
 (.ret)),
 8,[(4,none)],true⟩
theorem ok87:FunOK Tryd.prog 87 c87:= .code ⟨Tryd.f87,_,c87.code,Tryd.func87,rfl,by kernel_rfl,rfl,by kernel_rfl,by kernel_rfl⟩
/- internal/bytealg.Cutover -/
def c89:AFun:=⟨
 .seq (.ops [⟨(some 2),none,.mov (.const (.int .i64 0))⟩] [0])
 (.seq (.ops [⟨(some 3),none,.mov (.tmp 0)⟩,
   ⟨(some 4),none,.bin .add (.tmp 3) (.const (.int .i64 16))⟩,
   ⟨(some 5),none,.bin .quo (.tmp 4) (.const (.int .i64 8))⟩,
   ⟨(some 2),none,.mov (.tmp 5)⟩] [2])
 (.ret)),
 6,[(2,none)],true⟩
theorem ok89:FunOK Tryd.prog 89 c89:= .code ⟨Tryd.f89,_,c89.code,Tryd.func89,rfl,by kernel_rfl,rfl,by kernel_rfl,by kernel_rfl⟩
/- of the library -/
def c47:AFun:=⟨libCode 0,1,libRes 0,false⟩
theorem ok47:FunOK Tryd.prog 47 c47:= .lib 0 ⟨Tryd.f47,_,Tryd.func47,rfl,by kernel_rfl⟩ rfl sort_fact
/- of the library -/
def c34:AFun:=⟨libCode 1,1,libRes 1,false⟩
theorem ok34:FunOK Tryd.prog 34 c34:= .lib 1 ⟨Tryd.f34,_,Tryd.func34,rfl,by kernel_rfl⟩ rfl compact_fact
def fns:FuncId→Option AFun
 |4=>some c4
 |8=>some c8
 |9=>some c9
 |10=>some c10
 |12=>some c12
 |13=>some c13
 |14=>some c14
 |15=>some c15
 |16=>some c16
 |17=>some c17
 |18=>some c18
 |24=>some c24
 |25=>some c25
 |27=>some c27
 |28=>some c28
 |32=>some c32
 |33=>some c33
 |35=>some c35
 |36=>some c36
 |41=>some c41
 |43=>some c43
 |46=>some c46
 |48=>some c48
 |49=>some c49
 |52=>some c52
 |54=>some c54
 |60=>some c60
 |68=>some c68
 |87=>some c87
 |89=>some c89
 |47=>some c47
 |34=>some c34
 |_=>none
theorem fns_ok:FunsOK Tryd.prog fns:=by
 intro f af h
 unfold fns at h
 split at h
 ·cases h;exact ok4
 ·cases h;exact ok8
 ·cases h;exact ok9
 ·cases h;exact ok10
 ·cases h;exact ok12
 ·cases h;exact ok13
 ·cases h;exact ok14
 ·cases h;exact ok15
 ·cases h;exact ok16
 ·cases h;exact ok17
 ·cases h;exact ok18
 ·cases h;exact ok24
 ·cases h;exact ok25
 ·cases h;exact ok27
 ·cases h;exact ok28
 ·cases h;exact ok32
 ·cases h;exact ok33
 ·cases h;exact ok35
 ·cases h;exact ok36
 ·cases h;exact ok41
 ·cases h;exact ok43
 ·cases h;exact ok46
 ·cases h;exact ok48
 ·cases h;exact ok49
 ·cases h;exact ok52
 ·cases h;exact ok54
 ·cases h;exact ok60
 ·cases h;exact ok68
 ·cases h;exact ok87
 ·cases h;exact ok89
 ·cases h;exact ok47
 ·cases h;exact ok34
 ·cases h
end Go.Proofs.YtkjkiodoighgnaaDoor
namespace Go.Proofs.YtkjkiodoighgnaaDoor
open Go Go.Itp
open Go.RowKit (Below)
set_option linter.unusedVariables false
set_option maxRecDepth 100000
theorem own:ownKnob Tryd.prog.godebug=none:=by kernel_rfl
theorem mixed:Tryd.prog.follows .mixedOrders=true:=by kernel_rfl
def prims0:List (FuncId × Prim × TypeId):= [(50,.same,0),(101,.indexByte,0)]
theorem prims_all:AllPrims Tryd.prog prims0:=
 ⟨⟨⟨Tryd.f50,Tryd.func50,by kernel_rfl,by kernel_rfl,by kernel_rfl,rfl⟩⟩,⟨⟨Tryd.f101,Tryd.func101,by kernel_rfl,by kernel_rfl,by kernel_rfl,rfl⟩⟩,trivial⟩
noncomputable abbrev PR (w:World):FuncId→List Value→St→Option (Value × List Blk):=
 orElseP (primsOf prims0) (orElseP (itoaP 26) (atoiP 29 87 104 (errO Tryd.prog w "strconv.ErrSyntax") (errO Tryd.prog w "strconv.ErrRange")))
noncomputable abbrev EN (w:World) (n:Nat):Env:=callP (oldOf w) many fns (PR w) n
abbrev Tab (w:World):Prop:=Lib.TabIs Tryd.prog w "internal/strconv.uint64pow10" .u64 Lib.pow10Tab
theorem prims_ok (W:World) (ht:Tab W):PrimsOK Tryd.prog (PR W) W:=
 orElse_ok (primsOf_ok prims0 prims_all W) (orElse_ok
  (itoaP_ok ⟨Tryd.f26,_,Tryd.func26,rfl,by kernel_rfl⟩ ht Tryd.strconv_Itoa)
  (atoiP_ok (u8:=5) ⟨Tryd.f29,_,Tryd.func29,rfl,by kernel_rfl⟩ Tryd.strconv_Atoi_ok Tryd.strconv_Atoi_syntax_var Tryd.strconv_Atoi_range_var))
theorem law_of {W:World} (ht:Tab W) {f:FuncId} {af:AFun} (hf:fns f=some af) {xs:List Value} (hxs:idsL 0 xs= []) (n:Nat) {v:Value} {s':St} (hb:body (EN W n) af xs St.empty=some (v,s')) (hv:ids 0 v= []):
  Calls Tryd.prog f xs.toArray W fun e w'=>e= .returned v∧Below W.heap.size W w':=
 law_at mixed fns_ok (oldOf_ok W) (prims_ok W ht) hf hxs n hb hv
theorem itoa_s (w:World) (n:Nat) (st:VSt) (k:Int) (h0: -9223372036854775808≤k) (h1:k≤9223372036854775807):VSpecO (EN w (n+1)) 26 st [.sc (.int .i64 k)] (.sc (.string ⟨(Lib.itoa k).toArray⟩)):=
 itoa_o h0 h1 fun xs s r h=>orElse_right rfl (orElse_left h)
theorem atoi_s (w:World) (n:Nat) (st:VSt) (b:ByteArray) (v:Int) (hb:b.size≤281474976710656) (h:Lib.atoiAll b.data.toList= .ok v):VSpecO (EN w (n+1)) 29 st [.sc (.string b)] (.tup [.sc (.int .i64 v),.sc .nilIface]):=
 atoi_o hb h fun xs s r h=>orElse_right rfl (orElse_right rfl h)
theorem atoi_f (w:World) (n:Nat) (b:ByteArray) (hb:b.size≤281474976710656) (hes:(errO Tryd.prog w "strconv.ErrSyntax").isSome=true) (her:(errO Tryd.prog w "strconv.ErrRange").isSome=true) (h:∀ v,Lib.atoiAll b.data.toList ≠ .ok v):
  ∃ (k:Int) (cs:List Value),VSpec (EN w (n+1)) 29 [.sc (.string b)] (.tup [.sc (.int .i64 k),.ifc 87 (.ptr 0 0)]) ⟨[(0,.box 104 1 (cs.map V.sc))],1,0⟩:=
 atoi_e hb (errO_ok hes) (errO_ok her) h fun xs s r h=>orElse_right rfl (orElse_right rfl h)
end Go.Proofs.YtkjkiodoighgnaaDoor
namespace Go.Proofs.YtkjkiodoighgnaaDoor
open Go Go.Itp
set_option maxRecDepth 100000
set_option maxHeartbeats 1000000
set_option linter.unusedSimpArgs false
def rowD (p:Nat × List Int):D:= .sl p.1 p.2.length (p.2.map iD)
theorem rowD_dv (p:Nat × List Int):dv (rowD p)= .sl p.1 p.2.length (p.2.map iD):=(rfl)
def col (x:Int):Bool:=decide (0≤x) && decide (x<400)
def chk (l:List Int):Int:=if 400<l.length then 4 else if l.all col then 0 else 8
def chkL:List (Nat × List Int)→Int
 | []=>0
 |p::r=>if chk p.2=0 then chkL r else chk p.2
theorem chkL_step {L:List (Nat × List Int)} {k:Nat} (hk:k<L.length):chkL (L.drop k)=if chk L[k]!.2=0 then chkL (L.drop (k+1)) else chk L[k]!.2:=by
 rw[List.drop_eq_getElem_cons hk,getElem!_pos L k hk]
 rfl
theorem all_end {l:List Int} (h:∀ j,j<l.length→col l[j]! =true):l.all col=true:=by
 rw[List.all_eq_true]
 intro x hx
 obtain ⟨j,hj,rfl⟩:=List.getElem_of_mem hx
 have:=h j hj
 rwa [getElem!_pos l j hj] at this
theorem all_at {l:List Int} {k:Nat} (hk:k<l.length) (h2:col l[k]! =false):l.all col=false:=by
 rw[← Bool.not_eq_true,List.all_eq_true]
 intro h
 rw[getElem!_pos l k hk] at h2
 rw[h _ (List.getElem_mem hk)] at h2
 cases h2
theorem eq_of_all {a l:List Int} (h:a.length=l.length) (ha:∀ j,j<l.length→a[j]! =l[j]!):a=l:=by
 refine List.ext_getElem h fun i h1 h2=>?_
 have:=ha i h2
 rwa [getElem!_pos a i h1,getElem!_pos l i h2] at this
def greatF (l:List Int):Bool:=(decide (60<l.length) && decide (l.length≤400))||decide (420<l.length)
section
variable (w:World) (n:Nat)
theorem great_p (s:Nat) (l:List Int) (hl:l.length≤140737488351232):VSpec (EN w (n+1)) 12 [.sl s l.length (l.map iD)] (.sc (.bool (greatF l))) ⟨[],0,0⟩:=by
 refine vspec_flat rfl rfl (fun _ _=>rfl) (Nat.le_of_ble_eq_true rfl) (oldVals w) rfl fun C hC h0=>?_
 have e:greatF l=((decide (60<l.length) && decide (l.length≤400))||decide (420<l.length)):=rfl
 by_cases h1:60<l.length<;>by_cases h2:l.length≤400<;>by_cases h3:420<l.length
 all_goals
  simp only[h1,h2,h3,decide_true,decide_false,Bool.and_true,Bool.and_false,Bool.true_and,Bool.false_and,Bool.or_true,Bool.or_false,Bool.true_or,Bool.false_or] at e
  rw[e]
  first
  |(exfalso;omega)
  |(repeat' (first|(simp (disch:=first|omega|assumption|exact bd (by with_unfolding_all rfl)|exact Or.inl rfl|exact Or.inl trivial|exact okL_map _ (fun _=>rfl) _|(simp only[VVlen]<;>omega)|fail) only[VV0,VV1,VV2,VV3,VV4,VV5,VV6,VV7,VV8,VV9,mkFnV,vargs,slotsL,opdsA,Nat.reduceEqDiff,Nat.reduceLT,Nat.reduceAdd,Nat.reduceBEq,Int.reduceAdd,Int.reduceSub,Int.reduceLT,Int.reduceLE,Int.reduceEq,Int.reduceNeg,↓reduceIte,reduceCtorEq,scL,scD,expand,List.replicate,c12])|apply gC_drawW|((first|apply gI_dec|apply gG_dec|apply gPG_dec|apply gI_var|apply gG_var|apply gPG_var)<;>intro _))
    exact weak_flat rfl h0 rfl)
theorem rcheck_p (s:Nat) (l:List Int) (hl:l.length≤140737488351232):VSpec (EN w (n+1)) 18 [.sl s l.length (l.map iD)] (.sc (.int .i64 (chk l))) ⟨[],0,0⟩:=by
 refine vspec_flat rfl rfl (fun _ _=>rfl) (Nat.le_of_ble_eq_true rfl) (oldVals w) rfl fun C hC h0=>?_
 by_cases h4:400<l.length
 ·have e:chk l=4:=if_pos h4
  rw[e]
  repeat' (first|(simp (disch:=first|omega|assumption|exact bd (by with_unfolding_all rfl)|exact Or.inl rfl|exact Or.inl trivial|exact okL_map _ (fun _=>rfl) _|(simp only[VVlen]<;>omega)|fail) only[VV0,VV1,VV2,VV3,VV4,VV5,VV6,VV7,VV8,VV9,mkFnV,vargs,slotsL,opdsA,Nat.reduceEqDiff,Nat.reduceLT,Nat.reduceAdd,Nat.reduceBEq,Int.reduceAdd,Int.reduceSub,Int.reduceLT,Int.reduceLE,Int.reduceEq,Int.reduceNeg,↓reduceIte,reduceCtorEq,scL,scD,expand,List.replicate,c18])|apply gC_drawW|((first|apply gI_dec|apply gG_dec|apply gPG_dec|apply gI_var|apply gG_var|apply gPG_var)<;>intro _))
  exact weak_flat rfl h0 rfl
 have e:chk l=if l.all col then 0 else 8:=if_neg h4
 rw[e]
 simp (disch:=first|omega|assumption|exact bd (by with_unfolding_all rfl)|exact Or.inl rfl|exact Or.inl trivial|exact okL_map _ (fun _=>rfl) _|(simp only[VVlen]<;>omega)|fail) only[VV0,VV1,VV2,VV3,VV4,VV5,VV6,VV7,VV8,VV9,mkFnV,vargs,slotsL,opdsA,Nat.reduceEqDiff,Nat.reduceLT,Nat.reduceAdd,Nat.reduceBEq,Int.reduceAdd,Int.reduceSub,Int.reduceLT,Int.reduceLE,Int.reduceEq,Int.reduceNeg,↓reduceIte,reduceCtorEq,scL,scD,expand,List.replicate,c18]
 refine g_while (fun m fr st=>∃ k:Nat,m=l.length - k∧k≤l.length∧(∀ j,j<k→col l[j]! =true)∧fr= [(0,.sl s l.length (l.map iD)),(3,.sc (.int .i64 k))]∧st=⟨[],0,0⟩) l.length ?_ ⟨_,_,.refl _ _,0,?_⟩ ?_
 ·rw[hC,callP_rounds];unfold many;omega
 ·exact ⟨by omega,by omega,(fun j hj=>absurd hj (Nat.not_lt_zero _)),rfl,rfl⟩
 ·rintro m fr st ⟨k,rfl,hk,ha,rfl,rfl⟩
  by_cases hlt:k<l.length
  ·cases hc:col l[k]!
   ·rw[if_neg (by rw[all_at hlt hc];exact Bool.false_ne_true)]
    have hc':¬ (0≤l[k]! ∧l[k]! <400):=by
     intro h
     have:col l[k]! =true:=by unfold col;rw[Bool.and_eq_true];exact ⟨decide_eq_true h.1,decide_eq_true h.2⟩
     rw[hc] at this;cases this
    generalize hx:l[k]! =x at hc'
    by_cases h1:x<0
    ·repeat' (first|(simp (disch:=first|omega|assumption|exact bd (by with_unfolding_all rfl)|exact Or.inl rfl|exact Or.inl trivial|exact okL_map _ (fun _=>rfl) _|(simp only[VVlen]<;>omega)|fail) only[VV0,VV1,VV2,VV3,VV4,VV5,VV6,VV7,VV8,VV9,mkFnV,vargs,slotsL,opdsA,Nat.reduceEqDiff,Nat.reduceLT,Nat.reduceAdd,Nat.reduceBEq,Int.reduceAdd,Int.reduceSub,Int.reduceLT,Int.reduceLE,Int.reduceEq,Int.reduceNeg,↓reduceIte,reduceCtorEq,scL,scD,expand,List.replicate,c18l0,iD_dv,hx])|apply gC_drawW|((first|apply gI_dec|apply gG_dec|apply gPG_dec|apply gI_var|apply gG_var|apply gPG_var)<;>intro _))
     exact weak_flat rfl h0 rfl
    ·have h2:400≤x:=by omega
     repeat' (first|(simp (disch:=first|omega|assumption|exact bd (by with_unfolding_all rfl)|exact Or.inl rfl|exact Or.inl trivial|exact okL_map _ (fun _=>rfl) _|(simp only[VVlen]<;>omega)|fail) only[VV0,VV1,VV2,VV3,VV4,VV5,VV6,VV7,VV8,VV9,mkFnV,vargs,slotsL,opdsA,Nat.reduceEqDiff,Nat.reduceLT,Nat.reduceAdd,Nat.reduceBEq,Int.reduceAdd,Int.reduceSub,Int.reduceLT,Int.reduceLE,Int.reduceEq,Int.reduceNeg,↓reduceIte,reduceCtorEq,scL,scD,expand,List.replicate,c18l0,iD_dv,hx])|apply gC_drawW|((first|apply gI_dec|apply gG_dec|apply gPG_dec|apply gI_var|apply gG_var|apply gPG_var)<;>intro _))
     exact weak_flat rfl h0 rfl
   ·have hc':0≤l[k]! ∧l[k]! <400:=by simpa [col] using hc
    have hn:∀ j,j<k+1→col l[j]! =true:=(fun j hj=>by rcases Nat.lt_succ_iff_lt_or_eq.1 hj with h|h;exact ha j h;subst h;exact hc)
    generalize hx:l[k]! =x at hc'
    have h1:¬ x<0:=by omega
    have h2:¬ 400≤x:=by omega
    repeat' (first|(simp (disch:=first|omega|assumption|exact bd (by with_unfolding_all rfl)|exact Or.inl rfl|exact Or.inl trivial|exact okL_map _ (fun _=>rfl) _|(simp only[VVlen]<;>omega)|fail) only[VV0,VV1,VV2,VV3,VV4,VV5,VV6,VV7,VV8,VV9,mkFnV,vargs,slotsL,opdsA,Nat.reduceEqDiff,Nat.reduceLT,Nat.reduceAdd,Nat.reduceBEq,Int.reduceAdd,Int.reduceSub,Int.reduceLT,Int.reduceLE,Int.reduceEq,Int.reduceNeg,↓reduceIte,reduceCtorEq,scL,scD,expand,List.replicate,c18l0,iD_dv,hx])|apply gC_drawW|((first|apply gI_dec|apply gG_dec|apply gPG_dec|apply gI_var|apply gG_var|apply gPG_var)<;>intro _))
    exact ⟨_,_,_,by omega,.refl _ _,k+1,rfl,hlt,hn,rfl,rfl⟩
  ·have:k=l.length:=by omega
   subst this
   rw[if_pos (all_end ha)]
   repeat' (first|(simp (disch:=first|omega|assumption|exact bd (by with_unfolding_all rfl)|exact Or.inl rfl|exact Or.inl trivial|exact okL_map _ (fun _=>rfl) _|(simp only[VVlen]<;>omega)|fail) only[VV0,VV1,VV2,VV3,VV4,VV5,VV6,VV7,VV8,VV9,mkFnV,vargs,slotsL,opdsA,Nat.reduceEqDiff,Nat.reduceLT,Nat.reduceAdd,Nat.reduceBEq,Int.reduceAdd,Int.reduceSub,Int.reduceLT,Int.reduceLE,Int.reduceEq,Int.reduceNeg,↓reduceIte,reduceCtorEq,scL,scD,expand,List.replicate,c18l0,iD_dv])|apply gC_drawW|((first|apply gI_dec|apply gG_dec|apply gPG_dec|apply gI_var|apply gG_var|apply gPG_var)<;>intro _))
   exact weak_flat rfl h0 rfl
theorem check_p (L:List (Nat × List Int)) (hL:L.length≤1000) (hl:∀ k,k<L.length→L[k]!.2.length≤140737488351232):VSpec (EN w (n+1)) 24 [.sl 0 L.length (L.map rowD)] (.sc (.int .i64 (chkL L))) ⟨[],0,0⟩:=by
 refine vspec_flat rfl rfl (fun _ _=>rfl) (Nat.le_of_ble_eq_true rfl) (oldVals w) rfl fun C hC h0=>?_
 simp (disch:=first|omega|assumption|exact bd (by with_unfolding_all rfl)|exact Or.inl rfl|exact Or.inl trivial|exact okL_map _ (fun _=>rfl) _|(simp only[VVlen]<;>omega)|fail) only[VV0,VV1,VV2,VV3,VV4,VV5,VV6,VV7,VV8,VV9,mkFnV,vargs,slotsL,opdsA,Nat.reduceEqDiff,Nat.reduceLT,Nat.reduceAdd,Nat.reduceBEq,Int.reduceAdd,Int.reduceSub,Int.reduceLT,Int.reduceLE,Int.reduceEq,Int.reduceNeg,↓reduceIte,reduceCtorEq,scL,scD,expand,List.replicate,c24]
 refine g_while (fun m fr st=>∃ k:Nat,m=L.length - k∧k≤L.length∧chkL L=chkL (L.drop k)∧fr= [(7,.sl 0 L.length (L.map rowD)),(8,.sc (.int .i64 L.length)),(9,.sc (.int .i64 k))]∧st=⟨[],0,0⟩) L.length ?_ ⟨_,_,.refl _ _,0,?_⟩ ?_
 ·rw[hC,callP_rounds];unfold many;omega
 ·exact ⟨by omega,by omega,rfl,rfl,rfl⟩
 ·rintro m fr st ⟨k,rfl,hk,ha,rfl,rfl⟩
  by_cases hlt:k<L.length
  ·have hlk:=hl k hlt
   have hst:=chkL_step hlt
   rw[hst] at ha
   generalize hp:L[k]! =p at hlk ha
   obtain ⟨s,l⟩:=p
   simp only at hlk ha
   by_cases h4:400<l.length
   ·have e:chk l=4:=if_pos h4
    rw[e,if_neg (by decide)] at ha
    rw[ha]
    repeat' (first|(simp (disch:=first|omega|assumption|exact bd (by with_unfolding_all rfl)|exact Or.inl rfl|exact Or.inl trivial|exact okL_map _ (fun _=>rfl) _|(simp only[VVlen]<;>omega)|fail) only[VV0,VV1,VV2,VV3,VV4,VV5,VV6,VV7,VV8,VV9,mkFnV,vargs,slotsL,opdsA,Nat.reduceEqDiff,Nat.reduceLT,Nat.reduceAdd,Nat.reduceBEq,Int.reduceAdd,Int.reduceSub,Int.reduceLT,Int.reduceLE,Int.reduceEq,Int.reduceNeg,↓reduceIte,reduceCtorEq,scL,scD,expand,List.replicate,c24l1,rowD_dv,hp])|apply gC_drawW|((first|apply gI_dec|apply gG_dec|apply gPG_dec|apply gI_var|apply gG_var|apply gPG_var)<;>intro _))
    exact weak_flat rfl h0 rfl
   have e:chk l=if l.all col then 0 else 8:=if_neg h4
   repeat' (first|(simp (disch:=first|omega|assumption|exact bd (by with_unfolding_all rfl)|exact Or.inl rfl|exact Or.inl trivial|exact okL_map _ (fun _=>rfl) _|(simp only[VVlen]<;>omega)|fail) only[VV0,VV1,VV2,VV3,VV4,VV5,VV6,VV7,VV8,VV9,mkFnV,vargs,slotsL,opdsA,Nat.reduceEqDiff,Nat.reduceLT,Nat.reduceAdd,Nat.reduceBEq,Int.reduceAdd,Int.reduceSub,Int.reduceLT,Int.reduceLE,Int.reduceEq,Int.reduceNeg,↓reduceIte,reduceCtorEq,scL,scD,expand,List.replicate,c24l1,rowD_dv,hp])|apply gC_drawW|((first|apply gI_dec|apply gG_dec|apply gPG_dec|apply gI_var|apply gG_var|apply gPG_var)<;>intro _))
   refine g_while (fun m fr st=>∃ j:Nat,m=l.length - j∧j≤l.length∧(∀ i,i<j→col l[i]! =true)∧fr= [(7,.sl 0 L.length (L.map rowD)),(8,.sc (.int .i64 L.length)),(9,.sc (.int .i64 k)),(16,.sl s l.length (l.map iD)),(17,.sc (.int .i64 l.length)),(18,.sc (.int .i64 j))]∧st=⟨[],0,0⟩) l.length ?_ ⟨_,_,.refl _ _,0,?_⟩ ?_
   ·rw[hC,callP_rounds];unfold many;omega
   ·exact ⟨by omega,by omega,(fun j hj=>absurd hj (Nat.not_lt_zero _)),rfl,rfl⟩
   ·rintro m fr st ⟨j,rfl,hj,hb,rfl,rfl⟩
    by_cases hlj:j<l.length
    ·cases hc:col l[j]!
     ·rw[e,show (if l.all col=true then (0:Int) else 8)=8 from if_neg (by rw[all_at hlj hc];exact Bool.false_ne_true),if_neg (by decide)] at ha
      rw[ha]
      have hc':¬ (0≤l[j]! ∧l[j]! <400):=by
       intro h
       have:col l[j]! =true:=by unfold col;rw[Bool.and_eq_true];exact ⟨decide_eq_true h.1,decide_eq_true h.2⟩
       rw[hc] at this;cases this
      generalize hx:l[j]! =x at hc'
      by_cases h1:x<0
      ·repeat' (first|(simp (disch:=first|omega|assumption|exact bd (by with_unfolding_all rfl)|exact Or.inl rfl|exact Or.inl trivial|exact okL_map _ (fun _=>rfl) _|(simp only[VVlen]<;>omega)|fail) only[VV0,VV1,VV2,VV3,VV4,VV5,VV6,VV7,VV8,VV9,mkFnV,vargs,slotsL,opdsA,Nat.reduceEqDiff,Nat.reduceLT,Nat.reduceAdd,Nat.reduceBEq,Int.reduceAdd,Int.reduceSub,Int.reduceLT,Int.reduceLE,Int.reduceEq,Int.reduceNeg,↓reduceIte,reduceCtorEq,scL,scD,expand,List.replicate,c24l0,iD_dv,hx])|apply gC_drawW|((first|apply gI_dec|apply gG_dec|apply gPG_dec|apply gI_var|apply gG_var|apply gPG_var)<;>intro _))
       exact weak_flat rfl h0 rfl
      ·have h2:400≤x:=by omega
       repeat' (first|(simp (disch:=first|omega|assumption|exact bd (by with_unfolding_all rfl)|exact Or.inl rfl|exact Or.inl trivial|exact okL_map _ (fun _=>rfl) _|(simp only[VVlen]<;>omega)|fail) only[VV0,VV1,VV2,VV3,VV4,VV5,VV6,VV7,VV8,VV9,mkFnV,vargs,slotsL,opdsA,Nat.reduceEqDiff,Nat.reduceLT,Nat.reduceAdd,Nat.reduceBEq,Int.reduceAdd,Int.reduceSub,Int.reduceLT,Int.reduceLE,Int.reduceEq,Int.reduceNeg,↓reduceIte,reduceCtorEq,scL,scD,expand,List.replicate,c24l0,iD_dv,hx])|apply gC_drawW|((first|apply gI_dec|apply gG_dec|apply gPG_dec|apply gI_var|apply gG_var|apply gPG_var)<;>intro _))
       exact weak_flat rfl h0 rfl
     ·have hc':0≤l[j]! ∧l[j]! <400:=by simpa [col] using hc
      have hn:∀ i,i<j+1→col l[i]! =true:=(fun i hi=>by rcases Nat.lt_succ_iff_lt_or_eq.1 hi with h|h;exact hb i h;subst h;exact hc)
      generalize hx:l[j]! =x at hc'
      have h1:¬ x<0:=by omega
      have h2:¬ 400≤x:=by omega
      repeat' (first|(simp (disch:=first|omega|assumption|exact bd (by with_unfolding_all rfl)|exact Or.inl rfl|exact Or.inl trivial|exact okL_map _ (fun _=>rfl) _|(simp only[VVlen]<;>omega)|fail) only[VV0,VV1,VV2,VV3,VV4,VV5,VV6,VV7,VV8,VV9,mkFnV,vargs,slotsL,opdsA,Nat.reduceEqDiff,Nat.reduceLT,Nat.reduceAdd,Nat.reduceBEq,Int.reduceAdd,Int.reduceSub,Int.reduceLT,Int.reduceLE,Int.reduceEq,Int.reduceNeg,↓reduceIte,reduceCtorEq,scL,scD,expand,List.replicate,c24l0,iD_dv,hx])|apply gC_drawW|((first|apply gI_dec|apply gG_dec|apply gPG_dec|apply gI_var|apply gG_var|apply gPG_var)<;>intro _))
      exact ⟨_,_,_,by omega,.refl _ _,j+1,rfl,hlj,hn,rfl,rfl⟩
    ·have:j=l.length:=by omega
     subst this
     rw[e,show (if l.all col=true then (0:Int) else 8)=0 from if_pos (all_end hb),if_pos rfl] at ha
     repeat' (first|(simp (disch:=first|omega|assumption|exact bd (by with_unfolding_all rfl)|exact Or.inl rfl|exact Or.inl trivial|exact okL_map _ (fun _=>rfl) _|(simp only[VVlen]<;>omega)|fail) only[VV0,VV1,VV2,VV3,VV4,VV5,VV6,VV7,VV8,VV9,mkFnV,vargs,slotsL,opdsA,Nat.reduceEqDiff,Nat.reduceLT,Nat.reduceAdd,Nat.reduceBEq,Int.reduceAdd,Int.reduceSub,Int.reduceLT,Int.reduceLE,Int.reduceEq,Int.reduceNeg,↓reduceIte,reduceCtorEq,scL,scD,expand,List.replicate,c24l0,iD_dv])|apply gC_drawW|((first|apply gI_dec|apply gG_dec|apply gPG_dec|apply gI_var|apply gG_var|apply gPG_var)<;>intro _))
     exact ⟨_,_,_,by omega,.refl _ _,k+1,rfl,hlt,ha,rfl,rfl⟩
  ·have:k=L.length:=by omega
   subst this
   rw[List.drop_length] at ha
   rw[ha]
   repeat' (first|(simp (disch:=first|omega|assumption|exact bd (by with_unfolding_all rfl)|exact Or.inl rfl|exact Or.inl trivial|exact okL_map _ (fun _=>rfl) _|(simp only[VVlen]<;>omega)|fail) only[VV0,VV1,VV2,VV3,VV4,VV5,VV6,VV7,VV8,VV9,mkFnV,vargs,slotsL,opdsA,Nat.reduceEqDiff,Nat.reduceLT,Nat.reduceAdd,Nat.reduceBEq,Int.reduceAdd,Int.reduceSub,Int.reduceLT,Int.reduceLE,Int.reduceEq,Int.reduceNeg,↓reduceIte,reduceCtorEq,scL,scD,expand,List.replicate,c24l1])|apply gC_drawW|((first|apply gI_dec|apply gG_dec|apply gPG_dec|apply gI_var|apply gG_var|apply gPG_var)<;>intro _))
   exact weak_flat rfl h0 rfl
theorem same_r (st:VSt) (v u:V) (a b:List Int) (hv:RdV st v a) (hu:RdV st u b) (ha:a.length≤140737488351232) (hb:b.length≤140737488351232):VSpecO (EN w (n+1)) 10 st [v,u] (.sc (.bool (decide (a=b)))):=by
 refine vspecO_g rfl rfl (fun _ _=>rfl) (Nat.le_of_ble_eq_true rfl) rfl fun C hC h0=>⟨⟨st.own,st.next,st.next⟩,?_⟩
 obtain ⟨p,hp⟩:=hv.rdv
 obtain ⟨q,hq⟩:=hu.rdv
 by_cases hlen:(a.length:Int)=(b.length:Int)
 case neg=>
  rw[decide_eq_false (fun h=>hlen (by rw[h]))]
  repeat' (first|(simp (disch:=first|omega|assumption|exact bd (by with_unfolding_all rfl)|exact Or.inl rfl|exact Or.inl trivial|exact okL_map _ (fun _=>rfl) _|(simp only[VVlen]<;>omega)|fail) only[VV0,VV1,VV2,VV3,VV4,VV5,VV6,VV7,VV8,VV9,mkFnV,vargs,slotsL,opdsA,Nat.reduceEqDiff,Nat.reduceLT,Nat.reduceAdd,Nat.reduceBEq,Int.reduceAdd,Int.reduceSub,Int.reduceLT,Int.reduceLE,Int.reduceEq,Int.reduceNeg,↓reduceIte,reduceCtorEq,scL,scD,expand,List.replicate,c10,hp.len,hq.len])|apply gC_drawW|((first|apply gI_dec|apply gG_dec|apply gPG_dec|apply gI_var|apply gG_var|apply gPG_var)<;>intro _))
  all_goals first|exact .refl _ _|exact absurd ‹(a.length:Int)=(b.length:Int)› hlen
 have hlen':a.length=b.length:=by omega
 repeat' (first|(simp (disch:=first|omega|assumption|exact bd (by with_unfolding_all rfl)|exact Or.inl rfl|exact Or.inl trivial|exact okL_map _ (fun _=>rfl) _|(simp only[VVlen]<;>omega)|fail) only[VV0,VV1,VV2,VV3,VV4,VV5,VV6,VV7,VV8,VV9,mkFnV,vargs,slotsL,opdsA,Nat.reduceEqDiff,Nat.reduceLT,Nat.reduceAdd,Nat.reduceBEq,Int.reduceAdd,Int.reduceSub,Int.reduceLT,Int.reduceLE,Int.reduceEq,Int.reduceNeg,↓reduceIte,reduceCtorEq,scL,scD,expand,List.replicate,c10,hp.len,hq.len])|apply gC_drawW|((first|apply gI_dec|apply gG_dec|apply gPG_dec|apply gI_var|apply gG_var|apply gPG_var)<;>intro _))
 refine g_while (fun m fr t=>∃ k:Nat,m=b.length - k∧k≤b.length∧(∀ j,j<k→a[j]! =b[j]!)∧fr= [(0,v),(1,u),(5,.sc (.int .i64 k))]∧t=⟨st.own,st.next,st.next⟩) b.length ?_ ⟨_,_,.refl _ _,0,by omega,by omega,(fun j hj=>absurd hj (Nat.not_lt_zero _)),rfl,rfl⟩ ?_
 ·rw[hC,callP_rounds];unfold many;omega
 ·rintro m fr t ⟨k,rfl,hk,hj,rfl,rfl⟩
  by_cases hlt:k<b.length
  ·have hka:k<a.length:=by omega
   by_cases he:a[k]! =b[k]!
   ·repeat' (first|(simp (disch:=first|omega|assumption|exact bd (by with_unfolding_all rfl)|exact Or.inl rfl|exact Or.inl trivial|exact okL_map _ (fun _=>rfl) _|(simp only[VVlen]<;>omega)|fail) only[VV0,VV1,VV2,VV3,VV4,VV5,VV6,VV7,VV8,VV9,mkFnV,vargs,slotsL,opdsA,Nat.reduceEqDiff,Nat.reduceLT,Nat.reduceAdd,Nat.reduceBEq,Int.reduceAdd,Int.reduceSub,Int.reduceLT,Int.reduceLE,Int.reduceEq,Int.reduceNeg,↓reduceIte,reduceCtorEq,scL,scD,expand,List.replicate,c10l0,hp.len,hp.idx,hp.ld,hq.idx,hq.ld,he])|apply gC_drawW|((first|apply gI_dec|apply gG_dec|apply gPG_dec|apply gI_var|apply gG_var|apply gPG_var)<;>intro _))
    exact ⟨_,_,_,by omega,.refl _ _,k+1,rfl,hlt,(fun j h=>by rcases Nat.lt_succ_iff_lt_or_eq.1 h with h|h;exact hj j h;subst h;exact he),rfl,rfl⟩
   ·rw[decide_eq_false (fun h=>he (by rw[h]))]
    repeat' (first|(simp (disch:=first|omega|assumption|exact bd (by with_unfolding_all rfl)|exact Or.inl rfl|exact Or.inl trivial|exact okL_map _ (fun _=>rfl) _|(simp only[VVlen]<;>omega)|fail) only[VV0,VV1,VV2,VV3,VV4,VV5,VV6,VV7,VV8,VV9,mkFnV,vargs,slotsL,opdsA,Nat.reduceEqDiff,Nat.reduceLT,Nat.reduceAdd,Nat.reduceBEq,Int.reduceAdd,Int.reduceSub,Int.reduceLT,Int.reduceLE,Int.reduceEq,Int.reduceNeg,↓reduceIte,reduceCtorEq,scL,scD,expand,List.replicate,c10l0,hp.len,hp.idx,hp.ld,hq.idx,hq.ld])|apply gC_drawW|((first|apply gI_dec|apply gG_dec|apply gPG_dec|apply gI_var|apply gG_var|apply gPG_var)<;>intro _))
    all_goals first|exact .refl _ _|exact absurd ‹a[k]! =b[k]!› he
  ·have:k=b.length:=by omega
   subst this
   rw[decide_eq_true (eq_of_all hlen' hj)]
   repeat' (first|(simp (disch:=first|omega|assumption|exact bd (by with_unfolding_all rfl)|exact Or.inl rfl|exact Or.inl trivial|exact okL_map _ (fun _=>rfl) _|(simp only[VVlen]<;>omega)|fail) only[VV0,VV1,VV2,VV3,VV4,VV5,VV6,VV7,VV8,VV9,mkFnV,vargs,slotsL,opdsA,Nat.reduceEqDiff,Nat.reduceLT,Nat.reduceAdd,Nat.reduceBEq,Int.reduceAdd,Int.reduceSub,Int.reduceLT,Int.reduceLE,Int.reduceEq,Int.reduceNeg,↓reduceIte,reduceCtorEq,scL,scD,expand,List.replicate,c10l0,hp.len])|apply gC_drawW|((first|apply gI_dec|apply gG_dec|apply gPG_dec|apply gI_var|apply gG_var|apply gPG_var)<;>intro _))
   exact .refl _ _
end
end Go.Proofs.YtkjkiodoighgnaaDoor
namespace Go.Proofs.YtkjkiodoighgnaaDoor
open Go Go.Itp
set_option maxRecDepth 100000
set_option maxHeartbeats 1000000
set_option linter.unusedSimpArgs false
section
variable (w:World) (n:Nat)
def selfP (b:Nat) (p:V):Prop:=p= .sc (.pointer none)∨p= .ptr b 0
theorem copyCheck_w {C:Ctx} {st:VSt} {Q:V→VSt→Prop} (hC:C.E=EN w (n+2)) (b e:Nat) (p g:V) (hb:aget st.own b=some (.box 50 e [p,g])) (hp:selfP b p) (hro:st.ro≤b)
  (hq:Q (.tup []) ⟨aset st.own b (.box 50 e [.ptr b 0,g]),st.next,st.ro⟩):CallV C 41 [.ptr b 0] st Q:=by
 refine callV_w hC rfl rfl (fun _ _=>rfl) (Nat.le_of_ble_eq_true rfl) hq fun C' hC' hn=>?_
 obtain ⟨H,nx,ro⟩:=st
 have h2:(2:Nat)≤ [p,g].length:=Nat.le_refl _
 rcases hp with rfl|rfl
 ·repeat' (first|(simp (disch:=first|omega|assumption|exact bd (by with_unfolding_all rfl)|exact Or.inl rfl|exact Or.inl trivial|exact okL_map _ (fun _=>rfl) _|(simp only[VVlen]<;>omega)|fail) only[VV0,VV1,VV2,VV3,VV4,VV5,VV6,VV7,VV8,VV9,mkFnV,vargs,slotsL,opdsA,Nat.reduceEqDiff,Nat.reduceLT,Nat.reduceAdd,Nat.reduceBEq,Int.reduceAdd,Int.reduceSub,Int.reduceLT,Int.reduceLE,Int.reduceEq,Int.reduceNeg,↓reduceIte,reduceCtorEq,scL,scD,expand,List.replicate,c41,hb,eqNilP_ptr,eqNilP_nil])|apply gC_drawW|((first|apply gI_dec|apply gG_dec|apply gPG_dec|apply gI_var|apply gG_var|apply gPG_var)<;>intro _))
  refine callV_same hC' (fun x s=>?_) ?_
  ·show PR w _ [x] s=some (x,[])
   rfl
  repeat' (first|(simp (disch:=first|omega|assumption|exact bd (by with_unfolding_all rfl)|exact Or.inl rfl|exact Or.inl trivial|exact okL_map _ (fun _=>rfl) _|(simp only[VVlen]<;>omega)|fail) only[VV0,VV1,VV2,VV3,VV4,VV5,VV6,VV7,VV8,VV9,mkFnV,vargs,slotsL,opdsA,Nat.reduceEqDiff,Nat.reduceLT,Nat.reduceAdd,Nat.reduceBEq,Int.reduceAdd,Int.reduceSub,Int.reduceLT,Int.reduceLE,Int.reduceEq,Int.reduceNeg,↓reduceIte,reduceCtorEq,scL,scD,expand,List.replicate,hb,eqNilP_ptr])|apply gC_drawW|((first|apply gI_dec|apply gG_dec|apply gPG_dec|apply gI_var|apply gG_var|apply gPG_var)<;>intro _))
  exact .refl _ _
 ·have hs:aset H b (.box 50 e [.ptr b 0,g])=H:=aset_self _ _ _ hb
  repeat' (first|(simp (disch:=first|omega|assumption|exact bd (by with_unfolding_all rfl)|exact Or.inl rfl|exact Or.inl trivial|exact okL_map _ (fun _=>rfl) _|(simp only[VVlen]<;>omega)|fail) only[VV0,VV1,VV2,VV3,VV4,VV5,VV6,VV7,VV8,VV9,mkFnV,vargs,slotsL,opdsA,Nat.reduceEqDiff,Nat.reduceLT,Nat.reduceAdd,Nat.reduceBEq,Int.reduceAdd,Int.reduceSub,Int.reduceLT,Int.reduceLE,Int.reduceEq,Int.reduceNeg,↓reduceIte,reduceCtorEq,scL,scD,expand,List.replicate,c41,hb,eqPtrV_same,eqNilP_ptr,eqNilP_nil])|apply gC_drawW|((first|apply gI_dec|apply gG_dec|apply gPG_dec|apply gI_var|apply gG_var|apply gPG_var)<;>intro _))
  rw[hs]
  exact .refl _ _
theorem writeString_w {C:Ctx} {st:VSt} {Q:V→VSt→Prop} (hC:C.E=EN w (n+3)) (b r:Nat) (p:V) (acc s:ByteArray) (hb:aget st.own b=some (.box 50 1 [p,.gr 2 r acc.size])) (hr:aget st.own r=some (.gro 5 1 false (strD acc))) (hp:selfP b p) (hro:st.ro≤b) (hro2:st.ro≤r) (hrb:r ≠ b) (hlt:b ≠ st.next)
  (hsz:acc.size+s.size≤1099511627776) (hq:Q (.tup [.sc (.int .i64 s.size),.sc .nilIface]) ⟨(st.next,.gro 5 1 false (strD (acc++s)))::aset (adel r st.own) b (.box 50 1 [.ptr b 0,.gr 2 st.next (acc.size+s.size)]),st.next+1,st.ro⟩):
  CallV C 25 [.ptr b 0,.sc (.string s)] st Q:=by
 refine callV_w hC rfl rfl (fun _ _=>rfl) (Nat.le_of_ble_eq_true rfl) hq fun C' hC' hn=>?_
 obtain ⟨H,nx,ro⟩:=st
 have h1:=strD_len acc
 have h2:=strD_ok s
 have a1:aget (aset H b (.box 50 1 [.ptr b 0,.gr 2 r acc.size])) b=some (.box 50 1 [.ptr b 0,.gr 2 r acc.size]):=aget_aset_eq hb
 have a2:aget (aset H b (.box 50 1 [.ptr b 0,.gr 2 r acc.size])) r=some (.gro 5 1 false (strD acc)):=by rw[aget_aset _ _ _ _ _ hb,if_neg hrb];exact hr
 have hbr:¬ b=r:=fun e=>hrb e.symm
 have a3:aget (adel r (aset H b (.box 50 1 [.ptr b 0,.gr 2 r acc.size]))) b=some (.box 50 1 [.ptr b 0,.gr 2 r acc.size]):=by rw[aget_adel,if_neg hbr];exact a1
 repeat' (first|(simp (disch:=first|omega|assumption|exact bd (by with_unfolding_all rfl)|exact Or.inl rfl|exact Or.inl trivial|exact okL_map _ (fun _=>rfl) _|(simp only[VVlen]<;>omega)|fail) only[VV0,VV1,VV2,VV3,VV4,VV5,VV6,VV7,VV8,VV9,mkFnV,vargs,slotsL,opdsA,Nat.reduceEqDiff,Nat.reduceLT,Nat.reduceAdd,Nat.reduceBEq,Int.reduceAdd,Int.reduceSub,Int.reduceLT,Int.reduceLE,Int.reduceEq,Int.reduceNeg,↓reduceIte,reduceCtorEq,scL,scD,expand,List.replicate,c25])|apply gC_drawW|((first|apply gI_dec|apply gG_dec|apply gPG_dec|apply gI_var|apply gG_var|apply gPG_var)<;>intro _))
 refine copyCheck_w w n hC' b 1 p _ hb hp hro ?_
 repeat' (first|(simp (disch:=first|omega|assumption|exact bd (by with_unfolding_all rfl)|exact Or.inl rfl|exact Or.inl trivial|exact okL_map _ (fun _=>rfl) _|(simp only[VVlen]<;>omega)|fail) only[VV0,VV1,VV2,VV3,VV4,VV5,VV6,VV7,VV8,VV9,mkFnV,vargs,slotsL,opdsA,Nat.reduceEqDiff,Nat.reduceLT,Nat.reduceAdd,Nat.reduceBEq,Int.reduceAdd,Int.reduceSub,Int.reduceLT,Int.reduceLE,Int.reduceEq,Int.reduceNeg,↓reduceIte,reduceCtorEq,scL,scD,expand,List.replicate,a1,a2,a3,srcOf_str,strD_eq,hbr,hlt,strD_append,frozA_none])|apply gC_drawW|((first|apply gI_dec|apply gG_dec|apply gPG_dec|apply gI_var|apply gG_var|apply gPG_var)<;>intro _))
 rw[adel_aset _ _ _ _ hrb,aset_aset]
 exact .refl _ _
theorem string_w {C:Ctx} {st:VSt} {Q:V→VSt→Prop} (hC:C.E=EN w (n+1)) (b r:Nat) (p:V) (acc:ByteArray) (hb:aget st.own b=some (.box 50 1 [p,.gr 2 r acc.size])) (hr:aget st.own r=some (.gro 5 1 false (strD acc))) (hro:st.ro≤b) (hro2:st.ro≤r)
  (hsz:acc.size≤1099511627776) (hq:∀ st',st'.ro=st.ro→Q (.sc (.string acc)) st'):CallV C 27 [.ptr b 0] st Q:=by
 obtain ⟨H,nx,ro⟩:=st
 by_cases h0:acc.size=0
 ·rw[h0] at hb
  have hs:acc=ByteArray.empty:=by
   apply ByteArray.ext;apply Array.ext'
   rw[List.eq_nil_of_length_eq_zero (show acc.data.toList.length=0 by simpa using h0)]
   rfl
  refine callV_wW (st':=⟨aset H b (.box 50 1 [p,.sc (.slice none 0 0)]),nx,ro⟩) hC rfl rfl (fun _ _=>rfl) (Nat.le_of_ble_eq_true rfl) (hq ⟨aset H b (.box 50 1 [p,.sc (.slice none 0 0)]),nx,ro⟩ rfl) (fun C' hn=>?_) fun C' hC' hn=>?_
  ·exact weak_cell (C:=C') (st:=⟨H,nx,ro⟩) (k:=1) hb rfl same_gr0
  have a1:aget (aset H b (.box 50 1 [p,.sc (.slice none 0 0)])) b=some (.box 50 1 [p,.sc (.slice none 0 0)]):=aget_aset_eq hb
  rw[hs]
  repeat' (first|(simp (disch:=first|omega|assumption|exact bd (by with_unfolding_all rfl)|exact Or.inl rfl|exact Or.inl trivial|exact okL_map _ (fun _=>rfl) _|(simp only[VVlen]<;>omega)|fail) only[VV0,VV1,VV2,VV3,VV4,VV5,VV6,VV7,VV8,VV9,mkFnV,vargs,slotsL,opdsA,Nat.reduceEqDiff,Nat.reduceLT,Nat.reduceAdd,Nat.reduceBEq,Int.reduceAdd,Int.reduceSub,Int.reduceLT,Int.reduceLE,Int.reduceEq,Int.reduceNeg,↓reduceIte,reduceCtorEq,scL,scD,expand,List.replicate,c27,a1,vustr_nil])|apply gC_drawW|((first|apply gI_dec|apply gG_dec|apply gPG_dec|apply gI_var|apply gG_var|apply gPG_var)<;>intro _))
  exact .refl _ _
 ·refine callV_w hC rfl rfl (fun _ _=>rfl) (Nat.le_of_ble_eq_true rfl) (hq ⟨adel r H,nx,ro⟩ rfl) fun C' hC' hn=>?_
  have hv:=vustr_gro ⟨H,nx,ro⟩ 5 1 r acc hr hro2 (by omega) hsz
  repeat' (first|(simp (disch:=first|omega|assumption|exact bd (by with_unfolding_all rfl)|exact Or.inl rfl|exact Or.inl trivial|exact okL_map _ (fun _=>rfl) _|(simp only[VVlen]<;>omega)|fail) only[VV0,VV1,VV2,VV3,VV4,VV5,VV6,VV7,VV8,VV9,mkFnV,vargs,slotsL,opdsA,Nat.reduceEqDiff,Nat.reduceLT,Nat.reduceAdd,Nat.reduceBEq,Int.reduceAdd,Int.reduceSub,Int.reduceLT,Int.reduceLE,Int.reduceEq,Int.reduceNeg,↓reduceIte,reduceCtorEq,scL,scD,expand,List.replicate,c27,hb,h0,hv])|apply gC_drawW|((first|apply gI_dec|apply gG_dec|apply gPG_dec|apply gI_var|apply gG_var|apply gPG_var)<;>intro _))
  exact .refl _ _
end
end Go.Proofs.YtkjkiodoighgnaaDoor
namespace Go.Proofs.YtkjkiodoighgnaaDoor
open Go Go.Itp
set_option maxRecDepth 100000
set_option maxHeartbeats 1000000
set_option linter.unusedSimpArgs false
abbrev strV (l:List UInt8):V:= .sc (.string ⟨l.toArray⟩)
section
variable (w:World) (n:Nat)
theorem decimal_p (x:Nat) (hx:x≤1000000000000):VSpec (EN w (n+1)) 36 [.sc (.int .i64 x)] (strV (Lib.decDigits x)) ⟨[],0,0⟩:=by
 refine vspec_flat rfl rfl (fun _ _=>rfl) (Nat.le_of_ble_eq_true rfl) (oldVals w) rfl fun C hC h0=>?_
 repeat' (first|(simp (disch:=first|omega|assumption|exact bd (by with_unfolding_all rfl)|exact Or.inl rfl|exact Or.inl trivial|exact okL_map _ (fun _=>rfl) _|(simp only[VVlen]<;>omega)|fail) only[VV0,VV1,VV2,VV3,VV4,VV5,VV6,VV7,VV8,VV9,mkFnV,vargs,slotsL,opdsA,Nat.reduceEqDiff,Nat.reduceLT,Nat.reduceAdd,Nat.reduceBEq,Int.reduceAdd,Int.reduceSub,Int.reduceLT,Int.reduceLE,Int.reduceEq,Int.reduceNeg,↓reduceIte,reduceCtorEq,scL,scD,expand,List.replicate,c36])|apply gC_drawW|((first|apply gI_dec|apply gG_dec|apply gPG_dec|apply gI_var|apply gG_var|apply gPG_var)<;>intro _))
 refine g_while (fun m fr st=>∃ (k:Nat) (s:List UInt8),m=k∧k≤x∧Lib.decDigits x=Lib.decDigits k++s∧s.length+k≤x∧fr= [(0,.sc (.int .i64 k)),(3,strV s)]∧st=⟨[],0,0⟩) x ?_ ⟨_,_,.refl _ _,x,[],?_⟩ ?_
 ·rw[hC,callP_rounds];unfold many;omega
 ·exact ⟨rfl,Nat.le_refl _,by simp,by simp,rfl,rfl⟩
 ·rintro k fr st ⟨_,s,rfl,hk,hd,hsl,rfl,rfl⟩
  have hs1:∀ c:UInt8,(ByteArray.mk [c].toArray).size+(ByteArray.mk s.toArray).size<9223372036854775807:=fun c=>by
   show 1+s.toArray.size<_
   simp;omega
  by_cases hlt:9<k
  ·have hd':=dec_step hd hlt
   have e1:(k:Int) % 10=((k % 10:Nat):Int):=by omega
   have e2:(k:Int) / 10=((k / 10:Nat):Int):=by omega
   have e4:(48:Int)+((k % 10:Nat):Int)=((48+k % 10:Nat):Int):=by omega
   have e3:=wrap_byte (48+k % 10) (by omega)
   have e5:=b2s_one (o:=0) (t:=5) (g:=false) (z:=false) (H:= [(0,.row 5 1 false false [.sc (.int .u8 ((48+k % 10:Nat):Int))])]) (48+k % 10) (by omega) rfl 1
   repeat' (first|(simp (disch:=first|omega|assumption|exact bd (by with_unfolding_all rfl)|exact Or.inl rfl|exact Or.inl trivial|exact okL_map _ (fun _=>rfl) _|(simp only[VVlen]<;>omega)|fail) only[VV0,VV1,VV2,VV3,VV4,VV5,VV6,VV7,VV8,VV9,mkFnV,vargs,slotsL,opdsA,Nat.reduceEqDiff,Nat.reduceLT,Nat.reduceAdd,Nat.reduceBEq,Int.reduceAdd,Int.reduceSub,Int.reduceLT,Int.reduceLE,Int.reduceEq,Int.reduceNeg,↓reduceIte,reduceCtorEq,scL,scD,expand,List.replicate,c36l0,e1,e2,e4,e3,e5,b_sadd _ _ (hs1 (UInt8.ofNat (48+k % 10))),bytes_cat])|apply gC_drawW|((first|apply gI_dec|apply gG_dec|apply gPG_dec|apply gI_var|apply gG_var|apply gPG_var)<;>intro _))
   refine ⟨_,_,_,?_,weak_to [] 0 h0 rfl rfl rfl rfl,k / 10,UInt8.ofNat (48+k % 10)::s,rfl,by omega,hd',by simp;omega,?_,?_⟩
   ·omega
   ·simp[renF,vren]
   ·simp[renH]
  ·have e4:(48:Int)+(k:Int)=((48+k:Nat):Int):=by omega
   have e3:=wrap_byte (48+k) (by omega)
   have e5:=b2s_one (o:=0) (t:=5) (g:=false) (z:=false) (H:= [(0,.row 5 1 false false [.sc (.int .u8 ((48+k:Nat):Int))])]) (48+k) (by omega) rfl 1
   have hd':Lib.decDigits x= [UInt8.ofNat (48+k)]++s:=by rw[hd,Lib.decDigits,dif_pos (by omega)]
   rw[hd']
   repeat' (first|(simp (disch:=first|omega|assumption|exact bd (by with_unfolding_all rfl)|exact Or.inl rfl|exact Or.inl trivial|exact okL_map _ (fun _=>rfl) _|(simp only[VVlen]<;>omega)|fail) only[VV0,VV1,VV2,VV3,VV4,VV5,VV6,VV7,VV8,VV9,mkFnV,vargs,slotsL,opdsA,Nat.reduceEqDiff,Nat.reduceLT,Nat.reduceAdd,Nat.reduceBEq,Int.reduceAdd,Int.reduceSub,Int.reduceLT,Int.reduceLE,Int.reduceEq,Int.reduceNeg,↓reduceIte,reduceCtorEq,scL,scD,expand,List.replicate,c36l0,e4,e3,e5,b_sadd _ _ (hs1 (UInt8.ofNat (48+k))),bytes_cat])|apply gC_drawW|((first|apply gI_dec|apply gG_dec|apply gPG_dec|apply gI_var|apply gG_var|apply gPG_var)<;>intro _))
   exact weak_flat rfl h0 rfl
end
end Go.Proofs.YtkjkiodoighgnaaDoor
namespace Go.Proofs.YtkjkiodoighgnaaDoor
open Go Go.Itp
set_option maxRecDepth 100000
set_option maxHeartbeats 1000000
set_option linter.unusedSimpArgs false
section
variable (w:World) (n:Nat)
theorem indexByteString_o (st:VSt) (l:List UInt8) (c:UInt8):VSpecO (EN w (n+1)) 101 st [strV l,.sc (.int .u8 c.toNat)] (.sc (.int .i64 (idxB c l))):=by
 refine prim_o (ys:= [.string ⟨l.toArray⟩,.int .u8 c.toNat]) (fun s=>?_) rfl
 refine orElse_left ?_
 show primA .indexByte 0 [.string ⟨l.toArray⟩,.int .u8 c.toNat] s=_
 unfold primA
 simp only[Int.toNat_natCast]
 rw[show c.toNat.toUInt8=c by simp,firstIdxA_l]
theorem indexByte_p (l:List UInt8) (c:UInt8):VSpec (EN w (n+2)) 87 [strV l,.sc (.int .u8 c.toNat)] (.sc (.int .i64 (idxB c l))) ⟨[],0,0⟩:=by
 refine vspec_flat rfl rfl (fun _ _=>rfl) (Nat.le_of_ble_eq_true rfl) (oldVals w) rfl fun C hC h0=>?_
 repeat' (first|(simp (disch:=first|omega|assumption|exact bd (by with_unfolding_all rfl)|exact Or.inl rfl|exact Or.inl trivial|exact okL_map _ (fun _=>rfl) _|(simp only[VVlen]<;>omega)|fail) only[VV0,VV1,VV2,VV3,VV4,VV5,VV6,VV7,VV8,VV9,mkFnV,vargs,slotsL,opdsA,Nat.reduceEqDiff,Nat.reduceLT,Nat.reduceAdd,Nat.reduceBEq,Int.reduceAdd,Int.reduceSub,Int.reduceLT,Int.reduceLE,Int.reduceEq,Int.reduceNeg,↓reduceIte,reduceCtorEq,scL,scD,expand,List.replicate,c87])|apply gC_drawW|((first|apply gI_dec|apply gG_dec|apply gPG_dec|apply gI_var|apply gG_var|apply gPG_var)<;>intro _))
 refine callV_flat (by rw[hC];exact indexByteString_o w n _ l c) ?_
 repeat' (first|(simp (disch:=first|omega|assumption|exact bd (by with_unfolding_all rfl)|exact Or.inl rfl|exact Or.inl trivial|exact okL_map _ (fun _=>rfl) _|(simp only[VVlen]<;>omega)|fail) only[VV0,VV1,VV2,VV3,VV4,VV5,VV6,VV7,VV8,VV9,mkFnV,vargs,slotsL,opdsA,Nat.reduceEqDiff,Nat.reduceLT,Nat.reduceAdd,Nat.reduceBEq,Int.reduceAdd,Int.reduceSub,Int.reduceLT,Int.reduceLE,Int.reduceEq,Int.reduceNeg,↓reduceIte,reduceCtorEq,scL,scD,expand,List.replicate])|apply gC_drawW|((first|apply gI_dec|apply gG_dec|apply gPG_dec|apply gI_var|apply gG_var|apply gPG_var)<;>intro _))
 exact weak_flat rfl h0 rfl
theorem index1_p (l:List UInt8) (c:UInt8) (hl:l.length≤1000000000):VSpec (EN w (n+3)) 68 [strV l,strV [c]] (.sc (.int .i64 (idxB c l))) ⟨[],0,0⟩:=by
 refine vspec_flat rfl rfl (fun _ _=>rfl) (Nat.le_of_ble_eq_true rfl) (oldVals w) rfl fun C hC h0=>?_
 have h1:(ByteArray.mk [c].toArray).size=1:=rfl
 have hlc:((ByteArray.mk [c].toArray)=ByteArray.mk l.toArray)↔l= [c]:=by
  constructor
  ·intro h
   have:=congrArg (fun b:ByteArray=>b.data.toList) h
   simpa using this.symm
  ·rintro rfl;rfl
 by_cases hc:l= [c]
 ·subst hc
  have hi:idxB c [c]=0:=idxB_app (a:= []) [] (by simp)
  rw[hi]
  repeat' (first|(simp (disch:=first|omega|assumption|exact bd (by with_unfolding_all rfl)|exact Or.inl rfl|exact Or.inl trivial|exact okL_map _ (fun _=>rfl) _|(simp only[VVlen]<;>omega)|fail) only[VV0,VV1,VV2,VV3,VV4,VV5,VV6,VV7,VV8,VV9,mkFnV,vargs,slotsL,opdsA,Nat.reduceEqDiff,Nat.reduceLT,Nat.reduceAdd,Nat.reduceBEq,Int.reduceAdd,Int.reduceSub,Int.reduceLT,Int.reduceLE,Int.reduceEq,Int.reduceNeg,↓reduceIte,reduceCtorEq,scL,scD,expand,List.replicate,c68,h1])|apply gC_drawW|((first|apply gI_dec|apply gG_dec|apply gPG_dec|apply gI_var|apply gG_var|apply gPG_var)<;>intro _))
  exact weak_flat rfl h0 rfl
 ·have hb:idxStrV (strV [c]) (.sc (.int .i64 0))=some (.sc (.int .u8 c.toNat)):=by
   rw[idxStr_l _ _ _ (by omega) (by simp)]
   rfl
  repeat' (first|(simp (disch:=first|omega|assumption|exact bd (by with_unfolding_all rfl)|exact Or.inl rfl|exact Or.inl trivial|exact okL_map _ (fun _=>rfl) _|(simp only[VVlen]<;>omega)|fail) only[VV0,VV1,VV2,VV3,VV4,VV5,VV6,VV7,VV8,VV9,mkFnV,vargs,slotsL,opdsA,Nat.reduceEqDiff,Nat.reduceLT,Nat.reduceAdd,Nat.reduceBEq,Int.reduceAdd,Int.reduceSub,Int.reduceLT,Int.reduceLE,Int.reduceEq,Int.reduceNeg,↓reduceIte,reduceCtorEq,scL,scD,expand,List.replicate,c68,h1,hlc,hc,hb])|apply gC_drawW|((first|apply gI_dec|apply gG_dec|apply gPG_dec|apply gI_var|apply gG_var|apply gPG_var)<;>intro _))
  refine callV_flat ((indexByte_p w n l c).of hC rfl _ rfl) ?_
  repeat' (first|(simp (disch:=first|omega|assumption|exact bd (by with_unfolding_all rfl)|exact Or.inl rfl|exact Or.inl trivial|exact okL_map _ (fun _=>rfl) _|(simp only[VVlen]<;>omega)|fail) only[VV0,VV1,VV2,VV3,VV4,VV5,VV6,VV7,VV8,VV9,mkFnV,vargs,slotsL,opdsA,Nat.reduceEqDiff,Nat.reduceLT,Nat.reduceAdd,Nat.reduceBEq,Int.reduceAdd,Int.reduceSub,Int.reduceLT,Int.reduceLE,Int.reduceEq,Int.reduceNeg,↓reduceIte,reduceCtorEq,scL,scD,expand,List.replicate])|apply gC_drawW|((first|apply gI_dec|apply gG_dec|apply gPG_dec|apply gI_var|apply gG_var|apply gPG_var)<;>intro _))
  exact weak_flat rfl h0 rfl
theorem index_p (l:List UInt8) (c:UInt8) (hl:l.length≤1000000000):VSpec (EN w (n+4)) 54 [strV l,strV [c]] (.sc (.int .i64 (idxB c l))) ⟨[],0,0⟩:=by
 refine vspec_flat rfl rfl (fun _ _=>rfl) (Nat.le_of_ble_eq_true rfl) (oldVals w) rfl fun C hC h0=>?_
 repeat' (first|(simp (disch:=first|omega|assumption|exact bd (by with_unfolding_all rfl)|exact Or.inl rfl|exact Or.inl trivial|exact okL_map _ (fun _=>rfl) _|(simp only[VVlen]<;>omega)|fail) only[VV0,VV1,VV2,VV3,VV4,VV5,VV6,VV7,VV8,VV9,mkFnV,vargs,slotsL,opdsA,Nat.reduceEqDiff,Nat.reduceLT,Nat.reduceAdd,Nat.reduceBEq,Int.reduceAdd,Int.reduceSub,Int.reduceLT,Int.reduceLE,Int.reduceEq,Int.reduceNeg,↓reduceIte,reduceCtorEq,scL,scD,expand,List.replicate,c54])|apply gC_drawW|((first|apply gI_dec|apply gG_dec|apply gPG_dec|apply gI_var|apply gG_var|apply gPG_var)<;>intro _))
 refine callV_flat ((index1_p w n l c hl).of hC rfl _ rfl) ?_
 repeat' (first|(simp (disch:=first|omega|assumption|exact bd (by with_unfolding_all rfl)|exact Or.inl rfl|exact Or.inl trivial|exact okL_map _ (fun _=>rfl) _|(simp only[VVlen]<;>omega)|fail) only[VV0,VV1,VV2,VV3,VV4,VV5,VV6,VV7,VV8,VV9,mkFnV,vargs,slotsL,opdsA,Nat.reduceEqDiff,Nat.reduceLT,Nat.reduceAdd,Nat.reduceBEq,Int.reduceAdd,Int.reduceSub,Int.reduceLT,Int.reduceLE,Int.reduceEq,Int.reduceNeg,↓reduceIte,reduceCtorEq,scL,scD,expand,List.replicate])|apply gC_drawW|((first|apply gI_dec|apply gG_dec|apply gPG_dec|apply gI_var|apply gG_var|apply gPG_var)<;>intro _))
 exact weak_flat rfl h0 rfl
end
end Go.Proofs.YtkjkiodoighgnaaDoor
namespace Go.Proofs.YtkjkiodoighgnaaDoor
open Go Go.Itp
set_option maxRecDepth 100000
set_option maxHeartbeats 1000000
set_option linter.unusedSimpArgs false
abbrev sBox (l:List UInt8):Itp.Obj:= .box 9 1 [strV l]
theorem split_ret (l:List UInt8) (c:UInt8):RetOK [(2,.box 3 1 [.sc (.int .i64 0)]),(1,sBox [c]),(0,sBox l)] (.fn 52 [] [.ptr 1 0,.ptr 0 0,.ptr 2 0]):=by
 refine ⟨?_,fun o t e L h=>?_,fun o ob h=>?_⟩
 ·simp only[Cl,ClL,and_true,true_and]
  exact ⟨⟨_,rfl,rfl⟩,⟨_,rfl,rfl⟩,⟨_,rfl,rfl⟩⟩
 ·simp only[aget_cons,aget_nil] at h
  split at h
  ·cases h;exact ⟨trivial,trivial⟩
  split at h
  ·cases h;exact ⟨trivial,trivial⟩
  split at h
  ·cases h;exact ⟨trivial,trivial⟩
  ·cases h
 ·intro _
  refine VR.root o ?_
  simp only[aget_cons,aget_nil] at h
  simp only[vids,vidsL,List.mem_append,List.mem_cons,List.not_mem_nil,or_false,false_or]
  split at h
  ·omega
  split at h
  ·omega
  split at h
  ·omega
  ·cases h
section
variable (w:World) (n:Nat)
theorem splitSeq0_p (l:List UInt8) (c:UInt8):VSpec (EN w (n+1)) 43 [strV l,strV [c],.sc (.int .i64 0)] (.fn 52 [] [.ptr 1 0,.ptr 0 0,.ptr 2 0]) ⟨[(2,.box 3 1 [.sc (.int .i64 0)]),(1,sBox [c]),(0,sBox l)],3,0⟩:=by
 refine vspec_g rfl rfl (fun _ _=>rfl) (Nat.le_of_ble_eq_true rfl) (oldVals w) (split_ret l c) rfl fun C hC hn=>?_
 repeat' (first|(simp (disch:=first|omega|assumption|exact bd (by with_unfolding_all rfl)|exact Or.inl rfl|exact Or.inl trivial|exact okL_map _ (fun _=>rfl) _|(simp only[VVlen]<;>omega)|fail) only[VV0,VV1,VV2,VV3,VV4,VV5,VV6,VV7,VV8,VV9,mkFnV,vargs,slotsL,opdsA,Nat.reduceEqDiff,Nat.reduceLT,Nat.reduceAdd,Nat.reduceBEq,Int.reduceAdd,Int.reduceSub,Int.reduceLT,Int.reduceLE,Int.reduceEq,Int.reduceNeg,↓reduceIte,reduceCtorEq,scL,scD,expand,List.replicate,c43])|apply gC_drawW|((first|apply gI_dec|apply gG_dec|apply gPG_dec|apply gI_var|apply gG_var|apply gPG_var)<;>intro _))
 exact weak_to [(2,2),(1,1),(0,0)] 3 hn rfl rfl rfl rfl
theorem splitSeq_p (l:List UInt8) (c:UInt8):VSpec (EN w (n+2)) 28 [strV l,strV [c]] (.fn 52 [] [.ptr 1 0,.ptr 0 0,.ptr 2 0]) ⟨[(2,.box 3 1 [.sc (.int .i64 0)]),(1,sBox [c]),(0,sBox l)],3,0⟩:=by
 refine vspec_g rfl rfl (fun _ _=>rfl) (Nat.le_of_ble_eq_true rfl) (oldVals w) (split_ret l c) rfl fun C hC hn=>?_
 repeat' (first|(simp (disch:=first|omega|assumption|exact bd (by with_unfolding_all rfl)|exact Or.inl rfl|exact Or.inl trivial|exact okL_map _ (fun _=>rfl) _|(simp only[VVlen]<;>omega)|fail) only[VV0,VV1,VV2,VV3,VV4,VV5,VV6,VV7,VV8,VV9,mkFnV,vargs,slotsL,opdsA,Nat.reduceEqDiff,Nat.reduceLT,Nat.reduceAdd,Nat.reduceBEq,Int.reduceAdd,Int.reduceSub,Int.reduceLT,Int.reduceLE,Int.reduceEq,Int.reduceNeg,↓reduceIte,reduceCtorEq,scL,scD,expand,List.replicate,c28])|apply gC_drawW|((first|apply gI_dec|apply gG_dec|apply gPG_dec|apply gI_var|apply gG_var|apply gPG_var)<;>intro _))
 refine callV_of (by rw[hC];exact splitSeq0_p w n l c) rfl rfl rfl ?_
 repeat' (first|(simp (disch:=first|omega|assumption|exact bd (by with_unfolding_all rfl)|exact Or.inl rfl|exact Or.inl trivial|exact okL_map _ (fun _=>rfl) _|(simp only[VVlen]<;>omega)|fail) only[VV0,VV1,VV2,VV3,VV4,VV5,VV6,VV7,VV8,VV9,mkFnV,vargs,slotsL,opdsA,Nat.reduceEqDiff,Nat.reduceLT,Nat.reduceAdd,Nat.reduceBEq,Int.reduceAdd,Int.reduceSub,Int.reduceLT,Int.reduceLE,Int.reduceEq,Int.reduceNeg,↓reduceIte,reduceCtorEq,scL,scD,expand,List.replicate,vsh,vshL,shH,shO,fzSL,fzS])|apply gC_drawW|((first|apply gI_dec|apply gG_dec|apply gPG_dec|apply gI_var|apply gG_var|apply gPG_var)<;>intro _))
 exact weak_to [(2,2),(1,1),(0,0)] 3 hn rfl rfl rfl rfl
end
theorem split_iter {C':Ctx} {E:Env} {a b:AC} {fr:VFr} {ps:List Nat} {d oP oS oV:Nat} {c:UInt8} {s:List UInt8} (w:World) (n:Nat) (J:List (List UInt8)→List UInt8→VSt→Prop) (S:VSt→Prop) {P:VPost}
  (hE:C'.E.pcall=(EN w (n+4)).pcall) (hO:C'.E.old=oldOf w) (hr:C'.E.rounds=many) (hl:s.length≤1000000) (hT:∀ xs st Q,RoundV E a b fr ps d xs st Q→CallT C' d xs st Q)
  (hbox:∀ dn r st,J dn r st→aget st.own oS=some (sBox r)∧aget st.own oP=some (sBox [c])∧aget st.own oV=some (.box 3 1 [.sc (.int .i64 0)])∧st.ro≤oS)
  (hround:∀ dn r x ws st (Q:V→VSt→Prop),words c s=dn++words c r→words c r=x::ws→J dn r st→(∀ st',J (dn++ [x]) r st'→Q (.sc (.bool true)) st')→(∀ st',S st'→Q (.sc (.bool false)) st')→RoundV E a b fr ps d [strV x] st Q)
  (hset:∀ dn r r' st,J dn r st→J dn r' ⟨aset st.own oS (sBox r'),st.next,st.ro⟩)
  (hend:∀ fr st r,J (words c s) r st→P .normal fr st) (hstop:∀ ex fr st,(∀ i,ex ≠ .exit i)→S st→P ex fr st) (st0:VSt) (h0:J [] s st0):
  gC C' c52.code [] (vargs 0 [.tok d,.ptr oP 0,.ptr oS 0,.ptr oV 0]) st0 P:=by
 obtain ⟨k1,k2,k3,k4⟩:=hbox _ _ _ h0
 have h1:(ByteArray.mk [c].toArray).size=1:=rfl
 have h1i:((1:Nat):Int)=1:=rfl
 have hidx:∀ (st:VSt) (r:List UInt8),r.length≤1000000→VSpecO C'.E 54 st [strV r,strV [c]] (.sc (.int .i64 (idxB c r))):=fun st r hr=>((index_p w n r c (by omega)).flat rfl rfl).env hE hO
 repeat' (first|(simp (disch:=first|omega|assumption|exact bd (by with_unfolding_all rfl)|exact Or.inl rfl|exact Or.inl trivial|exact okL_map _ (fun _=>rfl) _|(simp only[VVlen]<;>omega)|fail) only[VV0,VV1,VV2,VV3,VV4,VV5,VV6,VV7,VV8,VV9,mkFnV,vargs,slotsL,opdsA,Nat.reduceEqDiff,Nat.reduceLT,Nat.reduceAdd,Nat.reduceBEq,Int.reduceAdd,Int.reduceSub,Int.reduceLT,Int.reduceLE,Int.reduceEq,Int.reduceNeg,↓reduceIte,reduceCtorEq,scL,scD,expand,List.replicate,c52,k2,h1,h1i])|apply gC_drawW|((first|apply gI_dec|apply gG_dec|apply gPG_dec|apply gI_var|apply gG_var|apply gPG_var)<;>intro _))
 all_goals try (exfalso;omega)
 refine g_while (fun m fr st=>∃ dn r,m=r.length∧r.length≤1000000∧words c s=dn++words c r∧J dn r st∧fr= [(0,.tok d),(1,.ptr oP 0),(2,.ptr oS 0),(3,.ptr oV 0)]) s.length ?_ ⟨_,_,weak_akeep [0,1,2,3] rfl,[],s,rfl,hl,rfl,h0,rfl⟩ ?_
 ·rw[hr];unfold many;omega
 rintro _ fr1 st ⟨dn,r,rfl,hrl,hw,hJ,rfl⟩
 obtain ⟨k1,k2,k3,k4⟩:=hbox _ _ _ hJ
 rcases byte_split c r with hf|⟨x,r',rfl,hf⟩
 ·have hi:=idxB_free hf
  repeat' (first|(simp (disch:=first|omega|assumption|exact bd (by with_unfolding_all rfl)|exact Or.inl rfl|exact Or.inl trivial|exact okL_map _ (fun _=>rfl) _|(simp only[VVlen]<;>omega)|fail) only[VV0,VV1,VV2,VV3,VV4,VV5,VV6,VV7,VV8,VV9,mkFnV,vargs,slotsL,opdsA,Nat.reduceEqDiff,Nat.reduceLT,Nat.reduceAdd,Nat.reduceBEq,Int.reduceAdd,Int.reduceSub,Int.reduceLT,Int.reduceLE,Int.reduceEq,Int.reduceNeg,↓reduceIte,reduceCtorEq,scL,scD,expand,List.replicate,c52l0,k1,k2,k3])|apply gC_drawW|((first|apply gI_dec|apply gG_dec|apply gPG_dec|apply gI_var|apply gG_var|apply gPG_var)<;>intro _))
  refine callV_flat (hidx _ r hrl) ?_
  rw[hi]
  repeat' (first|(simp (disch:=first|omega|assumption|exact bd (by with_unfolding_all rfl)|exact Or.inl rfl|exact Or.inl trivial|exact okL_map _ (fun _=>rfl) _|(simp only[VVlen]<;>omega)|fail) only[VV0,VV1,VV2,VV3,VV4,VV5,VV6,VV7,VV8,VV9,mkFnV,vargs,slotsL,opdsA,Nat.reduceEqDiff,Nat.reduceLT,Nat.reduceAdd,Nat.reduceBEq,Int.reduceAdd,Int.reduceSub,Int.reduceLT,Int.reduceLE,Int.reduceEq,Int.reduceNeg,↓reduceIte,reduceCtorEq,scL,scD,expand,List.replicate,k1,k2,k3])|apply gC_drawW|((first|apply gI_dec|apply gG_dec|apply gPG_dec|apply gI_var|apply gG_var|apply gPG_var)<;>intro _))
  all_goals try (exfalso;omega)
  have hwr:=words_free hf
  refine hT _ _ _ (hround dn r r [] st _ hw hwr hJ (fun st' hJ'=>?_) (fun st' hS=>?_))
  ·repeat' (first|(simp (disch:=first|omega|assumption|exact bd (by with_unfolding_all rfl)|exact Or.inl rfl|exact Or.inl trivial|exact okL_map _ (fun _=>rfl) _|(simp only[VVlen]<;>omega)|fail) only[VV0,VV1,VV2,VV3,VV4,VV5,VV6,VV7,VV8,VV9,mkFnV,vargs,slotsL,opdsA,Nat.reduceEqDiff,Nat.reduceLT,Nat.reduceAdd,Nat.reduceBEq,Int.reduceAdd,Int.reduceSub,Int.reduceLT,Int.reduceLE,Int.reduceEq,Int.reduceNeg,↓reduceIte,reduceCtorEq,scL,scD,expand,List.replicate])|apply gC_drawW|((first|apply gI_dec|apply gG_dec|apply gPG_dec|apply gI_var|apply gG_var|apply gPG_var)<;>intro _))
   exact hend _ _ r (by rw[hw,hwr];exact hJ')
  ·repeat' (first|(simp (disch:=first|omega|assumption|exact bd (by with_unfolding_all rfl)|exact Or.inl rfl|exact Or.inl trivial|exact okL_map _ (fun _=>rfl) _|(simp only[VVlen]<;>omega)|fail) only[VV0,VV1,VV2,VV3,VV4,VV5,VV6,VV7,VV8,VV9,mkFnV,vargs,slotsL,opdsA,Nat.reduceEqDiff,Nat.reduceLT,Nat.reduceAdd,Nat.reduceBEq,Int.reduceAdd,Int.reduceSub,Int.reduceLT,Int.reduceLE,Int.reduceEq,Int.reduceNeg,↓reduceIte,reduceCtorEq,scL,scD,expand,List.replicate])|apply gC_drawW|((first|apply gI_dec|apply gG_dec|apply gPG_dec|apply gI_var|apply gG_var|apply gPG_var)<;>intro _))
   exact hstop _ _ _ (fun i h=>by cases h) hS
 ·have hi:=idxB_app r' hf
  have hlen:(x++c::r').length=x.length+r'.length+1:=by simp;omega
  have hwr:=words_app r' hf
  have e1:=slcS_hi (x++c::r') .i64 x.length (by omega) (by rw[hlen];omega)
  have e2:=slcS_lo (x++c::r') .i64 ((x.length:Int)+1) (by omega) (by rw[hlen];omega)
  rw[Int.toNat_natCast,List.take_left] at e1
  rw[show ((x.length:Int)+1).toNat=x.length+1 by omega,show (x++c::r').drop (x.length+1)=r' by rw[← List.drop_drop];simp] at e2
  repeat' (first|(simp (disch:=first|omega|assumption|exact bd (by with_unfolding_all rfl)|exact Or.inl rfl|exact Or.inl trivial|exact okL_map _ (fun _=>rfl) _|(simp only[VVlen]<;>omega)|fail) only[VV0,VV1,VV2,VV3,VV4,VV5,VV6,VV7,VV8,VV9,mkFnV,vargs,slotsL,opdsA,Nat.reduceEqDiff,Nat.reduceLT,Nat.reduceAdd,Nat.reduceBEq,Int.reduceAdd,Int.reduceSub,Int.reduceLT,Int.reduceLE,Int.reduceEq,Int.reduceNeg,↓reduceIte,reduceCtorEq,scL,scD,expand,List.replicate,c52l0,k1,k2,k3])|apply gC_drawW|((first|apply gI_dec|apply gG_dec|apply gPG_dec|apply gI_var|apply gG_var|apply gPG_var)<;>intro _))
  refine callV_flat (hidx _ _ hrl) ?_
  rw[hi]
  repeat' (first|(simp (disch:=first|omega|assumption|exact bd (by with_unfolding_all rfl)|exact Or.inl rfl|exact Or.inl trivial|exact okL_map _ (fun _=>rfl) _|(simp only[VVlen]<;>omega)|fail) only[VV0,VV1,VV2,VV3,VV4,VV5,VV6,VV7,VV8,VV9,mkFnV,vargs,slotsL,opdsA,Nat.reduceEqDiff,Nat.reduceLT,Nat.reduceAdd,Nat.reduceBEq,Int.reduceAdd,Int.reduceSub,Int.reduceLT,Int.reduceLE,Int.reduceEq,Int.reduceNeg,↓reduceIte,reduceCtorEq,scL,scD,expand,List.replicate,k1,k2,k3,e1,Int.add_zero])|apply gC_drawW|((first|apply gI_dec|apply gG_dec|apply gPG_dec|apply gI_var|apply gG_var|apply gPG_var)<;>intro _))
  all_goals try (exfalso;omega)
  refine hT _ _ _ (hround dn _ x (words c r') _ _ hw hwr hJ (fun st' hJ'=>?_) (fun st' hS=>?_))
  ·obtain ⟨k1,k2,k3,k4⟩:=hbox _ _ _ hJ'
   repeat' (first|(simp (disch:=first|omega|assumption|exact bd (by with_unfolding_all rfl)|exact Or.inl rfl|exact Or.inl trivial|exact okL_map _ (fun _=>rfl) _|(simp only[VVlen]<;>omega)|fail) only[VV0,VV1,VV2,VV3,VV4,VV5,VV6,VV7,VV8,VV9,mkFnV,vargs,slotsL,opdsA,Nat.reduceEqDiff,Nat.reduceLT,Nat.reduceAdd,Nat.reduceBEq,Int.reduceAdd,Int.reduceSub,Int.reduceLT,Int.reduceLE,Int.reduceEq,Int.reduceNeg,↓reduceIte,reduceCtorEq,scL,scD,expand,List.replicate,k1,k2,k3,h1,h1i,e2])|apply gC_drawW|((first|apply gI_dec|apply gG_dec|apply gPG_dec|apply gI_var|apply gG_var|apply gPG_var)<;>intro _))
   refine ⟨_,_,_,?_,.refl _ _,dn++ [x],r',rfl,by omega,?_,hset _ _ r' _ hJ',rfl⟩
   ·rw[hlen];omega
   ·rw[hw,hwr];simp
  ·repeat' (first|(simp (disch:=first|omega|assumption|exact bd (by with_unfolding_all rfl)|exact Or.inl rfl|exact Or.inl trivial|exact okL_map _ (fun _=>rfl) _|(simp only[VVlen]<;>omega)|fail) only[VV0,VV1,VV2,VV3,VV4,VV5,VV6,VV7,VV8,VV9,mkFnV,vargs,slotsL,opdsA,Nat.reduceEqDiff,Nat.reduceLT,Nat.reduceAdd,Nat.reduceBEq,Int.reduceAdd,Int.reduceSub,Int.reduceLT,Int.reduceLE,Int.reduceEq,Int.reduceNeg,↓reduceIte,reduceCtorEq,scL,scD,expand,List.replicate])|apply gC_drawW|((first|apply gI_dec|apply gG_dec|apply gPG_dec|apply gI_var|apply gG_var|apply gPG_var)<;>intro _))
   exact hstop _ _ _ (fun i h=>by cases h) hS
end Go.Proofs.YtkjkiodoighgnaaDoor
namespace Go.Proofs.YtkjkiodoighgnaaDoor
open Go Go.Itp
set_option maxRecDepth 100000
set_option maxHeartbeats 1000000
set_option linter.unusedSimpArgs false
abbrev finV (r:List Int × Int):V:= .tup [.sl 3 r.1.length (r.1.map iD),.sc (.int .i64 r.2)]
def ptF (N i:Nat):Int:=((min (i % max 1 (2*N - 2)) (max 1 (2*N - 2) - i % max 1 (2*N - 2)):Nat):Int)
structure Zig (N k:Nat) (v d:Int):Prop where
 val:v=ptF N k
 one:d=1∨d= -1
 dir:1<N→k % (2*N - 2)=0∨d=if k % (2*N - 2)<N then 1 else -1
section
variable (w:World) (n:Nat)
end
end Go.Proofs.YtkjkiodoighgnaaDoor
namespace Go.Proofs.YtkjkiodoighgnaaDoor
open Go Go.Itp
set_option maxRecDepth 100000
set_option maxHeartbeats 1000000
set_option linter.unusedSimpArgs false
section
variable (w:World) (n:Nat)
theorem weak_finG {C:Ctx} {t o:Nat} {z:Bool} {l:List Int} {x:Value} {st:VSt} (ho:aget st.own o=some (.gro t 1 z (l.map iD))) (hz:z=false) (h0:C.w0.nx=0) (hro:st.ro=0):Weak C [(0,.tup [.gr 2 o l.length,.sc x])] st [(0,.tup [.sl 3 l.length (l.map iD),.sc x])] ⟨[],0,0⟩:=by
 subst hz
 refine weak_fin (snap_gr ho) ?_ (.inl (by omega)) h0 hro
 exact rowsB_gro _ _ _ _ _ _ _ _ ho (by rw[hro];exact Nat.zero_le _) rfl
end
end Go.Proofs.YtkjkiodoighgnaaDoor
namespace Go.Proofs.YtkjkiodoighgnaaDoor
open Go Go.Itp
set_option maxRecDepth 100000
set_option maxHeartbeats 1000000
set_option linter.unusedSimpArgs false
def cat (L:List (Nat × List Int)):List Int:=L.flatMap (·.2)
section
variable (w:World) (n:Nat)
end
end Go.Proofs.YtkjkiodoighgnaaDoor
namespace Go.Proofs.YtkjkiodoighgnaaDoor
open Go Go.Itp
set_option maxRecDepth 100000
set_option maxHeartbeats 1000000
set_option linter.unusedSimpArgs false
theorem okD_ne {s n:Nat} {l:List D} (h:s ≠ 1):okD (.sl s n l)=true:=by
 simp only[okD,Bool.or_eq_true,Bool.not_eq_true',nbf];exact .inl h
theorem chkL_one (s:Nat) (a:List Int):chkL [(s,a)]=chk a:=by
 simp only[chkL]
 split
 ·rename_i h;exact h.symm
 ·rfl
section
variable (w:World) (n:Nat)
end
end Go.Proofs.YtkjkiodoighgnaaDoor
namespace Go.Proofs.YtkjkiodoighgnaaDoor
open Go Go.Itp
set_option maxRecDepth 100000
set_option maxHeartbeats 1000000
set_option linter.unusedSimpArgs false
def sw (l:List Int) (k:Nat):List Int:=(List.range l.length).map fun x=>if x<k∨l.length - k≤x then l[l.length - 1 - x]! else l[x]!
section
variable (w:World) (n:Nat)
end
end Go.Proofs.YtkjkiodoighgnaaDoor
namespace Go.Proofs.YtkjkiodoighgnaaDoor
open Go Go.Itp
set_option maxRecDepth 100000
set_option maxHeartbeats 1000000
set_option linter.unusedSimpArgs false
set_option linter.unusedVariables false
def dw (x:Int):List UInt8:=Lib.itoa (x+1)
def txt (l:List Int):List UInt8:=join 32 (l.map dw)
def textF (l:List Int):List UInt8 × Int:=if chk l=0 then (txt l,0) else ([],chk l)
theorem txt_take (l:List Int) (k:Nat) (hk:k<l.length):txt (l.take (k+1))=(if k=0 then [] else txt (l.take k)++ [32])++dw l[k]! :=by
 unfold txt
 rw[List.take_succ_eq_append_getElem hk,List.map_append,List.map_cons,List.map_nil,getElem!_pos l k hk]
 cases k with
 |zero=>rfl
 |succ k=>
  rw[if_neg (by omega),join_snoc _ _ (fun e=>by
   have:((l.take (k+1)).map dw).length=0:=by rw[e];rfl
   rw[List.length_map,List.length_take] at this
   omega)]
  simp
theorem chk_facts {l:List Int} (h:chk l=0):l.length≤400∧∀ k,k<l.length→0≤l[k]! ∧l[k]! <400:=by
 unfold chk at h
 split at h
 ·cases h
 ·rename_i h4
  split at h
  ·rename_i ha
   refine ⟨by omega,fun k hk=>?_⟩
   have:=List.all_eq_true.1 ha l[k]! (by rw[getElem!_pos l k hk];exact List.getElem_mem hk)
   simpa [col] using this
  ·cases h
theorem dw_len {x:Int} (h0:0≤x) (h1:x<400):(dw x).length≤21:=Lib.itoa_length_le (x+1) (by omega) (by omega)
theorem txt_len (l:List Int) (h:∀ k,k<l.length→0≤l[k]! ∧l[k]! <400):∀ k,k≤l.length→(txt (l.take k)).length≤22*k
 |0,_=>by simp[txt,join]
 |k+1,hk=>by
  have ih:=txt_len l h k (by omega)
  have:=dw_len (h k (by omega)).1 (h k (by omega)).2
  rw[txt_take l k (by omega)]
  split
  ·rw[List.nil_append];omega
  ·rw[List.length_append,List.length_append,List.length_singleton];omega
section
variable (w:World) (n:Nat)
theorem pcheck_p (s:Nat) (l:List Int) (hs:s ≠ 1) (hl:l.length≤140737488351232):VSpec (EN w (n+2)) 17 [.sl s l.length (l.map iD)] (.sc (.int .i64 (chk l))) ⟨[],0,0⟩:=by
 refine vspec_flat rfl rfl (fun _ _=>rfl) (Nat.le_of_ble_eq_true rfl) (oldVals w) rfl fun C hC h0=>?_
 have o1:okD (.sl s l.length (l.map iD))=true:=okD_ne hs
 have hck:=check_p w n [(s,l)] (by simp) (fun k hk=>by
  rcases k with _|k
  ·exact hl
  ·simp at hk)
 rw[chkL_one] at hck
 repeat' (first|(simp (disch:=first|omega|assumption|exact bd (by with_unfolding_all rfl)|exact Or.inl rfl|exact Or.inl trivial|exact okL_map _ (fun _=>rfl) _|(simp only[VVlen]<;>omega)|fail) only[VV0,VV1,VV2,VV3,VV4,VV5,VV6,VV7,VV8,VV9,mkFnV,vargs,slotsL,opdsA,Nat.reduceEqDiff,Nat.reduceLT,Nat.reduceAdd,Nat.reduceBEq,Int.reduceAdd,Int.reduceSub,Int.reduceLT,Int.reduceLE,Int.reduceEq,Int.reduceNeg,↓reduceIte,reduceCtorEq,scL,scD,expand,List.replicate,c17])|apply gC_drawW|((first|apply gI_dec|apply gG_dec|apply gPG_dec|apply gI_var|apply gG_var|apply gPG_var)<;>intro _))
 refine callV_flat (by rw[hC];exact hck.flat rfl rfl) ?_
 repeat' (first|(simp (disch:=first|omega|assumption|exact bd (by with_unfolding_all rfl)|exact Or.inl rfl|exact Or.inl trivial|exact okL_map _ (fun _=>rfl) _|(simp only[VVlen]<;>omega)|fail) only[VV0,VV1,VV2,VV3,VV4,VV5,VV6,VV7,VV8,VV9,mkFnV,vargs,slotsL,opdsA,Nat.reduceEqDiff,Nat.reduceLT,Nat.reduceAdd,Nat.reduceBEq,Int.reduceAdd,Int.reduceSub,Int.reduceLT,Int.reduceLE,Int.reduceEq,Int.reduceNeg,↓reduceIte,reduceCtorEq,scL,scD,expand,List.replicate])|apply gC_drawW|((first|apply gI_dec|apply gG_dec|apply gPG_dec|apply gI_var|apply gG_var|apply gPG_var)<;>intro _))
 exact weak_flat rfl h0 rfl
theorem text_p (s:Nat) (hs:s ≠ 1) (l:List Int) (hl:l.length≤140737488351232):VSpec (EN w (n+5)) 8 [.sl s l.length (l.map iD)] (.tup [strV (textF l).1,.sc (.int .i64 (textF l).2)]) ⟨[],0,0⟩:=by
 refine vspec_flat rfl rfl (fun _ _=>rfl) (Nat.le_of_ble_eq_true rfl) (oldVals w) rfl fun C hC hn=>?_
 have o1:okD (.sl s l.length (l.map iD))=true:=okD_ne hs
 have hck:=check_p w (n+3) [(s,l)] (by simp) (fun k hk=>by
  rcases k with _|k
  ·exact hl
  ·simp at hk)
 rw[chkL_one] at hck
 repeat' (first|(simp (disch:=first|omega|assumption|exact bd (by with_unfolding_all rfl)|exact Or.inl rfl|exact Or.inl trivial|exact okL_map _ (fun _=>rfl) _|(simp only[VVlen]<;>omega)|fail) only[VV0,VV1,VV2,VV3,VV4,VV5,VV6,VV7,VV8,VV9,mkFnV,vargs,slotsL,opdsA,Nat.reduceEqDiff,Nat.reduceLT,Nat.reduceAdd,Nat.reduceBEq,Int.reduceAdd,Int.reduceSub,Int.reduceLT,Int.reduceLE,Int.reduceEq,Int.reduceNeg,↓reduceIte,reduceCtorEq,scL,scD,expand,List.replicate,c8])|apply gC_drawW|((first|apply gI_dec|apply gG_dec|apply gPG_dec|apply gI_var|apply gG_var|apply gPG_var)<;>intro _))
 refine callV_flat (by rw[hC];exact hck.flat rfl rfl) ?_
 by_cases h0:chk l=0
 case neg=>
  have e:textF l=([],chk l):=if_neg h0
  rw[e]
  repeat' (first|(simp (disch:=first|omega|assumption|exact bd (by with_unfolding_all rfl)|exact Or.inl rfl|exact Or.inl trivial|exact okL_map _ (fun _=>rfl) _|(simp only[VVlen]<;>omega)|fail) only[VV0,VV1,VV2,VV3,VV4,VV5,VV6,VV7,VV8,VV9,mkFnV,vargs,slotsL,opdsA,Nat.reduceEqDiff,Nat.reduceLT,Nat.reduceAdd,Nat.reduceBEq,Int.reduceAdd,Int.reduceSub,Int.reduceLT,Int.reduceLE,Int.reduceEq,Int.reduceNeg,↓reduceIte,reduceCtorEq,scL,scD,expand,List.replicate])|apply gC_drawW|((first|apply gI_dec|apply gG_dec|apply gPG_dec|apply gI_var|apply gG_var|apply gPG_var)<;>intro _))
  all_goals try (exfalso;omega)
  exact weak_flat rfl hn rfl
 obtain ⟨hl4,hcol⟩:=chk_facts h0
 have e:textF l=(txt l,0):=if_pos h0
 rw[e,h0]
 repeat' (first|(simp (disch:=first|omega|assumption|exact bd (by with_unfolding_all rfl)|exact Or.inl rfl|exact Or.inl trivial|exact okL_map _ (fun _=>rfl) _|(simp only[VVlen]<;>omega)|fail) only[VV0,VV1,VV2,VV3,VV4,VV5,VV6,VV7,VV8,VV9,mkFnV,vargs,slotsL,opdsA,Nat.reduceEqDiff,Nat.reduceLT,Nat.reduceAdd,Nat.reduceBEq,Int.reduceAdd,Int.reduceSub,Int.reduceLT,Int.reduceLE,Int.reduceEq,Int.reduceNeg,↓reduceIte,reduceCtorEq,scL,scD,expand,List.replicate])|apply gC_drawW|((first|apply gI_dec|apply gG_dec|apply gPG_dec|apply gI_var|apply gG_var|apply gPG_var)<;>intro _))
 refine g_while (fun m fr st=>∃ (k r nx:Nat) (p:V) (acc:ByteArray),m=l.length - k∧k≤l.length∧(r ≠ 0∧r ≠ 1∧r<nx∧1<nx)∧selfP 1 p∧acc.data.toList=txt (l.take k)∧
   fr= [(5,.ptr 1 0),(6,.fn 25 [.ptr 1 0] []),(16,.sl s l.length (l.map iD)),(17,.sc (.int .i64 l.length)),(18,.sc (.int .i64 k))]∧
   st=⟨[(r,.gro 5 1 false (strD acc)),(1,.box 50 1 [p,.gr 2 r acc.size]),(0,.row 22 1 false false [.sl s l.length (l.map iD)])],nx,0⟩) l.length ?_
  ⟨_,_,weak_nilCell (C:=C) (l:= [.sc (.pointer none),.sc (.slice none 0 0)]) 1 50 1 1 5 1 rfl rfl (fun h=>absurd (show (1:Nat)=2 from h) (by decide)),0,2,3,.sc (.pointer none),⟨#[]⟩,rfl,Nat.zero_le _,by decide,.inl rfl,rfl,rfl,rfl⟩ ?_
 ·rw[hC,callP_rounds];unfold many;omega
 rintro m fr st ⟨k,r,nx,p,acc,rfl,hk,⟨h1,h2,h3,h4⟩,hp,ha,rfl,rfl⟩
 have b1:¬ (1=r):=fun h=>h2 h.symm
 have b2:¬ (1=nx):=by omega
 have b3:¬ (r=nx):=by omega
 have hbn:=txt_len l hcol k hk
 have hasz:acc.size=(txt (l.take k)).length:=by rw[← ha];simp
 by_cases hlt:k<l.length
 ·obtain ⟨c0,c1⟩:=hcol k hlt
  have htk:=txt_take l k hlt
  have hdl:=dw_len c0 c1
  have hdwd:Lib.itoa (l[k]! +1)=dw l[k]! :=rfl
  have hsz:(⟨(dw l[k]!).toArray⟩:ByteArray).size=(dw l[k]!).length:=by simp[ByteArray.size]
  generalize hx:l[k]! =x at*
  by_cases hz:k=0
  ·subst hz
   repeat' (first|(simp (disch:=first|omega|assumption|exact bd (by with_unfolding_all rfl)|exact Or.inl rfl|exact Or.inl trivial|exact okL_map _ (fun _=>rfl) _|(simp only[VVlen]<;>omega)|fail) only[VV0,VV1,VV2,VV3,VV4,VV5,VV6,VV7,VV8,VV9,mkFnV,vargs,slotsL,opdsA,Nat.reduceEqDiff,Nat.reduceLT,Nat.reduceAdd,Nat.reduceBEq,Int.reduceAdd,Int.reduceSub,Int.reduceLT,Int.reduceLE,Int.reduceEq,Int.reduceNeg,↓reduceIte,reduceCtorEq,scL,scD,expand,List.replicate,c8l0,iD_dv,hx])|apply gC_drawW|((first|apply gI_dec|apply gG_dec|apply gPG_dec|apply gI_var|apply gG_var|apply gPG_var)<;>intro _))
   all_goals try (exfalso;omega)
   refine callV_flat (by rw[hC];exact itoa_s w (n+3) _ _ (by omega) (by omega)) ?_
   rw[hdwd]
   repeat' (first|(simp (disch:=first|omega|assumption|exact bd (by with_unfolding_all rfl)|exact Or.inl rfl|exact Or.inl trivial|exact okL_map _ (fun _=>rfl) _|(simp only[VVlen]<;>omega)|fail) only[VV0,VV1,VV2,VV3,VV4,VV5,VV6,VV7,VV8,VV9,mkFnV,vargs,slotsL,opdsA,Nat.reduceEqDiff,Nat.reduceLT,Nat.reduceAdd,Nat.reduceBEq,Int.reduceAdd,Int.reduceSub,Int.reduceLT,Int.reduceLE,Int.reduceEq,Int.reduceNeg,↓reduceIte,reduceCtorEq,scL,scD,expand,List.replicate,b1,b2,b3])|apply gC_drawW|((first|apply gI_dec|apply gG_dec|apply gPG_dec|apply gI_var|apply gG_var|apply gPG_var)<;>intro _))
   refine writeString_w w (n+1) hC 1 r p acc _ (by simp[aget_cons,b1]) (by simp[aget_cons]) hp (Nat.zero_le _) (Nat.zero_le _) h2 b2 (by omega) ?_
   repeat' (first|(simp (disch:=first|omega|assumption|exact bd (by with_unfolding_all rfl)|exact Or.inl rfl|exact Or.inl trivial|exact okL_map _ (fun _=>rfl) _|(simp only[VVlen]<;>omega)|fail) only[VV0,VV1,VV2,VV3,VV4,VV5,VV6,VV7,VV8,VV9,mkFnV,vargs,slotsL,opdsA,Nat.reduceEqDiff,Nat.reduceLT,Nat.reduceAdd,Nat.reduceBEq,Int.reduceAdd,Int.reduceSub,Int.reduceLT,Int.reduceLE,Int.reduceEq,Int.reduceNeg,↓reduceIte,reduceCtorEq,scL,scD,expand,List.replicate,b1,b2,b3,h1,h2])|apply gC_drawW|((first|apply gI_dec|apply gG_dec|apply gPG_dec|apply gI_var|apply gG_var|apply gPG_var)<;>intro _))
   refine ⟨_,_,_,?_,.refl _ _,1,nx,nx+1,.ptr 1 0,acc++⟨(dw x).toArray⟩,rfl,hlt,by omega,.inr rfl,?_,rfl,?_⟩
   ·omega
   ·rw[ByteArray.data_append,Array.toList_append,ha,htk,if_pos rfl];rfl
   ·rw[ByteArray.size_append]
  ·have c1:¬ (1=nx+1):=by omega
   have c2:¬ (nx=1):=by omega
   have c3:¬ (nx=0):=by omega
   have c4:¬ (0=nx):=by omega
   have c5:¬ (nx=nx+1):=by omega
   have q6:(⟨#[32]⟩:ByteArray).size=1:=rfl
   repeat' (first|(simp (disch:=first|omega|assumption|exact bd (by with_unfolding_all rfl)|exact Or.inl rfl|exact Or.inl trivial|exact okL_map _ (fun _=>rfl) _|(simp only[VVlen]<;>omega)|fail) only[VV0,VV1,VV2,VV3,VV4,VV5,VV6,VV7,VV8,VV9,mkFnV,vargs,slotsL,opdsA,Nat.reduceEqDiff,Nat.reduceLT,Nat.reduceAdd,Nat.reduceBEq,Int.reduceAdd,Int.reduceSub,Int.reduceLT,Int.reduceLE,Int.reduceEq,Int.reduceNeg,↓reduceIte,reduceCtorEq,scL,scD,expand,List.replicate,c8l0,iD_dv,hx])|apply gC_drawW|((first|apply gI_dec|apply gG_dec|apply gPG_dec|apply gI_var|apply gG_var|apply gPG_var)<;>intro _))
   all_goals try (exfalso;omega)
   refine writeString_w w (n+1) hC 1 r p acc _ (by simp[aget_cons,b1]) (by simp[aget_cons]) hp (Nat.zero_le _) (Nat.zero_le _) h2 b2 (by omega) ?_
   repeat' (first|(simp (disch:=first|omega|assumption|exact bd (by with_unfolding_all rfl)|exact Or.inl rfl|exact Or.inl trivial|exact okL_map _ (fun _=>rfl) _|(simp only[VVlen]<;>omega)|fail) only[VV0,VV1,VV2,VV3,VV4,VV5,VV6,VV7,VV8,VV9,mkFnV,vargs,slotsL,opdsA,Nat.reduceEqDiff,Nat.reduceLT,Nat.reduceAdd,Nat.reduceBEq,Int.reduceAdd,Int.reduceSub,Int.reduceLT,Int.reduceLE,Int.reduceEq,Int.reduceNeg,↓reduceIte,reduceCtorEq,scL,scD,expand,List.replicate,b1,b2,b3,h1,h2])|apply gC_drawW|((first|apply gI_dec|apply gG_dec|apply gPG_dec|apply gI_var|apply gG_var|apply gPG_var)<;>intro _))
   refine callV_flat (by rw[hC];exact itoa_s w (n+3) _ _ (by omega) (by omega)) ?_
   rw[hdwd]
   repeat' (first|(simp (disch:=first|omega|assumption|exact bd (by with_unfolding_all rfl)|exact Or.inl rfl|exact Or.inl trivial|exact okL_map _ (fun _=>rfl) _|(simp only[VVlen]<;>omega)|fail) only[VV0,VV1,VV2,VV3,VV4,VV5,VV6,VV7,VV8,VV9,mkFnV,vargs,slotsL,opdsA,Nat.reduceEqDiff,Nat.reduceLT,Nat.reduceAdd,Nat.reduceBEq,Int.reduceAdd,Int.reduceSub,Int.reduceLT,Int.reduceLE,Int.reduceEq,Int.reduceNeg,↓reduceIte,reduceCtorEq,scL,scD,expand,List.replicate,b1,b2,b3,h1,h2])|apply gC_drawW|((first|apply gI_dec|apply gG_dec|apply gPG_dec|apply gI_var|apply gG_var|apply gPG_var)<;>intro _))
   refine writeString_w w (n+1) hC 1 nx (.ptr 1 0) (acc++⟨#[32]⟩) _ (by simp[aget_cons,b2,ByteArray.size_append]) (by simp[aget_cons]) (.inr rfl) (Nat.zero_le _) (Nat.zero_le _) c2 c1 (by rw[ByteArray.size_append];omega) ?_
   repeat' (first|(simp (disch:=first|omega|assumption|exact bd (by with_unfolding_all rfl)|exact Or.inl rfl|exact Or.inl trivial|exact okL_map _ (fun _=>rfl) _|(simp only[VVlen]<;>omega)|fail) only[VV0,VV1,VV2,VV3,VV4,VV5,VV6,VV7,VV8,VV9,mkFnV,vargs,slotsL,opdsA,Nat.reduceEqDiff,Nat.reduceLT,Nat.reduceAdd,Nat.reduceBEq,Int.reduceAdd,Int.reduceSub,Int.reduceLT,Int.reduceLE,Int.reduceEq,Int.reduceNeg,↓reduceIte,reduceCtorEq,scL,scD,expand,List.replicate,b1,b2,b3,h1,h2,c1,c2,c3,c4,c5])|apply gC_drawW|((first|apply gI_dec|apply gG_dec|apply gPG_dec|apply gI_var|apply gG_var|apply gPG_var)<;>intro _))
   refine ⟨_,_,_,?_,.refl _ _,k+1,nx+1,nx+1+1,.ptr 1 0,acc++⟨#[32]⟩++⟨(dw x).toArray⟩,rfl,hlt,by omega,.inr rfl,?_,rfl,?_⟩
   ·omega
   ·rw[ByteArray.data_append,Array.toList_append,ByteArray.data_append,Array.toList_append,ha,htk,if_neg hz]
   ·simp only[ByteArray.size_append]
 ·have:k=l.length:=by omega
  subst this
  rw[List.take_length] at ha hasz hbn
  have hacc:acc=⟨(txt l).toArray⟩:=by
   apply ByteArray.ext;apply Array.ext';rw[ha]
  repeat' (first|(simp (disch:=first|omega|assumption|exact bd (by with_unfolding_all rfl)|exact Or.inl rfl|exact Or.inl trivial|exact okL_map _ (fun _=>rfl) _|(simp only[VVlen]<;>omega)|fail) only[VV0,VV1,VV2,VV3,VV4,VV5,VV6,VV7,VV8,VV9,mkFnV,vargs,slotsL,opdsA,Nat.reduceEqDiff,Nat.reduceLT,Nat.reduceAdd,Nat.reduceBEq,Int.reduceAdd,Int.reduceSub,Int.reduceLT,Int.reduceLE,Int.reduceEq,Int.reduceNeg,↓reduceIte,reduceCtorEq,scL,scD,expand,List.replicate,c8l0])|apply gC_drawW|((first|apply gI_dec|apply gG_dec|apply gPG_dec|apply gI_var|apply gG_var|apply gPG_var)<;>intro _))
  refine string_w w (n+3) hC 1 r p acc (by simp[aget_cons,b1]) (by simp[aget_cons]) (Nat.zero_le _) (Nat.zero_le _) (by omega) fun st' hst=>?_
  rw[hacc]
  repeat' (first|(simp (disch:=first|omega|assumption|exact bd (by with_unfolding_all rfl)|exact Or.inl rfl|exact Or.inl trivial|exact okL_map _ (fun _=>rfl) _|(simp only[VVlen]<;>omega)|fail) only[VV0,VV1,VV2,VV3,VV4,VV5,VV6,VV7,VV8,VV9,mkFnV,vargs,slotsL,opdsA,Nat.reduceEqDiff,Nat.reduceLT,Nat.reduceAdd,Nat.reduceBEq,Int.reduceAdd,Int.reduceSub,Int.reduceLT,Int.reduceLE,Int.reduceEq,Int.reduceNeg,↓reduceIte,reduceCtorEq,scL,scD,expand,List.replicate])|apply gC_drawW|((first|apply gI_dec|apply gG_dec|apply gPG_dec|apply gI_var|apply gG_var|apply gPG_var)<;>intro _))
  exact weak_flat rfl hn hst
end
end Go.Proofs.YtkjkiodoighgnaaDoor
namespace Go.Proofs.YtkjkiodoighgnaaDoor
open Go Go.Itp
set_option maxRecDepth 100000
set_option maxHeartbeats 2000000
set_option linter.unusedSimpArgs false
set_option linter.unusedVariables false
def numA (l:List UInt8):Option Int:=match Lib.atoiAll l with
 | .ok v=>some v
 |_=>none
theorem numA_ok {l:List UInt8} {v:Int} (h:numA l=some v):Lib.atoiAll l= .ok v:=by
 unfold numA at h
 split at h
 ·rename_i u hu;cases h;exact hu
 ·cases h
theorem numA_none {l:List UInt8} (h:numA l=none) (v:Int):Lib.atoiAll l ≠ .ok v:=by
 intro e
 unfold numA at h
 rw[e] at h
 cases h
def readN (x:List UInt8):Option Int:=(numA x).bind fun v=>if Lib.itoa v=x∧¬ v<1 then some (v - 1) else none
def parseA:List (List UInt8)→Option (List Int)
 | []=>some []
 |x::ws=>(readN x).bind fun p=>(parseA ws).map (p::·)
theorem parseA_append:∀ {a:List (List UInt8)} {Q:List Int} (ws:List (List UInt8)),parseA a=some Q→parseA (a++ws)=(parseA ws).map (Q++·)
 | [],Q,ws,h=>by
  simp only[parseA,Option.some.injEq] at h;subst h
  simp
 |x::a,Q,ws,h=>by
  simp only[parseA,Option.bind_eq_some_iff,Option.map_eq_some_iff] at h
  obtain ⟨p,h1,R,h2,rfl⟩:=h
  simp only[List.cons_append,parseA,h1,Option.bind_some,parseA_append ws h2]
  cases parseA ws<;>rfl
theorem parseA_len:∀ {a:List (List UInt8)} {Q:List Int},parseA a=some Q→Q.length=a.length
 | [],Q,h=>by simp only[parseA,Option.some.injEq] at h;subst h;rfl
 |x::a,Q,h=>by
  simp only[parseA,Option.bind_eq_some_iff,Option.map_eq_some_iff] at h
  obtain ⟨p,h1,R,h2,rfl⟩:=h
  simp[parseA_len h2]
def pparseF (s:List UInt8):List Int × Int:=
 if s= [] then ([],0) else match parseA (words 32 s) with
  |none=>([],12)
  |some R=>if chk R=0 then (R,0) else ([],12)
abbrev baseV (g:Nat) (Q:List Int) (r:List UInt8) (c:Int):VHp:=
 [(g,.gro 3 1 false (Q.map iD)),(5,.box 3 1 [.sc (.int .i64 0)]),(4,sBox [32]),(3,sBox r),(2,.box 22 1 [.gr 2 g Q.length]),(1,.box 24 1 [.sc (.int .i64 c)]),(0,.box 22 1 [.sc (.slice none 0 0)])]
section
variable (w:World) (n:Nat)
theorem atoi_any {C:Ctx} {st:VSt} {Q:V→VSt→Prop} (hC:C.E=EN w (n+1)) (l:List UInt8) (hl:l.length≤1000000) (hes:(errO Tryd.prog w "strconv.ErrSyntax").isSome=true) (her:(errO Tryd.prog w "strconv.ErrRange").isSome=true)
  (h1:∀ v,numA l=some v→Q (.tup [.sc (.int .i64 v),.sc .nilIface]) st)
  (h2:numA l=none→∀ (k:Int) (cs:List V),Q (.tup [.sc (.int .i64 k),.ifc 87 (.ptr st.next 0)]) ⟨(st.next,.box 104 1 cs)::st.own,st.next+1,st.ro⟩):CallV C 29 [strV l] st Q:=by
 have hs:(ByteArray.mk l.toArray).size≤281474976710656:=by rw[mk_size];omega
 cases hu:numA l with
 |some v=>exact callV_flat (by rw[hC];exact atoi_s w n _ ⟨l.toArray⟩ v hs (numA_ok hu)) (h1 v hu)
 |none=>
  obtain ⟨k,cs,sp⟩:=atoi_f w n ⟨l.toArray⟩ hs hes her (numA_none hu)
  refine callV_of (by rw[hC];exact sp) rfl rfl rfl ?_
  obtain ⟨H,nx,ro⟩:=st
  have:=h2 hu k (vshL nx (cs.map V.sc))
  simp only[vsh,vshL,shH,shO,fzSL,fzS,frozA_none,Nat.add_zero,Nat.zero_add,List.nil_append,List.cons_append] at this ⊢
  exact this
theorem parse_round {C:Ctx} (hC:C.E=EN w (n+7)) (hes:(errO Tryd.prog w "strconv.ErrSyntax").isSome=true) (her:(errO Tryd.prog w "strconv.ErrRange").isSome=true) (x r:List UInt8) (hx:x.length≤100000) (g nx:Nat) (Q:List Int) (hQl:Q.length≤200000)
  (g1:g ≠ 0) (g2:g ≠ 1) (g3:g ≠ 2) (g4:g ≠ 3) (g5:g ≠ 4) (g6:g ≠ 5) (g7:g ≠ 7) (g8:g<nx) (g9:7<nx) (Q2:V→VSt→Prop)
  (hgo:∀ p,readN x=some p→Q2 (.sc (.bool true)) ⟨(7,recO 0)::baseV (nx+1) (Q++ [p]) r 0,nx+2,0⟩)
  (hstop:readN x=none→∀ nx',nx≤nx'→Q2 (.sc (.bool false)) ⟨(7,recO (codeOf .ret))::baseV g Q r 12,nx',0⟩):
  RoundV C.E c9a0 c9b0 [(2,.ptr 0 0),(3,.ptr 1 0),(4,.ptr 2 0)] [12] 7 [strV x] ⟨(7,recO 0)::baseV g Q r 0,nx,0⟩ Q2:=by
 have b1:¬ (7=nx):=by omega
 have b2:¬ (g=nx):=by omega
 have b3:¬ (5=nx):=by omega
 have b4:¬ (4=nx):=by omega
 have b5:¬ (3=nx):=by omega
 have b6:¬ (2=nx):=by omega
 have b7:¬ (1=nx):=by omega
 have b8:¬ (0=nx):=by omega
 have f1:=Ne.symm g1
 have f2:=Ne.symm g2
 have f3:=Ne.symm g3
 have f4:=Ne.symm g4
 have f5:=Ne.symm g5
 have f6:=Ne.symm g6
 have f7:=Ne.symm g7
 have hrd:readN x=(numA x).bind fun v=>if Lib.itoa v=x∧¬ v<1 then some (v - 1) else none:=rfl
 refine ⟨Nat.zero_le _,rfl,g9,_,rfl,fun C4 h4c h4n=>?_⟩
 have hcs:C4.E=EN w (n+6+1):=h4c.trans hC
 repeat' (first|(simp (disch:=first|omega|assumption|exact bd (by with_unfolding_all rfl)|exact Or.inl rfl|exact Or.inl trivial|exact okL_map _ (fun _=>rfl) _|(simp only[VVlen]<;>omega)|fail) only[VV0,VV1,VV2,VV3,VV4,VV5,VV6,VV7,VV8,VV9,mkFnV,vargs,slotsL,opdsA,Nat.reduceEqDiff,Nat.reduceLT,Nat.reduceAdd,Nat.reduceBEq,Int.reduceAdd,Int.reduceSub,Int.reduceLT,Int.reduceLE,Int.reduceEq,Int.reduceNeg,↓reduceIte,reduceCtorEq,scL,scD,expand,List.replicate,c9a0,eqIf_ifc,eqIf_nil,eqIfA_nn,b1,b2,b3,b4,b5,b6,b7,b8,g1,g2,g3,g4,g5,g6,g7,f1,f2,f3,f4,f5,f6,f7])|apply gC_drawW|((first|apply gI_dec|apply gG_dec|apply gPG_dec|apply gI_var|apply gG_var|apply gPG_var)<;>intro _))
 refine ⟨trivial,Nat.zero_le _,trivial,?_⟩
 repeat' (first|(simp (disch:=first|omega|assumption|exact bd (by with_unfolding_all rfl)|exact Or.inl rfl|exact Or.inl trivial|exact okL_map _ (fun _=>rfl) _|(simp only[VVlen]<;>omega)|fail) only[VV0,VV1,VV2,VV3,VV4,VV5,VV6,VV7,VV8,VV9,mkFnV,vargs,slotsL,opdsA,Nat.reduceEqDiff,Nat.reduceLT,Nat.reduceAdd,Nat.reduceBEq,Int.reduceAdd,Int.reduceSub,Int.reduceLT,Int.reduceLE,Int.reduceEq,Int.reduceNeg,↓reduceIte,reduceCtorEq,scL,scD,expand,List.replicate,c9b0,eqIf_ifc,eqIf_nil,eqIfA_nn,b1,b2,b3,b4,b5,b6,b7,b8,g1,g2,g3,g4,g5,g6,g7,f1,f2,f3,f4,f5,f6,f7])|apply gC_drawW|((first|apply gI_dec|apply gG_dec|apply gPG_dec|apply gI_var|apply gG_var|apply gPG_var)<;>intro _))
 have k1:¬ (7=nx+1):=by omega
 have k2:¬ (g=nx+1):=by omega
 have k3:¬ (5=nx+1):=by omega
 have k4:¬ (4=nx+1):=by omega
 have k5:¬ (3=nx+1):=by omega
 have k6:¬ (2=nx+1):=by omega
 have k7:¬ (1=nx+1):=by omega
 have k8:¬ (0=nx+1):=by omega
 refine atoi_any w (n+6) hcs x (by omega) hes her (fun v hv=>?_) (fun hv kv cv=>?_)
 ·have hvb:=Lib.atoiAll_bounds (numA_ok hv)
  rw[hv,Option.bind_some] at hrd
  repeat' (first|(simp (disch:=first|omega|assumption|exact bd (by with_unfolding_all rfl)|exact Or.inl rfl|exact Or.inl trivial|exact okL_map _ (fun _=>rfl) _|(simp only[VVlen]<;>omega)|fail) only[VV0,VV1,VV2,VV3,VV4,VV5,VV6,VV7,VV8,VV9,mkFnV,vargs,slotsL,opdsA,Nat.reduceEqDiff,Nat.reduceLT,Nat.reduceAdd,Nat.reduceBEq,Int.reduceAdd,Int.reduceSub,Int.reduceLT,Int.reduceLE,Int.reduceEq,Int.reduceNeg,↓reduceIte,reduceCtorEq,scL,scD,expand,List.replicate,baseV,eqIf_ifc,eqIf_nil,eqIfA_nn,b1,b2,b3,b4,b5,b6,b7,b8,g1,g2,g3,g4,g5,g6,g7,f1,f2,f3,f4,f5,f6,f7])|apply gC_drawW|((first|apply gI_dec|apply gG_dec|apply gPG_dec|apply gI_var|apply gG_var|apply gPG_var)<;>intro _))
  refine callV_flat (by rw[hcs];exact itoa_s w (n+6) _ _ hvb.1 hvb.2) ?_
  have m1:¬ (nx=6):=by omega
  have m2:¬ (nx=4):=by omega
  have m3:¬ (nx=3):=by omega
  have m4:¬ (nx=2):=by omega
  have m5:¬ (nx=1):=by omega
  have m6:¬ (nx=0):=by omega
  by_cases he:Lib.itoa v=x
  case neg=>
   repeat' (first|(simp (disch:=first|omega|assumption|exact bd (by with_unfolding_all rfl)|exact Or.inl rfl|exact Or.inl trivial|exact okL_map _ (fun _=>rfl) _|(simp only[VVlen]<;>omega)|fail) only[VV0,VV1,VV2,VV3,VV4,VV5,VV6,VV7,VV8,VV9,mkFnV,vargs,slotsL,opdsA,Nat.reduceEqDiff,Nat.reduceLT,Nat.reduceAdd,Nat.reduceBEq,Int.reduceAdd,Int.reduceSub,Int.reduceLT,Int.reduceLE,Int.reduceEq,Int.reduceNeg,↓reduceIte,reduceCtorEq,scL,scD,expand,List.replicate,mk_inj,he,b1,b2,b3,b4,b5,b6,b7,b8,g1,g2,g3,g4,g5,g6,g7,f1,f2,f3,f4,f5,f6,f7])|apply gC_drawW|((first|apply gI_dec|apply gG_dec|apply gPG_dec|apply gI_var|apply gG_var|apply gPG_var)<;>intro _))
   exact ⟨Nat.zero_le _,trivial,_,.refl _ _,hstop (by rw[hrd,if_neg (fun h=>he h.1)]) _ (by omega)⟩
  by_cases hv1:v<1
  ·repeat' (first|(simp (disch:=first|omega|assumption|exact bd (by with_unfolding_all rfl)|exact Or.inl rfl|exact Or.inl trivial|exact okL_map _ (fun _=>rfl) _|(simp only[VVlen]<;>omega)|fail) only[VV0,VV1,VV2,VV3,VV4,VV5,VV6,VV7,VV8,VV9,mkFnV,vargs,slotsL,opdsA,Nat.reduceEqDiff,Nat.reduceLT,Nat.reduceAdd,Nat.reduceBEq,Int.reduceAdd,Int.reduceSub,Int.reduceLT,Int.reduceLE,Int.reduceEq,Int.reduceNeg,↓reduceIte,reduceCtorEq,scL,scD,expand,List.replicate,mk_inj,he,b1,b2,b3,b4,b5,b6,b7,b8,g1,g2,g3,g4,g5,g6,g7,f1,f2,f3,f4,f5,f6,f7])|apply gC_drawW|((first|apply gI_dec|apply gG_dec|apply gPG_dec|apply gI_var|apply gG_var|apply gPG_var)<;>intro _))
   exact ⟨Nat.zero_le _,trivial,_,.refl _ _,hstop (by rw[hrd,if_neg (fun h=>h.2 hv1)]) _ (by omega)⟩
  ·repeat' (first|(simp (disch:=first|omega|assumption|exact bd (by with_unfolding_all rfl)|exact Or.inl rfl|exact Or.inl trivial|exact okL_map _ (fun _=>rfl) _|(simp only[VVlen]<;>omega)|fail) only[VV0,VV1,VV2,VV3,VV4,VV5,VV6,VV7,VV8,VV9,mkFnV,vargs,slotsL,opdsA,Nat.reduceEqDiff,Nat.reduceLT,Nat.reduceAdd,Nat.reduceBEq,Int.reduceAdd,Int.reduceSub,Int.reduceLT,Int.reduceLE,Int.reduceEq,Int.reduceNeg,↓reduceIte,reduceCtorEq,scL,scD,expand,List.replicate,mk_inj,he,b1,b2,b3,b4,b5,b6,b7,b8,g1,g2,g3,g4,g5,g6,g7,f1,f2,f3,f4,f5,f6,f7,k1,k2,k3,k4,k5,k6,k7,k8])|apply gC_drawW|((first|apply gI_dec|apply gG_dec|apply gPG_dec|apply gI_var|apply gG_var|apply gPG_var)<;>intro _))
   have hh:=hgo (v - 1) (by rw[hrd,if_pos ⟨he,hv1⟩])
   have hnx4:C4.w0.nx=nx:=h4n
   refine ⟨Nat.zero_le _,trivial,_,weak_keep [7,nx+1,5,4,3,2,1,0] (by simp;omega) (by simp;omega) (by omega),Eq.mp (congrArg (Q2 _) ?_) hh⟩
   simp[baseV,iD,idR,renH,aget_cons,renO,recO,vrenL,vren,codeOf,b1,b2,b3,b4,b5,b6,b7,b8,g1,g2,g3,g4,g5,g6,g7,f1,f2,f3,f4,f5,f6,f7,k1,k2,k3,k4,k5,k6,k7,k8,m1,m2,m3,m4,m5,m6]
 ·repeat' (first|(simp (disch:=first|omega|assumption|exact bd (by with_unfolding_all rfl)|exact Or.inl rfl|exact Or.inl trivial|exact okL_map _ (fun _=>rfl) _|(simp only[VVlen]<;>omega)|fail) only[VV0,VV1,VV2,VV3,VV4,VV5,VV6,VV7,VV8,VV9,mkFnV,vargs,slotsL,opdsA,Nat.reduceEqDiff,Nat.reduceLT,Nat.reduceAdd,Nat.reduceBEq,Int.reduceAdd,Int.reduceSub,Int.reduceLT,Int.reduceLE,Int.reduceEq,Int.reduceNeg,↓reduceIte,reduceCtorEq,scL,scD,expand,List.replicate,baseV,eqIf_ifc,eqIf_nil,eqIfA_nn,b1,b2,b3,b4,b5,b6,b7,b8,g1,g2,g3,g4,g5,g6,g7,f1,f2,f3,f4,f5,f6,f7,k1,k2,k3,k4,k5,k6,k7,k8])|apply gC_drawW|((first|apply gI_dec|apply gG_dec|apply gPG_dec|apply gI_var|apply gG_var|apply gPG_var)<;>intro _))
  exact ⟨Nat.zero_le _,trivial,_,(weak_front (aget_fresh _ _ (by simp;omega))).trans (.refl _ _),hstop (by rw[hrd,hv];rfl) _ (by omega)⟩
theorem parse_p (s:List UInt8) (hl:s.length≤100000) (hes:(errO Tryd.prog w "strconv.ErrSyntax").isSome=true) (her:(errO Tryd.prog w "strconv.ErrRange").isSome=true):VSpec (EN w (n+8)) 9 [strV s] (finV (pparseF s)) ⟨[],0,0⟩:=by
 refine vspec_g rfl rfl (fun _ _=>rfl) (Nat.le_of_ble_eq_true rfl) (oldVals w) retOK_fin rfl fun C hC hn=>?_
 have hsz:=mk_size s
 by_cases hs:s= []
 ·subst hs
  repeat' (first|(simp (disch:=first|omega|assumption|exact bd (by with_unfolding_all rfl)|exact Or.inl rfl|exact Or.inl trivial|exact okL_map _ (fun _=>rfl) _|(simp only[VVlen]<;>omega)|fail) only[VV0,VV1,VV2,VV3,VV4,VV5,VV6,VV7,VV8,VV9,mkFnV,vargs,slotsL,opdsA,Nat.reduceEqDiff,Nat.reduceLT,Nat.reduceAdd,Nat.reduceBEq,Int.reduceAdd,Int.reduceSub,Int.reduceLT,Int.reduceLE,Int.reduceEq,Int.reduceNeg,↓reduceIte,reduceCtorEq,scL,scD,expand,List.replicate,c9])|apply gC_drawW|((first|apply gI_dec|apply gG_dec|apply gPG_dec|apply gI_var|apply gG_var|apply gPG_var)<;>intro _))
  exact weak_finNil hn rfl
 have hs':¬ (ByteArray.mk s.toArray=ByteArray.mk #[]):=fun h=>hs (by
  have:=congrArg (fun b:ByteArray=>b.data.toList) h
  simpa using this)
 repeat' (first|(simp (disch:=first|omega|assumption|exact bd (by with_unfolding_all rfl)|exact Or.inl rfl|exact Or.inl trivial|exact okL_map _ (fun _=>rfl) _|(simp only[VVlen]<;>omega)|fail) only[VV0,VV1,VV2,VV3,VV4,VV5,VV6,VV7,VV8,VV9,mkFnV,vargs,slotsL,opdsA,Nat.reduceEqDiff,Nat.reduceLT,Nat.reduceAdd,Nat.reduceBEq,Int.reduceAdd,Int.reduceSub,Int.reduceLT,Int.reduceLE,Int.reduceEq,Int.reduceNeg,↓reduceIte,reduceCtorEq,scL,scD,expand,List.replicate,c9,hs'])|apply gC_drawW|((first|apply gI_dec|apply gG_dec|apply gPG_dec|apply gI_var|apply gG_var|apply gPG_var)<;>intro _))
 refine callV_of (by rw[hC];exact splitSeq_p w (n+5) s 32) rfl rfl rfl ?_
 repeat' (first|(simp (disch:=first|omega|assumption|exact bd (by with_unfolding_all rfl)|exact Or.inl rfl|exact Or.inl trivial|exact okL_map _ (fun _=>rfl) _|(simp only[VVlen]<;>omega)|fail) only[VV0,VV1,VV2,VV3,VV4,VV5,VV6,VV7,VV8,VV9,mkFnV,vargs,slotsL,opdsA,Nat.reduceEqDiff,Nat.reduceLT,Nat.reduceAdd,Nat.reduceBEq,Int.reduceAdd,Int.reduceSub,Int.reduceLT,Int.reduceLE,Int.reduceEq,Int.reduceNeg,↓reduceIte,reduceCtorEq,scL,scD,expand,List.replicate,vsh,vshL,shH,shO,fzSL,fzS])|apply gC_drawW|((first|apply gI_dec|apply gG_dec|apply gPG_dec|apply gI_var|apply gG_var|apply gPG_var)<;>intro _))
 refine g_rangeW (weak_nilCell (C:=C) (l:= [.sc (.slice none 0 0)]) 2 22 1 0 3 1 rfl rfl (fun h=>absurd (show (2:Nat)=6 from h) (by decide))) ?_
 refine g_range hC rfl rfl rfl (Nat.le_of_ble_eq_true rfl) rfl (Nat.zero_le _) fun C2 h2n h2r h2p h2o hT=>?_
 repeat' (first|(simp (disch:=first|omega|assumption|exact bd (by with_unfolding_all rfl)|exact Or.inl rfl|exact Or.inl trivial|exact okL_map _ (fun _=>rfl) _|(simp only[VVlen]<;>omega)|fail) only[VV0,VV1,VV2,VV3,VV4,VV5,VV6,VV7,VV8,VV9,mkFnV,vargs,slotsL,opdsA,Nat.reduceEqDiff,Nat.reduceLT,Nat.reduceAdd,Nat.reduceBEq,Int.reduceAdd,Int.reduceSub,Int.reduceLT,Int.reduceLE,Int.reduceEq,Int.reduceNeg,↓reduceIte,reduceCtorEq,scL,scD,expand,List.replicate])|apply gC_drawW|((first|apply gI_dec|apply gG_dec|apply gPG_dec|apply gI_var|apply gG_var|apply gPG_var)<;>intro _))
 refine split_iter (d:=7) (oP:=4) (oS:=3) (oV:=5) (c:=32) (s:=s) w (n+2)
  (fun dn r st=>∃ (g nx:Nat) (Q:List Int),(g ≠ 0∧g ≠ 1∧g ≠ 2∧g ≠ 3∧g ≠ 4∧g ≠ 5∧g ≠ 7∧g<nx∧7<nx)∧parseA dn=some Q∧st=⟨(7,recO 0)::baseV g Q r 0,nx,0⟩)
  (fun st=>∃ (g nx:Nat) (Q:List Int) (r:List UInt8),(g ≠ 0∧g ≠ 1∧g ≠ 2∧g ≠ 3∧g ≠ 4∧g ≠ 5∧g ≠ 7∧g<nx∧7<nx)∧parseA (words 32 s)=none∧st=⟨(7,recO (codeOf .ret))::baseV g Q r 12,nx,0⟩)
  h2p h2o h2r (by omega) hT ?_ ?_ ?_ ?_ ?_ _ ⟨6,8,[],by decide,rfl,rfl⟩
 ·rintro dn r st ⟨g,nx,Q,⟨g1,g2,g3,g4,g5,g6,g7,g8,g9⟩,hQ,rfl⟩
  have f1:=Ne.symm g1
  have f2:=Ne.symm g2
  have f3:=Ne.symm g3
  have f4:=Ne.symm g4
  have f5:=Ne.symm g5
  have f6:=Ne.symm g6
  refine ⟨?_,?_,?_,Nat.zero_le _⟩
  all_goals simp[aget_cons,f1,f2,f3,f4,f5,f6]
 ·rintro dn r x ws st Q2 hw hwr ⟨g,nx,Q,⟨g1,g2,g3,g4,g5,g6,g7,g8,g9⟩,hQ,rfl⟩ hgo hstop
  have hxm:x ∈ words 32 s:=by rw[hw,hwr];simp
  obtain ⟨hwl,hwx⟩:=words_len (c:=32) s.length (s:=s) (Nat.le_refl _)
  have hx1:=hwx x hxm
  have hQl:Q.length≤200000:=by
   have h1:=parseA_len hQ
   have h2:(words 32 s).length=dn.length+(words 32 r).length:=by rw[hw];simp
   omega
  refine parse_round w n hC hes her x r (by omega) g nx Q hQl g1 g2 g3 g4 g5 g6 g7 g8 g9 Q2 (fun p hp=>?_) (fun hp nx' hnx=>?_)
  ·refine hgo _ ⟨nx+1,nx+2,Q++ [p],by omega,?_,rfl⟩
   rw[parseA_append _ hQ]
   simp only[parseA,hp,Option.bind_some,Option.map_some]
  ·refine hstop _ ⟨g,nx',Q,r,by omega,?_,rfl⟩
   rw[hw,hwr,parseA_append _ hQ]
   simp only[parseA,hp,Option.bind_none,Option.map_none]
 ·rintro dn r r' st ⟨g,nx,Q,⟨g1,g2,g3,g4,g5,g6,g7,g8,g9⟩,hQ,rfl⟩
  have f4:=Ne.symm g4
  refine ⟨g,nx,Q,⟨g1,g2,g3,g4,g5,g6,g7,g8,g9⟩,hQ,?_⟩
  simp[aset_cons',f4]
 ·rintro fr st r ⟨g,nx,Q,⟨g1,g2,g3,g4,g5,g6,g7,g8,g9⟩,hQ,rfl⟩
  refine ⟨fun i h=>(by cases h),Nat.zero_le _,0,.normal,rfl,rfl,?_⟩
  have f1:=Ne.symm g1
  have f2:=Ne.symm g2
  have f3:=Ne.symm g3
  have f7:=Ne.symm g7
  have f4:=Ne.symm g4
  have f5:=Ne.symm g5
  have f6:=Ne.symm g6
  have hpe:pparseF s=if chk Q=0 then (Q,0) else ([],12):=by
   unfold pparseF
   rw[if_neg hs,hQ]
  have hQl:Q.length≤200000:=by
   have h1:=parseA_len hQ
   have h2:=(words_len (c:=32) s.length (s:=s) (Nat.le_refl _)).1
   omega
  rw[hpe]
  repeat' (first|(simp (disch:=first|omega|assumption|exact bd (by with_unfolding_all rfl)|exact Or.inl rfl|exact Or.inl trivial|exact okL_map _ (fun _=>rfl) _|(simp only[VVlen]<;>omega)|fail) only[VV0,VV1,VV2,VV3,VV4,VV5,VV6,VV7,VV8,VV9,mkFnV,vargs,slotsL,opdsA,Nat.reduceEqDiff,Nat.reduceLT,Nat.reduceAdd,Nat.reduceBEq,Int.reduceAdd,Int.reduceSub,Int.reduceLT,Int.reduceLE,Int.reduceEq,Int.reduceNeg,↓reduceIte,reduceCtorEq,scL,scD,expand,List.replicate,f1,f2,f3,f4,f5,f6,f7,g1,g2,g3,g4,g5,g6,g7])|apply gC_drawW|((first|apply gI_dec|apply gG_dec|apply gPG_dec|apply gI_var|apply gG_var|apply gPG_var)<;>intro _))
  have hQ0:Q ≠ []:=fun e=>by
   have h1:=parseA_len hQ
   rw[e] at h1
   exact words_ne 32 s (List.eq_nil_of_length_eq_zero h1.symm)
  have b2:¬ (g=nx):=by omega
  have b3:¬ (5=nx):=by omega
  have b4:¬ (4=nx):=by omega
  have b5:¬ (3=nx):=by omega
  have b6:¬ (2=nx):=by omega
  have b7:¬ (1=nx):=by omega
  have b8:¬ (0=nx):=by omega
  have b9:¬ (nx=g):=by omega
  have e1:∀ z,aget [(g,Obj.gro 3 1 z (Q.map iD)),(5,.box 3 1 [.sc (.int .i64 0)]),(4,sBox [32]),(3,sBox r),(2,.box 22 1 [.gr 2 g Q.length]),(1,.box 24 1 [.sc (.int .i64 0)]),(0,.box 22 1 [.sc (.slice none 0 0)])] g=some (.gro 3 1 z (Q.map iD)):=fun z=>by rw[aget_cons,if_pos rfl]
  refine callV_weak (st':=⟨[(nx,.row 22 1 false false [.sl 2 Q.length (Q.map iD)]),(g,.gro 3 1 true (Q.map iD)),(5,.box 3 1 [.sc (.int .i64 0)]),(4,sBox [32]),(3,sBox r),(2,.box 22 1 [.gr 2 g Q.length]),(1,.box 24 1 [.sc (.int .i64 0)]),(0,.box 22 1 [.sc (.slice none 0 0)])],nx+1,0⟩) (fun C' hn'=>?_) ?_
  ·have hw1:=weak_snapCell (C:=C') (fr:= []) (st:=⟨[(nx,.box 22 1 [.gr 2 g Q.length]),(g,.gro 3 1 false (Q.map iD)),(5,.box 3 1 [.sc (.int .i64 0)]),(4,sBox [32]),(3,sBox r),(2,.box 22 1 [.gr 2 g Q.length]),(1,.box 24 1 [.sc (.int .i64 0)]),(0,.box 22 1 [.sc (.slice none 0 0)])],nx+1,0⟩) (o:=nx) (g:=g) (n:=Q.length) (k:=0) (q:=Q.map iD) (t:=22) (e:=1) (l:= [.gr 2 g Q.length]) (t':=3) (by rw[aget_cons,if_pos rfl]) rfl (by rw[aget_cons,if_neg b2];exact e1 false) (by rw[List.length_map]) (Nat.zero_le _) (rowsB_gro 0 _ g 3 1 false (Q.map iD) [] (by rw[aget_cons,if_neg b2];exact e1 false) (Nat.zero_le _) rfl)
   have b1:¬ (nx=g):=b9
   have hst:(⟨aset (frozA [g] [(nx,.box 22 1 [.gr 2 g Q.length]),(g,.gro 3 1 false (Q.map iD)),(5,.box 3 1 [.sc (.int .i64 0)]),(4,sBox [32]),(3,sBox r),(2,.box 22 1 [.gr 2 g Q.length]),(1,.box 24 1 [.sc (.int .i64 0)]),(0,.box 22 1 [.sc (.slice none 0 0)])]) nx (.box 22 1 ([V.gr 2 g Q.length].set 0 (.sl 2 Q.length (Q.map iD)))),nx+1,0⟩:VSt)=
     ⟨[(nx,.box 22 1 [.sl 2 Q.length (Q.map iD)]),(g,.gro 3 1 true (Q.map iD)),(5,.box 3 1 [.sc (.int .i64 0)]),(4,sBox [32]),(3,sBox r),(2,.box 22 1 [.gr 2 g Q.length]),(1,.box 24 1 [.sc (.int .i64 0)]),(0,.box 22 1 [.sc (.slice none 0 0)])],nx+1,0⟩:=by
    simp[frozA_cons',frozA_nil',elemB_cons',elemB_nil',aset_cons',Obj.froz,b9,f1,f2,f3,f4,f5,f6]
   rw[hst] at hw1
   refine hw1.trans ?_
   have hw2:=weak_boxrow (C:=C') (fr:= []) (st:=⟨[(nx,.box 22 1 [.sl 2 Q.length (Q.map iD)]),(g,.gro 3 1 true (Q.map iD)),(5,.box 3 1 [.sc (.int .i64 0)]),(4,sBox [32]),(3,sBox r),(2,.box 22 1 [.gr 2 g Q.length]),(1,.box 24 1 [.sc (.int .i64 0)]),(0,.box 22 1 [.sc (.slice none 0 0)])],nx+1,0⟩) (o:=nx) (t:=22) (e:=1) (l:= [.sl 2 Q.length (Q.map iD)]) (by rw[aget_cons,if_pos rfl];rfl) (by
    have:okD (.sl 2 Q.length (Q.map iD))=true:=okD_ne (by decide)
    simp[okL,this])
   simpa [aset_cons'] using hw2
  ·have hck:=check_p w (n+6) [(2,Q)] (by simp) (fun k hk=>by
    rcases k with _|k
    ·show Q.length≤_;omega
    ·simp at hk)
   rw[chkL_one] at hck
   have hsn:snapL [(nx,Obj.row 22 1 false false [.sl 2 Q.length (Q.map iD)]),(g,.gro 3 1 true (Q.map iD)),(5,.box 3 1 [.sc (.int .i64 0)]),(4,sBox [32]),(3,sBox r),(2,.box 22 1 [.gr 2 g Q.length]),(1,.box 24 1 [.sc (.int .i64 0)]),(0,.box 22 1 [.sc (.slice none 0 0)])] [V.ref nx 0 1 1]=some [.sl 0 1 [.sl 2 Q.length (Q.map iD)]]:=by
    simp only[snapL,snapV,toD,aget_cons,if_true]
    rfl
   refine callV_flat (by rw[hC];exact hck.flat rfl hsn) ?_
   by_cases hc:chk Q=0
   ·rw[if_pos hc]
    repeat' (first|(simp (disch:=first|omega|assumption|exact bd (by with_unfolding_all rfl)|exact Or.inl rfl|exact Or.inl trivial|exact okL_map _ (fun _=>rfl) _|(simp only[VVlen]<;>omega)|fail) only[VV0,VV1,VV2,VV3,VV4,VV5,VV6,VV7,VV8,VV9,mkFnV,vargs,slotsL,opdsA,Nat.reduceEqDiff,Nat.reduceLT,Nat.reduceAdd,Nat.reduceBEq,Int.reduceAdd,Int.reduceSub,Int.reduceLT,Int.reduceLE,Int.reduceEq,Int.reduceNeg,↓reduceIte,reduceCtorEq,scL,scD,expand,List.replicate,hc,f1,f2,f3,f4,f5,f6,f7,g1,g2,g3,g4,g5,g6,g7,b2,b3,b4,b5,b6,b7,b8,b9])|apply gC_drawW|((first|apply gI_dec|apply gG_dec|apply gPG_dec|apply gI_var|apply gG_var|apply gPG_var)<;>intro _))
    have ag:∀ R,aget ((nx,R)::(g,Obj.gro 3 1 true (Q.map iD)):: [(5,.box 3 1 [.sc (.int .i64 0)]),(4,sBox [32]),(3,sBox r),(2,.box 22 1 [.gr 2 g Q.length]),(1,.box 24 1 [.sc (.int .i64 0)]),(0,.box 22 1 [.gr 2 g Q.length])]) g=some (.gro 3 1 true (Q.map iD)):=fun R=>by rw[aget_cons,if_neg b2,aget_cons,if_pos rfl]
    refine weak_fin (s:=2) (n:=Q.length) (l:=Q.map iD) ?_ (rowsB_gro 0 _ g 3 1 true (Q.map iD) [] (ag _) (Nat.zero_le _) rfl) (.inl (by decide)) hn rfl
    simp only[snapV,toD,ag]
    rw[if_pos ⟨by rw[List.length_map,Nat.mul_one],by decide,by decide,by decide⟩]
    rfl
   ·rw[if_neg hc]
    repeat' (first|(simp (disch:=first|omega|assumption|exact bd (by with_unfolding_all rfl)|exact Or.inl rfl|exact Or.inl trivial|exact okL_map _ (fun _=>rfl) _|(simp only[VVlen]<;>omega)|fail) only[VV0,VV1,VV2,VV3,VV4,VV5,VV6,VV7,VV8,VV9,mkFnV,vargs,slotsL,opdsA,Nat.reduceEqDiff,Nat.reduceLT,Nat.reduceAdd,Nat.reduceBEq,Int.reduceAdd,Int.reduceSub,Int.reduceLT,Int.reduceLE,Int.reduceEq,Int.reduceNeg,↓reduceIte,reduceCtorEq,scL,scD,expand,List.replicate,hc,f1,f2,f3,f4,f5,f6,f7,g1,g2,g3,g4,g5,g6,g7,b2,b3,b4,b5,b6,b7,b8,b9])|apply gC_drawW|((first|apply gI_dec|apply gG_dec|apply gPG_dec|apply gI_var|apply gG_var|apply gPG_var)<;>intro _))
    exact weak_finNil hn rfl
 ·rintro ex fr st hex ⟨g,nx,Q,r,⟨g1,g2,g3,g4,g5,g6,g7,g8,g9⟩,hQ,rfl⟩
  refine ⟨hex,Nat.zero_le _,_,.ret,rfl,rfl,?_⟩
  have f1:=Ne.symm g1
  have f2:=Ne.symm g2
  have f7:=Ne.symm g7
  have hpe:pparseF s=([],12):=by
   unfold pparseF
   rw[if_neg hs,hQ]
  rw[hpe]
  repeat' (first|(simp (disch:=first|omega|assumption|exact bd (by with_unfolding_all rfl)|exact Or.inl rfl|exact Or.inl trivial|exact okL_map _ (fun _=>rfl) _|(simp only[VVlen]<;>omega)|fail) only[VV0,VV1,VV2,VV3,VV4,VV5,VV6,VV7,VV8,VV9,mkFnV,vargs,slotsL,opdsA,Nat.reduceEqDiff,Nat.reduceLT,Nat.reduceAdd,Nat.reduceBEq,Int.reduceAdd,Int.reduceSub,Int.reduceLT,Int.reduceLE,Int.reduceEq,Int.reduceNeg,↓reduceIte,reduceCtorEq,scL,scD,expand,List.replicate,f1,f2,f7,g1,g2,g7])|apply gC_drawW|((first|apply gI_dec|apply gG_dec|apply gPG_dec|apply gI_var|apply gG_var|apply gPG_var)<;>intro _))
  exact weak_finNil hn rfl
end
end Go.Proofs.YtkjkiodoighgnaaDoor
namespace Go.Proofs.YtkjkiodoighgnaaDoor
open Go Go.Itp
set_option maxRecDepth 100000
set_option maxHeartbeats 1000000
set_option linter.unusedSimpArgs false
set_option linter.unusedVariables false
def rs (l:List Int):Nat→(Nat→Int) × Int
 |0=>(fun _=>0,0)
 |k+1=>if (rs l k).1 l[k]!.toNat=0 then (fun x=>if x=l[k]!.toNat then (rs l k).2+1 else (rs l k).1 x,(rs l k).2+1) else rs l k
def rv (l:List Int) (k:Nat):Int:=if (rs l k).1 l[k]!.toNat=0 then (rs l k).2 else (rs l k).1 l[k]!.toNat - 1
theorem rs_bnd (l:List Int):∀ k,0≤(rs l k).2∧(rs l k).2≤k∧∀ x,0≤(rs l k).1 x∧(rs l k).1 x≤(rs l k).2
 |0=>⟨Int.le_refl _,Int.le_refl _,fun x=>⟨Int.le_refl _,Int.le_refl _⟩⟩
 |k+1=>by
  obtain ⟨h1,h2,h3⟩:=rs_bnd l k
  rw[rs]
  split
  ·refine ⟨by simp only;omega,by simp only;omega,fun x=>?_⟩
   have:=h3 x
   simp only
   split<;>omega
  ·exact ⟨h1,by omega,h3⟩
section
variable (w:World) (n:Nat)
end
end Go.Proofs.YtkjkiodoighgnaaDoor
namespace Go.Proofs.YtkjkiodoighgnaaDoor
open Go Go.Itp
set_option maxRecDepth 100000
set_option maxHeartbeats 2000000
set_option linter.unusedSimpArgs false
set_option linter.unusedVariables false
def ofF (M:Nat) (o:Nat→Int):List Int:=(List.range M).map o
theorem ofF_len (M:Nat) (o:Nat→Int):(ofF M o).length=M:=by simp[ofF]
theorem ofF_get (M:Nat) (o:Nat→Int) (k:Nat) (h:k<M):(ofF M o)[k]! =o k:=by
 rw[getElem!_pos _ _ (by rw[ofF_len];exact h)]
 simp[ofF]
def mx (l:List Int):Nat→Int
 |0=> -1
 |k+1=>max (mx l k) l[k]!
def ms (a b:List Int):Nat→Option ((Nat→Int) × (Nat→Bool))
 |0=>some (fun _=> -1,fun _=>false)
 |k+1=>(ms a b k).bind fun p=>if p.1 a[k]!.toNat=b[k]! then some p else if 0≤p.1 a[k]!.toNat∨p.2 b[k]!.toNat=true then none
   else some (fun x=>if x=a[k]!.toNat then b[k]! else p.1 x,fun x=>if x=b[k]!.toNat then true else p.2 x)
section
variable (w:World) (n:Nat)
end
end Go.Proofs.YtkjkiodoighgnaaDoor
namespace Go.Proofs.YtkjkiodoighgnaaDoor
open Go Go.Itp
set_option maxRecDepth 100000
set_option maxHeartbeats 2000000
set_option linter.unusedSimpArgs false
set_option linter.unusedVariables false
section
variable (w:World) (n:Nat)
end
end Go.Proofs.YtkjkiodoighgnaaDoor
namespace Go.Proofs.YtkjkiodoighgnaaDoor
open Go Go.Itp
set_option maxRecDepth 100000
set_option maxHeartbeats 2000000
set_option linter.unusedSimpArgs false
set_option linter.unusedVariables false
theorem readN_dw {x:Int} (h0:0≤x) (h1:x<400):readN (dw x)=some x:=by
 have e:numA (dw x)=some (x+1):=by unfold numA dw;rw[atoi_itoa (by omega) (by omega)]
 unfold readN
 rw[e,Option.bind_some,if_pos ⟨rfl,by omega⟩]
 congr 1;omega
theorem readN_some {x:List UInt8} {p:Int} (h:readN x=some p):x=dw p:=by
 unfold readN at h
 simp only[Option.bind_eq_some_iff] at h
 obtain ⟨v,_,h⟩:=h
 split at h
 ·rename_i hv
  cases h
  unfold dw
  rw[← hv.1];congr 1;omega
 ·cases h
theorem parseA_some:∀ {ws:List (List UInt8)} {R:List Int},parseA ws=some R→ws=R.map dw
 | [],R,h=>by simp only[parseA,Option.some.injEq] at h;subst h;rfl
 |x::ws,R,h=>by
  simp only[parseA,Option.bind_eq_some_iff,Option.map_eq_some_iff] at h
  obtain ⟨p,h1,R',h2,rfl⟩:=h
  rw[List.map_cons,← readN_some h1,← parseA_some h2]
theorem chk_mem {l:List Int} (h:chk l=0):∀ x ∈ l,0≤x∧x<400:=fun x hx=>by
 obtain ⟨i,hi,rfl⟩:=List.getElem_of_mem hx
 have:=(chk_facts h).2 i hi
 rwa [getElem!_pos l i hi] at this
theorem back2 (s:List UInt8):(pparseF s).2=12∧(pparseF s).1= []∨(pparseF s).2=0∧chk (pparseF s).1=0∧txt (pparseF s).1=s:=by
 unfold pparseF
 by_cases hs:s= []
 ·subst hs;exact .inr ⟨rfl,rfl,rfl⟩
 rw[if_neg hs]
 cases hr:parseA (words 32 s) with
 |none=>exact .inl ⟨rfl,rfl⟩
 |some R=>
  simp only
  by_cases hc:chk R=0
  ·rw[if_pos hc]
   refine .inr ⟨rfl,hc,?_⟩
   show txt R=s
   unfold txt
   rw[← parseA_some hr,join_words]
  ·rw[if_neg hc];exact .inl ⟨rfl,rfl⟩
theorem pparse_len (s:List UInt8):(pparseF s).1.length≤400:=by
 rcases back2 s with ⟨_,h⟩|⟨_,h,_⟩
 ·rw[h];simp
 ·exact (chk_facts h).1
theorem same_eq (w:World) (n:Nat) (st:VSt) (v u:V) (l:List Int) (hv:RdV st v l) (hu:RdV st u l) (hl:l.length≤140737488351232):VSpecO (EN w (n+1)) 10 st [v,u] (.sc (.bool true)):=by
 have:=same_r w n st v u l l hv hu hl hl
 rwa [decide_eq_true rfl] at this
end Go.Proofs.YtkjkiodoighgnaaDoor
namespace Go.Proofs.YtkjkiodoighgnaaDoor
open Go Go.Itp
set_option maxRecDepth 100000
set_option maxHeartbeats 1000000
set_option linter.unusedSimpArgs false
set_option linter.unusedVariables false
theorem values_iter {C':Ctx} {E:Env} {a b:AC} {fr:VFr} {ps:List Nat} {d o s:Nat} {l:List Int} {J:Nat→VSt→Prop} {P:VPost} (hr:C'.E.rounds=many) (hl:l.length≤5000)
  (hT:∀ xs st Q,RoundV E a b fr ps d xs st Q→CallT C' d xs st Q) (hbox:∀ k st,J k st→∃ t,aget st.own o=some (.box t 1 [.sl s l.length (l.map iD)]))
  (hround:∀ k st (Q:V→VSt→Prop),k<l.length→J k st→(∀ st',J (k+1) st'→Q (.sc (.bool true)) st')→RoundV E a b fr ps d [.sc (.int .i64 l[k]!)] st Q) (hend:∀ fr st,J l.length st→P .normal fr st) (st0:VSt) (h0:J 0 st0):
  gC C' c48.code [] (vargs 0 [.tok d,.ptr o 0]) st0 P:=by
 obtain ⟨t00,hb0⟩:=hbox 0 st0 h0
 repeat' (first|(simp (disch:=first|omega|assumption|exact bd (by with_unfolding_all rfl)|exact Or.inl rfl|exact Or.inl trivial|exact okL_map _ (fun _=>rfl) _|(simp only[VVlen]<;>omega)|fail) only[VV0,VV1,VV2,VV3,VV4,VV5,VV6,VV7,VV8,VV9,mkFnV,vargs,slotsL,opdsA,Nat.reduceEqDiff,Nat.reduceLT,Nat.reduceAdd,Nat.reduceBEq,Int.reduceAdd,Int.reduceSub,Int.reduceLT,Int.reduceLE,Int.reduceEq,Int.reduceNeg,↓reduceIte,reduceCtorEq,scL,scD,expand,List.replicate,c48,hb0])|apply gC_drawW|((first|apply gI_dec|apply gG_dec|apply gPG_dec|apply gI_var|apply gG_var|apply gPG_var)<;>intro _))
 refine g_while (fun m fr st=>∃ k:Nat,m=l.length - k∧k≤l.length∧J k st∧fr= [(0,.tok d),(5,.sl s l.length (l.map iD)),(6,.sc (.int .i64 l.length)),(7,.sc (.int .i64 k))]) l.length ?_ ⟨_,_,.refl _ _,0,by omega,by omega,h0,rfl⟩ ?_
 ·rw[hr];unfold many;omega
 rintro m fr1 st ⟨k,rfl,hk,hJ,rfl⟩
 by_cases hlt:k<l.length
 case neg=>
  have:k=l.length:=by omega
  subst this
  repeat' (first|(simp (disch:=first|omega|assumption|exact bd (by with_unfolding_all rfl)|exact Or.inl rfl|exact Or.inl trivial|exact okL_map _ (fun _=>rfl) _|(simp only[VVlen]<;>omega)|fail) only[VV0,VV1,VV2,VV3,VV4,VV5,VV6,VV7,VV8,VV9,mkFnV,vargs,slotsL,opdsA,Nat.reduceEqDiff,Nat.reduceLT,Nat.reduceAdd,Nat.reduceBEq,Int.reduceAdd,Int.reduceSub,Int.reduceLT,Int.reduceLE,Int.reduceEq,Int.reduceNeg,↓reduceIte,reduceCtorEq,scL,scD,expand,List.replicate,c48l0])|apply gC_drawW|((first|apply gI_dec|apply gG_dec|apply gPG_dec|apply gI_var|apply gG_var|apply gPG_var)<;>intro _))
  all_goals try (exfalso;omega)
  exact hend _ _ hJ
 repeat' (first|(simp (disch:=first|omega|assumption|exact bd (by with_unfolding_all rfl)|exact Or.inl rfl|exact Or.inl trivial|exact okL_map _ (fun _=>rfl) _|(simp only[VVlen]<;>omega)|fail) only[VV0,VV1,VV2,VV3,VV4,VV5,VV6,VV7,VV8,VV9,mkFnV,vargs,slotsL,opdsA,Nat.reduceEqDiff,Nat.reduceLT,Nat.reduceAdd,Nat.reduceBEq,Int.reduceAdd,Int.reduceSub,Int.reduceLT,Int.reduceLE,Int.reduceEq,Int.reduceNeg,↓reduceIte,reduceCtorEq,scL,scD,expand,List.replicate,c48l0,iD_dv])|apply gC_drawW|((first|apply gI_dec|apply gG_dec|apply gPG_dec|apply gI_var|apply gG_var|apply gPG_var)<;>intro _))
 all_goals try (exfalso;omega)
 refine hT _ _ _ (hround k _ _ hlt hJ fun st' hJ'=>?_)
 repeat' (first|(simp (disch:=first|omega|assumption|exact bd (by with_unfolding_all rfl)|exact Or.inl rfl|exact Or.inl trivial|exact okL_map _ (fun _=>rfl) _|(simp only[VVlen]<;>omega)|fail) only[VV0,VV1,VV2,VV3,VV4,VV5,VV6,VV7,VV8,VV9,mkFnV,vargs,slotsL,opdsA,Nat.reduceEqDiff,Nat.reduceLT,Nat.reduceAdd,Nat.reduceBEq,Int.reduceAdd,Int.reduceSub,Int.reduceLT,Int.reduceLE,Int.reduceEq,Int.reduceNeg,↓reduceIte,reduceCtorEq,scL,scD,expand,List.replicate])|apply gC_drawW|((first|apply gI_dec|apply gG_dec|apply gPG_dec|apply gI_var|apply gG_var|apply gPG_var)<;>intro _))
 exact ⟨_,_,_,by omega,.refl _ _,k+1,rfl,hlt,hJ',rfl⟩
section
variable (w:World) (n:Nat)
theorem values_p (s:Nat) (hs:s ≠ 1) (l:List Int):VSpec (EN w (n+1)) 33 [.sl s l.length (l.map iD)] (.fn 48 [] [.ptr 0 0]) ⟨[(0,.box 22 1 [.sl s l.length (l.map iD)])],1,0⟩:=by
 refine vspec_g rfl rfl (fun _ _=>rfl) (Nat.le_of_ble_eq_true rfl) (oldVals w) ?_ rfl fun C hC hn=>?_
 ·have hc:Cl [(0,.box 22 1 [.sl s l.length (l.map iD)])] (.sl s l.length (l.map iD)):=by
   simp only[Cl,okD,Bool.or_eq_true,Bool.not_eq_true',nbf];exact .inl hs
  refine ⟨?_,fun o t e L h=>?_,fun o ob h=>?_⟩
  ·simp only[Cl,ClL,and_true,true_and]
   exact ⟨_,rfl,rfl⟩
  ·rw[aget_cons,aget_nil] at h
   split at h
   ·cases h;exact ⟨hc,trivial⟩
   ·cases h
  ·rw[aget_cons,aget_nil] at h
   split at h
   ·rename_i h1;subst h1
    exact fun _=>VR.root 0 (by simp[vids,vidsL])
   ·cases h
 ·repeat' (first|(simp (disch:=first|omega|assumption|exact bd (by with_unfolding_all rfl)|exact Or.inl rfl|exact Or.inl trivial|exact okL_map _ (fun _=>rfl) _|(simp only[VVlen]<;>omega)|fail) only[VV0,VV1,VV2,VV3,VV4,VV5,VV6,VV7,VV8,VV9,mkFnV,vargs,slotsL,opdsA,Nat.reduceEqDiff,Nat.reduceLT,Nat.reduceAdd,Nat.reduceBEq,Int.reduceAdd,Int.reduceSub,Int.reduceLT,Int.reduceLE,Int.reduceEq,Int.reduceNeg,↓reduceIte,reduceCtorEq,scL,scD,expand,List.replicate,c33])|apply gC_drawW|((first|apply gI_dec|apply gG_dec|apply gPG_dec|apply gI_var|apply gG_var|apply gPG_var)<;>intro _))
  exact weak_to [(0,0)] 1 hn rfl rfl rfl (by simp[renH,aget_cons,renO,vrenL,vren])
theorem appendSeq_w {C:Ctx} {Q:V→VSt→Prop} (hC:C.E=EN w (n+3)) (s:Nat) (l:List Int) (hl:l.length≤5000)
  (hq:Q (.gr 2 2 l.length) ⟨[(2,.gro 3 1 false (l.map iD)),(1,.box 22 1 [.sl s l.length (l.map iD)])],3,0⟩):
  CallV C 60 [.sc (.slice none 0 0),.fn 48 [] [.ptr 1 0]] ⟨[(1,.box 22 1 [.sl s l.length (l.map iD)])],2,0⟩ Q:=by
 refine callV_w hC rfl rfl (fun _ _=>rfl) (Nat.le_of_ble_eq_true rfl) hq fun C' hC' hn=>?_
 repeat' (first|(simp (disch:=first|omega|assumption|exact bd (by with_unfolding_all rfl)|exact Or.inl rfl|exact Or.inl trivial|exact okL_map _ (fun _=>rfl) _|(simp only[VVlen]<;>omega)|fail) only[VV0,VV1,VV2,VV3,VV4,VV5,VV6,VV7,VV8,VV9,mkFnV,vargs,slotsL,opdsA,Nat.reduceEqDiff,Nat.reduceLT,Nat.reduceAdd,Nat.reduceBEq,Int.reduceAdd,Int.reduceSub,Int.reduceLT,Int.reduceLE,Int.reduceEq,Int.reduceNeg,↓reduceIte,reduceCtorEq,scL,scD,expand,List.replicate,c60])|apply gC_drawW|((first|apply gI_dec|apply gG_dec|apply gPG_dec|apply gI_var|apply gG_var|apply gPG_var)<;>intro _))
 refine g_rangeW (st':=⟨[(3,.gro 3 1 false []),(2,.box 22 1 [.gr 2 3 0]),(1,.box 22 1 [.sl s l.length (l.map iD)])],4,0⟩) (weak_nilCell (st:=⟨[(2,.box 22 1 [.sc (.slice none 0 0)]),(1,.box 22 1 [.sl s l.length (l.map iD)])],3,0⟩) (l:= [.sc (.slice none 0 0)]) 2 22 1 0 3 1 rfl rfl (fun h=>absurd (show (2:Nat)=3 from h) (by decide))) ?_
 refine g_range hC' rfl rfl rfl (Nat.le_of_ble_eq_true rfl) rfl (Nat.zero_le _) fun C2 h2n h2r h2p h2o hT=>?_
 refine values_iter (d:=4) (o:=1) (s:=s) (l:=l) (J:=fun k st=>∃ r nx,(r ≠ 1∧r ≠ 2∧r ≠ 4∧r<nx∧4<nx)∧st=⟨[(4,recO 0),(r,.gro 3 1 false ((l.take k).map iD)),(2,.box 22 1 [.gr 2 r (l.take k).length]),(1,.box 22 1 [.sl s l.length (l.map iD)])],nx,0⟩) h2r hl hT ?_ ?_ ?_ _ ?_
 ·rintro k st ⟨r,nx,⟨h1,h2,h3,h4,h5⟩,rfl⟩
  exact ⟨22,by simp[aget_cons,h1,h2,h3,Ne.symm h1]⟩
 ·rintro k st Q2 hlt ⟨r,nx,⟨h1,h2,h3,h4,h5⟩,rfl⟩ hq2
  have htk:l.take (k+1)=l.take k++ [l[k]!]:=by rw[List.take_succ_eq_append_getElem hlt,getElem!_pos l k hlt]
  generalize l[k]! =x at*
  have htl:(l.take k).length=k:=by rw[List.length_take];omega
  have hml:((l.take k).map iD).length=(l.take k).length:=by rw[List.length_map]
  have b1:¬ (4=nx):=by omega
  have b2:¬ (r=nx):=by omega
  have b3:¬ (2=nx):=by omega
  have b4:¬ (1=nx):=by omega
  have b5:¬ (2=r):=fun h=>h2 h.symm
  have b6:¬ (4=r):=fun h=>h3 h.symm
  have b7:¬ (1=r):=fun h=>h1 h.symm
  refine ⟨Nat.zero_le _,rfl,h5,_,rfl,fun C4 h4 h4n=>?_⟩
  repeat' (first|(simp (disch:=first|omega|assumption|exact bd (by with_unfolding_all rfl)|exact Or.inl rfl|exact Or.inl trivial|exact okL_map _ (fun _=>rfl) _|(simp only[VVlen]<;>omega)|fail) only[VV0,VV1,VV2,VV3,VV4,VV5,VV6,VV7,VV8,VV9,mkFnV,vargs,slotsL,opdsA,Nat.reduceEqDiff,Nat.reduceLT,Nat.reduceAdd,Nat.reduceBEq,Int.reduceAdd,Int.reduceSub,Int.reduceLT,Int.reduceLE,Int.reduceEq,Int.reduceNeg,↓reduceIte,reduceCtorEq,scL,scD,expand,List.replicate,c60a0,b1,b2,b3,b4,b5,b6,b7,h1,h2,h3])|apply gC_drawW|((first|apply gI_dec|apply gG_dec|apply gPG_dec|apply gI_var|apply gG_var|apply gPG_var)<;>intro _))
  refine ⟨trivial,Nat.zero_le _,trivial,?_⟩
  have c1:¬ (r=nx+1):=by omega
  have c2:¬ (2=nx+1):=by omega
  have c3:¬ (4=nx+1):=by omega
  have c4:¬ (nx+1=nx):=by omega
  have c5:¬ (nx=2):=by omega
  have c6:¬ (1=nx+1):=by omega
  repeat' (first|(simp (disch:=first|omega|assumption|exact bd (by with_unfolding_all rfl)|exact Or.inl rfl|exact Or.inl trivial|exact okL_map _ (fun _=>rfl) _|(simp only[VVlen]<;>omega)|fail) only[VV0,VV1,VV2,VV3,VV4,VV5,VV6,VV7,VV8,VV9,mkFnV,vargs,slotsL,opdsA,Nat.reduceEqDiff,Nat.reduceLT,Nat.reduceAdd,Nat.reduceBEq,Int.reduceAdd,Int.reduceSub,Int.reduceLT,Int.reduceLE,Int.reduceEq,Int.reduceNeg,↓reduceIte,reduceCtorEq,scL,scD,expand,List.replicate,c60b0,b1,b2,b3,b4,b5,b6,b7,h1,h2,h3,c1,c2,c3,c4,c5,c6])|apply gC_drawW|((first|apply gI_dec|apply gG_dec|apply gPG_dec|apply gI_var|apply gG_var|apply gPG_var)<;>intro _))
  have hnx:C4.w0.nx=nx:=h4n
  have d1:¬ (nx=4):=by omega
  have d2:¬ (nx=1):=by omega
  have d3:¬ (nx=3):=by omega
  have d4:¬ (nx=0):=by omega
  refine ⟨Nat.zero_le _,trivial,_,weak_keep [4,nx+1,2,1] (by simp;omega) (by simp;omega) (by omega),Eq.mp (congrArg (Q2 _) ?_) (hq2 _ ⟨nx+1,nx+2,by omega,rfl⟩)⟩
  rw[htk]
  simp[iD,idR,renH,aget_cons,renO,recO,vrenL,vren,codeOf,b1,b2,b3,b4,b5,b6,b7,h1,h2,h3,c1,c2,c3,c4,c5,c6,d1,d2,d3,d4]
 ·rintro fr st ⟨r,nx,⟨h1,h2,h3,h4,h5⟩,rfl⟩
  refine ⟨fun i h=>(by cases h),Nat.zero_le _,0,.normal,rfl,rfl,?_⟩
  have b5:¬ (2=r):=fun h=>h2 h.symm
  have b6:¬ (4=r):=fun h=>h3 h.symm
  have b7:¬ (1=r):=fun h=>h1 h.symm
  rw[List.take_length]
  repeat' (first|(simp (disch:=first|omega|assumption|exact bd (by with_unfolding_all rfl)|exact Or.inl rfl|exact Or.inl trivial|exact okL_map _ (fun _=>rfl) _|(simp only[VVlen]<;>omega)|fail) only[VV0,VV1,VV2,VV3,VV4,VV5,VV6,VV7,VV8,VV9,mkFnV,vargs,slotsL,opdsA,Nat.reduceEqDiff,Nat.reduceLT,Nat.reduceAdd,Nat.reduceBEq,Int.reduceAdd,Int.reduceSub,Int.reduceLT,Int.reduceLE,Int.reduceEq,Int.reduceNeg,↓reduceIte,reduceCtorEq,scL,scD,expand,List.replicate,b5,b6,b7,h1,h2,h3])|apply gC_drawW|((first|apply gI_dec|apply gG_dec|apply gPG_dec|apply gI_var|apply gG_var|apply gPG_var)<;>intro _))
  have hn1:C'.w0.nx=2:=hn
  refine weak_toB [(r,2),(1,1)] 3 (by omega) rfl ?_ ?_ ?_
  ·rw[hn1]
   have q1:Nat.beq r 1=false:=nbf.2 h1
   have q2:Nat.ble 0 r=true:=by rw[Nat.ble_eq];exact Nat.zero_le _
   have q3:Nat.ble 2 2=true:=rfl
   simp only[okRen,notIn,notKey,q1,q2,q3]
   rfl
  ·simp[renF,vren,aget_cons]
  ·simp[renH,aget_cons,renO,vrenL,vren,h1,h2,b5,b7]
 ·exact ⟨3,5,by decide,rfl⟩
theorem collect_w {C:Ctx} {Q:V→VSt→Prop} (hC:C.E=EN w (n+4)) (s:Nat) (l:List Int) (hl:l.length≤5000)
  (hq:Q (.gr 2 2 l.length) ⟨[(2,.gro 3 1 false (l.map iD)),(1,.box 22 1 [.sl s l.length (l.map iD)])],3,0⟩):
  CallV C 46 [.fn 48 [] [.ptr 1 0]] ⟨[(1,.box 22 1 [.sl s l.length (l.map iD)])],2,0⟩ Q:=by
 refine callV_w hC rfl rfl (fun _ _=>rfl) (Nat.le_of_ble_eq_true rfl) hq fun C' hC' hn=>?_
 repeat' (first|(simp (disch:=first|omega|assumption|exact bd (by with_unfolding_all rfl)|exact Or.inl rfl|exact Or.inl trivial|exact okL_map _ (fun _=>rfl) _|(simp only[VVlen]<;>omega)|fail) only[VV0,VV1,VV2,VV3,VV4,VV5,VV6,VV7,VV8,VV9,mkFnV,vargs,slotsL,opdsA,Nat.reduceEqDiff,Nat.reduceLT,Nat.reduceAdd,Nat.reduceBEq,Int.reduceAdd,Int.reduceSub,Int.reduceLT,Int.reduceLE,Int.reduceEq,Int.reduceNeg,↓reduceIte,reduceCtorEq,scL,scD,expand,List.replicate,c46])|apply gC_drawW|((first|apply gI_dec|apply gG_dec|apply gPG_dec|apply gI_var|apply gG_var|apply gPG_var)<;>intro _))
 refine appendSeq_w w n hC' s l hl ?_
 repeat' (first|(simp (disch:=first|omega|assumption|exact bd (by with_unfolding_all rfl)|exact Or.inl rfl|exact Or.inl trivial|exact okL_map _ (fun _=>rfl) _|(simp only[VVlen]<;>omega)|fail) only[VV0,VV1,VV2,VV3,VV4,VV5,VV6,VV7,VV8,VV9,mkFnV,vargs,slotsL,opdsA,Nat.reduceEqDiff,Nat.reduceLT,Nat.reduceAdd,Nat.reduceBEq,Int.reduceAdd,Int.reduceSub,Int.reduceLT,Int.reduceLE,Int.reduceEq,Int.reduceNeg,↓reduceIte,reduceCtorEq,scL,scD,expand,List.replicate])|apply gC_drawW|((first|apply gI_dec|apply gG_dec|apply gPG_dec|apply gI_var|apply gG_var|apply gPG_var)<;>intro _))
 exact .refl _ _
theorem sorted_w {C:Ctx} {Q:V→VSt→Prop} (hC:C.E=EN w (n+5)) (s:Nat) (l:List Int) (hl:l.length≤5000)
  (hq:Q (.gr 2 2 (srt l).length) ⟨[(2,.gro 3 1 false ((srt l).map iD)),(1,.box 22 1 [.sl s l.length (l.map iD)])],3,0⟩):
  CallV C 32 [.fn 48 [] [.ptr 1 0]] ⟨[(1,.box 22 1 [.sl s l.length (l.map iD)])],2,0⟩ Q:=by
 refine callV_w hC rfl rfl (fun _ _=>rfl) (Nat.le_of_ble_eq_true rfl) hq fun C' hC' hn=>?_
 repeat' (first|(simp (disch:=first|omega|assumption|exact bd (by with_unfolding_all rfl)|exact Or.inl rfl|exact Or.inl trivial|exact okL_map _ (fun _=>rfl) _|(simp only[VVlen]<;>omega)|fail) only[VV0,VV1,VV2,VV3,VV4,VV5,VV6,VV7,VV8,VV9,mkFnV,vargs,slotsL,opdsA,Nat.reduceEqDiff,Nat.reduceLT,Nat.reduceAdd,Nat.reduceBEq,Int.reduceAdd,Int.reduceSub,Int.reduceLT,Int.reduceLE,Int.reduceEq,Int.reduceNeg,↓reduceIte,reduceCtorEq,scL,scD,expand,List.replicate,c32])|apply gC_drawW|((first|apply gI_dec|apply gG_dec|apply gPG_dec|apply gI_var|apply gG_var|apply gPG_var)<;>intro _))
 refine collect_w w n hC' s l hl ?_
 repeat' (first|(simp (disch:=first|omega|assumption|exact bd (by with_unfolding_all rfl)|exact Or.inl rfl|exact Or.inl trivial|exact okL_map _ (fun _=>rfl) _|(simp only[VVlen]<;>omega)|fail) only[VV0,VV1,VV2,VV3,VV4,VV5,VV6,VV7,VV8,VV9,mkFnV,vargs,slotsL,opdsA,Nat.reduceEqDiff,Nat.reduceLT,Nat.reduceAdd,Nat.reduceBEq,Int.reduceAdd,Int.reduceSub,Int.reduceLT,Int.reduceLE,Int.reduceEq,Int.reduceNeg,↓reduceIte,reduceCtorEq,scL,scD,expand,List.replicate])|apply gC_drawW|((first|apply gI_dec|apply gG_dec|apply gPG_dec|apply gI_var|apply gG_var|apply gPG_var)<;>intro _))
 by_cases h0:l= []
 ·subst h0
  refine lib_w0 0 hC' rfl (fun _ _=>rfl) 2 2 ?_
  have e0:srt []= []:=List.mergeSort_nil
  repeat' (first|(simp (disch:=first|omega|assumption|exact bd (by with_unfolding_all rfl)|exact Or.inl rfl|exact Or.inl trivial|exact okL_map _ (fun _=>rfl) _|(simp only[VVlen]<;>omega)|fail) only[VV0,VV1,VV2,VV3,VV4,VV5,VV6,VV7,VV8,VV9,mkFnV,vargs,slotsL,opdsA,Nat.reduceEqDiff,Nat.reduceLT,Nat.reduceAdd,Nat.reduceBEq,Int.reduceAdd,Int.reduceSub,Int.reduceLT,Int.reduceLE,Int.reduceEq,Int.reduceNeg,↓reduceIte,reduceCtorEq,scL,scD,expand,List.replicate,e0])|apply gC_drawW|((first|apply gI_dec|apply gG_dec|apply gPG_dec|apply gI_var|apply gG_var|apply gPG_var)<;>intro _))
  exact .refl _ _
 ·refine sort_w hC' rfl (fun _ _=>rfl) 2 2 3 l h0 (by omega) rfl (Nat.zero_le _) ?_
  repeat' (first|(simp (disch:=first|omega|assumption|exact bd (by with_unfolding_all rfl)|exact Or.inl rfl|exact Or.inl trivial|exact okL_map _ (fun _=>rfl) _|(simp only[VVlen]<;>omega)|fail) only[VV0,VV1,VV2,VV3,VV4,VV5,VV6,VV7,VV8,VV9,mkFnV,vargs,slotsL,opdsA,Nat.reduceEqDiff,Nat.reduceLT,Nat.reduceAdd,Nat.reduceBEq,Int.reduceAdd,Int.reduceSub,Int.reduceLT,Int.reduceLE,Int.reduceEq,Int.reduceNeg,↓reduceIte,reduceCtorEq,scL,scD,expand,List.replicate,srt_len])|apply gC_drawW|((first|apply gI_dec|apply gG_dec|apply gPG_dec|apply gI_var|apply gG_var|apply gPG_var)<;>intro _))
  exact .refl _ _
def usedF (l:List Int):Int × Int:=if chk l=0 then ((((cpt (srt l)).length:Nat):Int),0) else (0,chk l)
theorem used_p (s:Nat) (hs:s ≠ 1) (l:List Int) (hl:l.length≤140737488351232):VSpec (EN w (n+6)) 13 [.sl s l.length (l.map iD)] (.tup [.sc (.int .i64 (usedF l).1),.sc (.int .i64 (usedF l).2)]) ⟨[],0,0⟩:=by
 refine vspec_flat rfl rfl (fun _ _=>rfl) (Nat.le_of_ble_eq_true rfl) (oldVals w) rfl fun C hC hn=>?_
 have o1:okD (.sl s l.length (l.map iD))=true:=okD_ne hs
 have hck:=check_p w (n+4) [(s,l)] (by simp) (fun k hk=>by
  rcases k with _|k
  ·exact hl
  ·simp at hk)
 rw[chkL_one] at hck
 by_cases h0:chk l=0
 case neg=>
  have e:usedF l=(0,chk l):=if_neg h0
  rw[e]
  repeat' (first|(simp (disch:=first|omega|assumption|exact bd (by with_unfolding_all rfl)|exact Or.inl rfl|exact Or.inl trivial|exact okL_map _ (fun _=>rfl) _|(simp only[VVlen]<;>omega)|fail) only[VV0,VV1,VV2,VV3,VV4,VV5,VV6,VV7,VV8,VV9,mkFnV,vargs,slotsL,opdsA,Nat.reduceEqDiff,Nat.reduceLT,Nat.reduceAdd,Nat.reduceBEq,Int.reduceAdd,Int.reduceSub,Int.reduceLT,Int.reduceLE,Int.reduceEq,Int.reduceNeg,↓reduceIte,reduceCtorEq,scL,scD,expand,List.replicate,c13])|apply gC_drawW|((first|apply gI_dec|apply gG_dec|apply gPG_dec|apply gI_var|apply gG_var|apply gPG_var)<;>intro _))
  refine callV_flat (by rw[hC];exact hck.flat rfl rfl) ?_
  repeat' (first|(simp (disch:=first|omega|assumption|exact bd (by with_unfolding_all rfl)|exact Or.inl rfl|exact Or.inl trivial|exact okL_map _ (fun _=>rfl) _|(simp only[VVlen]<;>omega)|fail) only[VV0,VV1,VV2,VV3,VV4,VV5,VV6,VV7,VV8,VV9,mkFnV,vargs,slotsL,opdsA,Nat.reduceEqDiff,Nat.reduceLT,Nat.reduceAdd,Nat.reduceBEq,Int.reduceAdd,Int.reduceSub,Int.reduceLT,Int.reduceLE,Int.reduceEq,Int.reduceNeg,↓reduceIte,reduceCtorEq,scL,scD,expand,List.replicate])|apply gC_drawW|((first|apply gI_dec|apply gG_dec|apply gPG_dec|apply gI_var|apply gG_var|apply gPG_var)<;>intro _))
  all_goals try (exfalso;omega)
  exact weak_flat rfl hn rfl
 obtain ⟨hl4,hcol⟩:=chk_facts h0
 have e:usedF l=((((cpt (srt l)).length:Nat):Int),0):=if_pos h0
 rw[e]
 repeat' (first|(simp (disch:=first|omega|assumption|exact bd (by with_unfolding_all rfl)|exact Or.inl rfl|exact Or.inl trivial|exact okL_map _ (fun _=>rfl) _|(simp only[VVlen]<;>omega)|fail) only[VV0,VV1,VV2,VV3,VV4,VV5,VV6,VV7,VV8,VV9,mkFnV,vargs,slotsL,opdsA,Nat.reduceEqDiff,Nat.reduceLT,Nat.reduceAdd,Nat.reduceBEq,Int.reduceAdd,Int.reduceSub,Int.reduceLT,Int.reduceLE,Int.reduceEq,Int.reduceNeg,↓reduceIte,reduceCtorEq,scL,scD,expand,List.replicate,c13])|apply gC_drawW|((first|apply gI_dec|apply gG_dec|apply gPG_dec|apply gI_var|apply gG_var|apply gPG_var)<;>intro _))
 refine callV_flat (by rw[hC];exact hck.flat rfl rfl) ?_
 rw[h0]
 repeat' (first|(simp (disch:=first|omega|assumption|exact bd (by with_unfolding_all rfl)|exact Or.inl rfl|exact Or.inl trivial|exact okL_map _ (fun _=>rfl) _|(simp only[VVlen]<;>omega)|fail) only[VV0,VV1,VV2,VV3,VV4,VV5,VV6,VV7,VV8,VV9,mkFnV,vargs,slotsL,opdsA,Nat.reduceEqDiff,Nat.reduceLT,Nat.reduceAdd,Nat.reduceBEq,Int.reduceAdd,Int.reduceSub,Int.reduceLT,Int.reduceLE,Int.reduceEq,Int.reduceNeg,↓reduceIte,reduceCtorEq,scL,scD,expand,List.replicate])|apply gC_drawW|((first|apply gI_dec|apply gG_dec|apply gPG_dec|apply gI_var|apply gG_var|apply gPG_var)<;>intro _))
 refine callV_of (by rw[hC];exact values_p w (n+4) s hs l) rfl rfl rfl ?_
 repeat' (first|(simp (disch:=first|omega|assumption|exact bd (by with_unfolding_all rfl)|exact Or.inl rfl|exact Or.inl trivial|exact okL_map _ (fun _=>rfl) _|(simp only[VVlen]<;>omega)|fail) only[VV0,VV1,VV2,VV3,VV4,VV5,VV6,VV7,VV8,VV9,mkFnV,vargs,slotsL,opdsA,Nat.reduceEqDiff,Nat.reduceLT,Nat.reduceAdd,Nat.reduceBEq,Int.reduceAdd,Int.reduceSub,Int.reduceLT,Int.reduceLE,Int.reduceEq,Int.reduceNeg,↓reduceIte,reduceCtorEq,scL,scD,expand,List.replicate,vsh,vshL,shH,shO,fzSL,fzS])|apply gC_drawW|((first|apply gI_dec|apply gG_dec|apply gPG_dec|apply gI_var|apply gG_var|apply gPG_var)<;>intro _))
 refine callV_weak (st':=⟨[(1,.box 22 1 [.sl s l.length (l.map iD)])],2,0⟩) (fun C' hn'=>?_) ?_
 ·have hw:=weak_keep (C:=C') (H:= [(1,.box 22 1 [.sl s l.length (l.map iD)]),(0,.row 22 1 false false [.sl s l.length (l.map iD)])]) (nx:=2) [1] (by simp) (by simp) (by rw[hn'];exact Nat.le_refl _)
  simpa [idR,renH,aget_cons,renO,vrenL,vren] using hw
 refine sorted_w w n hC s l (by omega) ?_
 by_cases hz:l= []
 ·subst hz
  have e0:srt []= []:=List.mergeSort_nil
  have e1:cpt []= []:=rfl
  rw[e0,e1]
  refine lib_w0 1 hC rfl (fun _ _=>rfl) 2 2 ?_
  repeat' (first|(simp (disch:=first|omega|assumption|exact bd (by with_unfolding_all rfl)|exact Or.inl rfl|exact Or.inl trivial|exact okL_map _ (fun _=>rfl) _|(simp only[VVlen]<;>omega)|fail) only[VV0,VV1,VV2,VV3,VV4,VV5,VV6,VV7,VV8,VV9,mkFnV,vargs,slotsL,opdsA,Nat.reduceEqDiff,Nat.reduceLT,Nat.reduceAdd,Nat.reduceBEq,Int.reduceAdd,Int.reduceSub,Int.reduceLT,Int.reduceLE,Int.reduceEq,Int.reduceNeg,↓reduceIte,reduceCtorEq,scL,scD,expand,List.replicate])|apply gC_drawW|((first|apply gI_dec|apply gG_dec|apply gPG_dec|apply gI_var|apply gG_var|apply gPG_var)<;>intro _))
  exact weak_flat rfl hn rfl
 ·have hsz:srt l ≠ []:=fun h=>hz (List.eq_nil_of_length_eq_zero (by rw[← srt_len,h];rfl))
  have hsl:=srt_len l
  refine compact_w hC rfl (fun _ _=>rfl) 2 2 3 (srt l) hsz (by omega) rfl (Nat.zero_le _) ?_
  repeat' (first|(simp (disch:=first|omega|assumption|exact bd (by with_unfolding_all rfl)|exact Or.inl rfl|exact Or.inl trivial|exact okL_map _ (fun _=>rfl) _|(simp only[VVlen]<;>omega)|fail) only[VV0,VV1,VV2,VV3,VV4,VV5,VV6,VV7,VV8,VV9,mkFnV,vargs,slotsL,opdsA,Nat.reduceEqDiff,Nat.reduceLT,Nat.reduceAdd,Nat.reduceBEq,Int.reduceAdd,Int.reduceSub,Int.reduceLT,Int.reduceLE,Int.reduceEq,Int.reduceNeg,↓reduceIte,reduceCtorEq,scL,scD,expand,List.replicate])|apply gC_drawW|((first|apply gI_dec|apply gG_dec|apply gPG_dec|apply gI_var|apply gG_var|apply gPG_var)<;>intro _))
  exact weak_flat rfl hn rfl
end
end Go.Proofs.YtkjkiodoighgnaaDoor
namespace Go.Proofs.YtkjkiodoighgnaaDoor
open Go Go.Itp
set_option maxRecDepth 100000
set_option maxHeartbeats 1000000
set_option linter.unusedSimpArgs false
set_option linter.unusedVariables false
theorem cnt_add (p q:Nat→Bool) (a:Nat) (h1:∀ x,x ≠ a→q x=p x) (h2:p a=false) (h3:q a=true):∀ N,(List.range N).countP q=(List.range N).countP p+if a<N then 1 else 0
 |0=>rfl
 |N+1=>by
  rw[List.range_succ,List.countP_append,List.countP_append,cnt_add p q a h1 h2 h3 N]
  by_cases h:N=a
  ·subst h
   simp[List.countP_cons,h2,h3]
  ·have:=h1 N h
   simp only[List.countP_cons,List.countP_nil,this]
   generalize (if p N=true then 1 else 0)=t
   by_cases h':a<N
   ·rw[if_pos h',if_pos (by omega)];omega
   ·rw[if_neg h',if_neg (by omega)];omega
def occ (l:List Int) (k:Nat):Nat:=(List.range 400).countP fun x:Nat=>decide ((x:Int) ∈ l.take k)
theorem take_mem {l:List Int} {k:Nat} (hk:k<l.length) (x:Int):x ∈ l.take (k+1)↔x ∈ l.take k∨x=l[k]! :=by
 rw[List.take_succ_eq_append_getElem hk,List.mem_append,List.mem_singleton,getElem!_pos l k hk]
theorem occ_old {l:List Int} {k:Nat} (hk:k<l.length) (h:l[k]! ∈ l.take k):occ l (k+1)=occ l k:=by
 unfold occ
 congr 1
 funext x
 rw[decide_eq_decide,take_mem hk]
 exact ⟨fun h'=>h'.elim id fun e=>e▸h,.inl⟩
theorem occ_new {l:List Int} {k:Nat} (hk:k<l.length) (h0:0≤l[k]!) (h1:l[k]! <400) (h:l[k]! ∉ l.take k):occ l (k+1)=occ l k+1:=by
 unfold occ
 rw[cnt_add (fun x:Nat=>decide ((x:Int) ∈ l.take k)) (fun x:Nat=>decide ((x:Int) ∈ l.take (k+1))) l[k]!.toNat (fun x hx=>?_) ?_ ?_ 400,if_pos (by omega)]
 ·rw[decide_eq_false_iff_not,show ((l[k]!.toNat:Nat):Int)=l[k]! by omega]
  exact h
 ·rw[decide_eq_true_iff,show ((l[k]!.toNat:Nat):Int)=l[k]! by omega,take_mem hk]
  exact .inr rfl
 ·rw[decide_eq_decide,take_mem hk]
  exact ⟨fun h'=>h'.elim id fun e=>absurd (by omega) hx,.inl⟩
theorem occ_same {l m:List Int} (h:∀ x,x ∈ l↔x ∈ m):occ l l.length=occ m m.length:=by
 unfold occ
 congr 1
 funext x
 rw[List.take_length,List.take_length,decide_eq_decide,h]
theorem rs_occ {l:List Int} (hc:∀ k,k<l.length→0≤l[k]! ∧l[k]! <400):∀ k,k≤l.length→(rs l k).2=occ l k∧∀ x:Nat,(rs l k).1 x ≠ 0↔(x:Int) ∈ l.take k
 |0,_=>by
  refine ⟨?_,fun x=>by simp[rs]⟩
  simp[rs,occ]
 |k+1,hk=>by
  obtain ⟨h1,h2⟩:=rs_occ hc k (by omega)
  obtain ⟨c0,c1⟩:=hc k (by omega)
  have hb:=rs_bnd l k
  have hx:=h2 l[k]!.toNat
  rw[show ((l[k]!.toNat:Nat):Int)=l[k]! by omega] at hx
  by_cases hf:(rs l k).1 l[k]!.toNat=0
  ·have hn:l[k]! ∉ l.take k:=fun h=>hx.2 h hf
   rw[rs,if_pos hf]
   refine ⟨by simp only;rw[h1,occ_new (by omega) c0 c1 hn];simp,fun x=>?_⟩
   rw[take_mem (by omega)]
   simp only
   by_cases he:x=l[k]!.toNat
   ·rw[if_pos he]
    exact ⟨fun _=> .inr (by omega),fun _=>by omega⟩
   ·rw[if_neg he,h2]
    exact ⟨.inl,fun h=>h.elim id fun e=>absurd (by omega) he⟩
  ·have hn:l[k]! ∈ l.take k:=hx.1 hf
   rw[rs,if_neg hf]
   refine ⟨by rw[h1,occ_old (by omega) hn],fun x=>?_⟩
   rw[take_mem (by omega),h2]
   exact ⟨.inl,fun h=>h.elim id fun e=>e▸hn⟩
theorem srt_mem {l:List Int} (x:Int):x ∈ srt l↔x ∈ l:=List.mem_mergeSort
theorem srt_le (l:List Int):∀ i j,i<j→j<(srt l).length→(srt l)[i]! ≤(srt l)[j]! :=by
 intro i j hij hj
 have hp:=List.pairwise_mergeSort (le:=fun x y:Int=>decide (x≤y)) (fun a b c h1 h2=>by
  simp only[decide_eq_true_eq] at*;omega) (fun a b=>by
  simp only[Bool.or_eq_true,decide_eq_true_eq];omega) l
 have:=List.pairwise_iff_getElem.1 hp i j (by exact Nat.lt_trans hij hj) hj hij
 simp only[decide_eq_true_eq] at this
 rw[getElem!_pos (srt l) i (by omega),getElem!_pos (srt l) j hj]
 exact this
def kp (z:List Int) (m:Nat):Nat:=((List.range m).filter fun j=>decide (j=0∨z[j]! ≠ z[j - 1]!)).length
theorem kp_succ (z:List Int) (m:Nat):kp z (m+1)=kp z m+if m=0∨z[m]! ≠ z[m - 1]! then 1 else 0:=by
 unfold kp
 rw[List.range_succ,List.filter_append,List.length_append]
 congr 1
 by_cases h:m=0∨z[m]! ≠ z[m - 1]!
 ·rw[if_pos h,List.filter_cons,if_pos (by simpa using h)];rfl
 ·rw[if_neg h,List.filter_cons,if_neg (by simpa using h)];rfl
theorem cpt_kp (z:List Int):(cpt z).length=kp z z.length:=by unfold cpt kp;rw[List.length_map]
theorem mem_take_iff {z:List Int} {m:Nat} (hm:m≤z.length) (x:Int):x ∈ z.take m↔∃ j,j<m∧z[j]! =x:=by
 constructor
 ·intro h
  obtain ⟨j,hj,e⟩:=List.getElem_of_mem h
  rw[List.length_take] at hj
  refine ⟨j,by omega,?_⟩
  rw[getElem!_pos z j (by omega),← e,List.getElem_take]
 ·rintro ⟨j,hj,rfl⟩
  rw[getElem!_pos z j (by omega)]
  refine List.mem_of_getElem (i:=j) (h:=by rw[List.length_take];omega) ?_
  rw[List.getElem_take]
theorem kp_occ {z:List Int} (hs:∀ i j,i<j→j<z.length→z[i]! ≤z[j]!) (hc:∀ k,k<z.length→0≤z[k]! ∧z[k]! <400):∀ m,m≤z.length→kp z m=occ z m
 |0,_=>by simp[kp,occ]
 |m+1,hm=>by
  rw[kp_succ,kp_occ hs hc m (by omega)]
  obtain ⟨c0,c1⟩:=hc m (by omega)
  by_cases h:m=0∨z[m]! ≠ z[m - 1]!
  ·rw[if_pos h,occ_new (by omega) c0 c1]
   intro hmem
   obtain ⟨j,hj,e⟩:=(mem_take_iff (by omega) _).1 hmem
   rcases h with h|h
   ·omega
   ·have h1:=hs (m - 1) m (by omega) (by omega)
    by_cases hjm:j=m - 1
    ·subst hjm;exact h e.symm
    ·have h2:=hs j (m - 1) (by omega) (by omega)
     omega
  ·rw[if_neg h,occ_old (by omega)]
   ·rfl
   ·have h0:m ≠ 0:=fun e=>h (.inl e)
    have h1:z[m]! =z[m - 1]! :=Classical.not_not.1 fun e=>h (.inr e)
    exact (mem_take_iff (by omega) _).2 ⟨m - 1,by omega,h1.symm⟩
theorem used_n {l:List Int} (h:chk l=0):(((cpt (srt l)).length:Nat):Int)=(rs l l.length).2:=by
 obtain ⟨hl4,hc⟩:=chk_facts h
 rw[(rs_occ hc l.length (Nat.le_refl _)).1,cpt_kp,kp_occ (srt_le l) (fun k hk=>?_) _ (Nat.le_refl _),occ_same (fun x=>srt_mem x)]
 have:=chk_mem h (srt l)[k]! ((srt_mem _).1 (by rw[getElem!_pos _ k hk];exact List.getElem_mem hk))
 exact this
def nU (l:List Int):Int:=(rs l l.length).2
theorem used_eq {l:List Int} (h:chk l=0):usedF l=(nU l,0):=by
 unfold usedF nU
 rw[if_pos h,used_n h]
end Go.Proofs.YtkjkiodoighgnaaDoor
namespace Go.Proofs.YtkjkiodoighgnaaDoor
open Go Go.Itp
set_option maxRecDepth 100000
set_option maxHeartbeats 1000000
set_option linter.unusedSimpArgs false
set_option linter.unusedVariables false
def Rn (l:List Int):List Int:=(List.range l.length).map (rv l)
theorem Rn_len (l:List Int):(Rn l).length=l.length:=by simp[Rn]
theorem rv_bnd (l:List Int) (k:Nat):0≤rv l k∧rv l k≤(rs l k).2∧(rs l (k+1)).2 - 1=max ((rs l k).2 - 1) (rv l k):=by
 obtain ⟨h1,h2,h3⟩:=rs_bnd l k
 have:=h3 l[k]!.toNat
 unfold rv
 rw[rs]
 by_cases hf:(rs l k).1 l[k]!.toNat=0
 ·rw[if_pos hf,if_pos hf]
  exact ⟨h1,Int.le_refl _,by simp only;omega⟩
 ·rw[if_neg hf,if_neg hf]
  exact ⟨by omega,by omega,by omega⟩
theorem rs_stable (l:List Int):∀ k i,i<k→(rs l k).1 l[i]!.toNat=rv l i+1
 |0,i,h=>absurd h (Nat.not_lt_zero _)
 |k+1,i,h=>by
  have hb:=(rv_bnd l i).1
  rw[rs]
  rcases Nat.lt_succ_iff_lt_or_eq.1 h with h|h
  ·have ih:=rs_stable l k i h
   by_cases hf:(rs l k).1 l[k]!.toNat=0
   ·rw[if_pos hf]
    simp only
    rw[if_neg (fun e=>by rw[e] at ih;omega)]
    exact ih
   ·rw[if_neg hf];exact ih
  ·subst h
   unfold rv
   by_cases hf:(rs l i).1 l[i]!.toNat=0
   ·rw[if_pos hf,if_pos hf];simp
   ·rw[if_neg hf,if_neg hf];omega
theorem rs_inj (l:List Int):∀ k (x y:Nat),(rs l k).1 x=(rs l k).1 y→(rs l k).1 x ≠ 0→x=y
 |0,x,y,_,h=>absurd rfl h
 |k+1,x,y,h1,h2=>by
  obtain ⟨b1,b2,b3⟩:=rs_bnd l k
  have hx:=b3 x
  have hy:=b3 y
  rw[rs] at h1 h2
  by_cases hf:(rs l k).1 l[k]!.toNat=0
  ·rw[if_pos hf] at h1 h2
   simp only at h1 h2
   by_cases ex:x=l[k]!.toNat<;>by_cases ey:y=l[k]!.toNat
   ·rw[ex,ey]
   ·rw[if_pos ex,if_neg ey] at h1;omega
   ·rw[if_neg ex,if_pos ey] at h1;omega
   ·rw[if_neg ex,if_neg ey] at h1
    rw[if_neg ex] at h2
    exact rs_inj l k x y h1 h2
  ·rw[if_neg hf] at h1 h2
   exact rs_inj l k x y h1 h2
theorem rv_pat {l:List Int} (hc:∀ k,k<l.length→0≤l[k]!) {i j:Nat} (hi:i<l.length) (hj:j<l.length):rv l i=rv l j↔l[i]! =l[j]! :=by
 have h1:=rs_stable l l.length i hi
 have h2:=rs_stable l l.length j hj
 have h3:=(rv_bnd l i).1
 have c1:=hc i hi
 have c2:=hc j hj
 constructor
 ·intro h
  have:=rs_inj l l.length l[i]!.toNat l[j]!.toNat (by rw[h1,h2,h]) (by rw[h1];omega)
  omega
 ·intro h
  rw[h] at h1
  omega
theorem chk_of {l:List Int} (h1:l.length≤400) (h:∀ i,i<l.length→0≤l[i]! ∧l[i]! <400):chk l=0:=by
 unfold chk
 rw[if_neg (by omega),if_pos]
 refine List.all_eq_true.2 fun x hx=>?_
 obtain ⟨i,hi,rfl⟩:=List.getElem_of_mem hx
 have:=h i hi
 rw[getElem!_pos l i hi] at this
 simp[col,this]
structure MInv (a b:List Int) (k:Nat) (o:Nat→Int) (t:Nat→Bool):Prop where
 seen:∀ i,i<k→o a[i]!.toNat=b[i]!
 fresh:∀ x,(∀ i,i<k→a[i]!.toNat ≠ x)→o x= -1
 taken:∀ y,t y=true↔∃ i,i<k∧b[i]!.toNat=y
end Go.Proofs.YtkjkiodoighgnaaDoor
namespace Go.Proofs.YtkjkiodoighgnaaDoor
open Go Go.Itp
set_option maxRecDepth 100000
set_option maxHeartbeats 2000000
set_option linter.unusedSimpArgs false
set_option linter.unusedVariables false
abbrev slI (l:List Int):V:= .sl 3 l.length (l.map iD)
end Go.Proofs.YtkjkiodoighgnaaDoor
namespace Go.Proofs.YtkjkiodoighgnaaDoor
open Go Go.Itp
set_option maxRecDepth 100000
set_option maxHeartbeats 1000000
set_option linter.unusedSimpArgs false
set_option linter.unusedVariables false
def badC (d:Nat) (c:UInt8):Prop:=c.toNat<48∨57<c.toNat∨(d=0∧c.toNat=48)
instance (d:Nat) (c:UInt8):Decidable (badC d c):=by unfold badC;exact inferInstance
def nxt (n:Nat) (c:UInt8):Nat:=10*n+(c.toNat - 48)
def dgs:Nat→Nat→List UInt8→Option (Nat × Nat)
 |n,d,[]=>some (n,d)
 |n,d,c::r=>if badC d c then none else if 400<nxt n c then none else dgs (nxt n c) (d+1) r
theorem decDigits_nxt {n:Nat} {c:UInt8} (hn:1≤n) (h0:48≤c.toNat) (h1:c.toNat≤57):Lib.decDigits (nxt n c)=Lib.decDigits n++ [c]:=by
 rw[Lib.decDigits]
 unfold nxt
 rw[dif_neg (by omega)]
 congr 1
 ·congr 1;omega
 ·congr 1
  apply UInt8.toNat_inj.1
  rw[UInt8.toNat_ofNat_of_lt' (by unfold UInt8.size;omega)]
  omega
theorem dgs_some:∀ (x:List UInt8) (n d:Nat) {m e:Nat},1≤n→n≤400→1≤d→dgs n d x=some (m,e)→1≤e∧1≤m∧m≤400∧Lib.decDigits n++x=Lib.decDigits m
 | [],n,d,m,e,h1,h2,h3,h=>by
  simp only[dgs,Option.some.injEq,Prod.mk.injEq] at h
  obtain ⟨rfl,rfl⟩:=h
  exact ⟨h3,h1,h2,by simp⟩
 |c::r,n,d,m,e,h1,h2,h3,h=>by
  rw[dgs] at h
  split at h
  ·cases h
  rename_i hb
  split at h
  ·cases h
  rename_i hn
  unfold badC at hb
  have k0:48≤c.toNat:=by omega
  have k1:c.toNat≤57:=by omega
  obtain ⟨q1,q2,q3,q4⟩:=dgs_some r (nxt n c) (d+1) (by unfold nxt;omega) (by omega) (by omega) h
  refine ⟨q1,q2,q3,?_⟩
  rw[decDigits_nxt h1 k0 k1] at q4
  simpa using q4
def rdN' (x:List UInt8):Option Int:=match dgs 0 0 x with
 |some (n,d)=>if d=0 then none else some ((n:Int) - 1)
 |none=>none
theorem dgs_all:((List.range 400).all fun m=>decide (dgs 0 0 (itoaF ((m:Int)+1))=some (m+1,(itoaF ((m:Int)+1)).length)))=true:=by decide+kernel
theorem rdN'_dw {p:Int} (h0:0≤p) (h1:p<400):rdN' (dw p)=some p:=by
 obtain ⟨m,rfl⟩:=Int.eq_ofNat_of_zero_le h0
 have h:=List.all_eq_true.1 dgs_all m (by simp;omega)
 rw[decide_eq_true_eq] at h
 have hne:(itoaF ((m:Int)+1)).length ≠ 0:=by
  rw[← itoaF_eq (by omega) (by omega)]
  intro e
  exact itoa_ne (List.eq_nil_of_length_eq_zero e)
 unfold rdN' dw
 rw[itoaF_eq (by omega) (by omega),h]
 simp only
 rw[if_neg hne]
 congr 1;omega
theorem rdN'_some {x:List UInt8} {p:Int} (h:rdN' x=some p):0≤p∧p<400∧x=dw p:=by
 unfold rdN' at h
 split at h
 case h_2=>cases h
 rename_i n d hd
 split at h
 ·cases h
 rename_i hd0
 cases h
 rcases x with _|⟨c,r⟩
 ·simp only[dgs,Option.some.injEq,Prod.mk.injEq] at hd
  exact absurd hd.2.symm hd0
 rw[dgs] at hd
 split at hd
 ·cases hd
 rename_i hb
 split at hd
 ·cases hd
 rename_i hn
 unfold badC at hb
 have k0:48<c.toNat:=by omega
 have k1:c.toNat≤57:=by omega
 obtain ⟨q1,q2,q3,q4⟩:=dgs_some r (nxt 0 c) 1 (by unfold nxt;omega) (by omega) (Nat.le_refl _) hd
 refine ⟨by omega,by omega,?_⟩
 have e1:Lib.decDigits (nxt 0 c)= [c]:=by
  rw[Lib.decDigits,dif_pos (by unfold nxt;omega)]
  congr 1
  apply UInt8.toNat_inj.1
  unfold nxt
  rw[UInt8.toNat_ofNat_of_lt' (by unfold UInt8.size;omega)]
  omega
 rw[e1] at q4
 unfold dw
 rw[show (n:Int) - 1+1=(n:Int) by omega,Lib.itoa_nonneg,← q4]
 rfl
def parseR (out:List Int):List (List UInt8)→Option (List Int)
 | []=>some out
 |x::ws=>match rdN' x with
  |none=>none
  |some p=>if out.length=400 then none else parseR (out++ [p]) ws
theorem parseR_some:∀ (ws:List (List UInt8)) {out R:List Int},out.length≤400→parseR out ws=some R→∃ Q,R=out++Q∧parseA ws=some Q∧(∀ p ∈ Q,0≤p∧p<400)∧R.length≤400
 | [],out,R,ho,h=>by
  simp only[parseR,Option.some.injEq] at h
  subst h
  exact ⟨[],by simp,rfl,by simp,ho⟩
 |x::ws,out,R,ho,h=>by
  rw[parseR] at h
  split at h
  ·cases h
  rename_i p hp
  split at h
  ·cases h
  rename_i hl
  obtain ⟨p0,p1,rfl⟩:=rdN'_some hp
  obtain ⟨Q,h1,h2,h3,h4⟩:=parseR_some ws (by simp;omega) h
  refine ⟨p::Q,by rw[h1];simp,?_,?_,h4⟩
  ·rw[parseA,readN_dw p0 p1,Option.bind_some,h2];rfl
  ·intro q hq
   rcases List.mem_cons.1 hq with rfl|hq
   ·exact ⟨p0,p1⟩
   ·exact h3 q hq
theorem parseR_of:∀ (ws:List (List UInt8)) {out Q:List Int},parseA ws=some Q→(∀ p ∈ Q,0≤p∧p<400)→(out++Q).length≤400→parseR out ws=some (out++Q)
 | [],out,Q,h,_,_=>by
  simp only[parseA,Option.some.injEq] at h
  subst h
  simp[parseR]
 |x::ws,out,Q,h,hq,hl=>by
  simp only[parseA,Option.bind_eq_some_iff,Option.map_eq_some_iff] at h
  obtain ⟨p,h1,R,h2,rfl⟩:=h
  have hp:=hq p (by simp)
  rw[parseR,readN_some h1,rdN'_dw hp.1 hp.2]
  simp only
  rw[if_neg (by simp at hl;omega),parseR_of ws h2 (fun q h=>hq q (List.mem_cons_of_mem _ h)) (by simpa using hl)]
  simp
def rp (out:List Int) (n d:Nat):List UInt8→Option (List Int)
 | []=>if d=0∨out.length=400 then none else some (out++ [(n:Int) - 1])
 |c::r=>if c.toNat=32 then (if d=0∨out.length=400 then none else rp (out++ [(n:Int) - 1]) 0 0 r)
   else if badC d c then none else if 400<nxt n c then none else rp out (nxt n c) (d+1) r
def rpW (out:List Int) (n d:Nat):List (List UInt8)→Option (List Int)
 | []=>none
 |x::ws=>match dgs n d x with
  |none=>none
  |some p=>if p.2=0∨out.length=400 then none else parseR (out++ [(p.1:Int) - 1]) ws
theorem rpW_zero (out:List Int):∀ {ws:List (List UInt8)},ws ≠ []→rpW out 0 0 ws=parseR out ws
 | [],h=>absurd rfl h
 |x::ws,_=>by
  rw[rpW,parseR]
  unfold rdN'
  cases dgs 0 0 x with
  |none=>rfl
  |some p=>
   obtain ⟨m,e⟩:=p
   simp only
   by_cases he:e=0
   ·rw[if_pos (.inl he),if_pos he]
   ·rw[if_neg he]
    by_cases hl:out.length=400
    ·rw[if_pos (.inr hl)];simp only;rw[if_pos hl]
    ·rw[if_neg (fun h=>h.elim he hl)];simp only;rw[if_neg hl]
theorem rp_words:∀ (s:List UInt8) (out:List Int) (n d:Nat),rp out n d s=rpW out n d (words 32 s)
 | [],out,n,d=>by
  simp only[rp,words,rpW,dgs,parseR]
 |c::r,out,n,d=>by
  have hne:=words_ne 32 r
  by_cases hc:c.toNat=32
  ·have:c=32:=UInt8.toNat_inj.1 (by simpa using hc)
   subst this
   rw[rp,if_pos hc,words,if_pos rfl,rpW,dgs]
   simp only
   rw[rp_words r,rpW_zero _ hne]
  ·have hc':¬ c=32:=fun e=>hc (by rw[e];rfl)
   rw[rp,if_neg hc,words,if_neg hc']
   cases hw:words 32 r with
   |nil=>exact absurd hw hne
   |cons w ws=>
    simp only
    rw[rpW,dgs]
    by_cases hb:badC d c
    ·rw[if_pos hb,if_pos hb]
    ·rw[if_neg hb,if_neg hb]
     by_cases hn:400<nxt n c
     ·rw[if_pos hn,if_pos hn]
     ·rw[if_neg hn,if_neg hn,rp_words r,hw,rpW]
def rparseF (s:List UInt8):List Int × Int:=if s= [] then ([],0) else match rp [] 0 0 s with
 |none=>([],12)
 |some R=>(R,0)
theorem parse_eq (s:List UInt8):rparseF s=pparseF s:=by
 unfold rparseF pparseF
 by_cases hs:s= []
 ·rw[if_pos hs,if_pos hs]
 rw[if_neg hs,if_neg hs,rp_words,rpW_zero _ (words_ne 32 s)]
 cases hr:parseR [] (words 32 s) with
 |some R=>
  obtain ⟨Q,h1,h2,h3,h4⟩:=parseR_some _ (by simp) hr
  rw[List.nil_append] at h1
  subst h1
  rw[h2]
  simp only
  rw[if_pos]
  refine chk_of h4 fun i hi=>?_
  rw[getElem!_pos R i hi]
  exact h3 _ (List.getElem_mem hi)
 |none=>
  cases ha:parseA (words 32 s) with
  |none=>rfl
  |some Q=>
   simp only
   rw[if_neg]
   intro hc
   have:=parseR_of (words 32 s) (out:= []) ha (chk_mem hc) (by simpa using (chk_facts hc).1)
   rw[hr] at this
   cases this
end Go.Proofs.YtkjkiodoighgnaaDoor
namespace Go.Proofs.YtkjkiodoighgnaaDoor
open Go Go.Itp
set_option maxRecDepth 100000
set_option maxHeartbeats 1000000
set_option linter.unusedSimpArgs false
set_option linter.unusedVariables false
def plF (l:List Int) (x:Int):Nat→Nat→Int
 |0,_=> -1
 |m+1,i=>if l[i]! =x then i else plF l x m (i+1)
theorem plF_cases (l:List Int) (x:Int):∀ m i,(plF l x m i= -1∧∀ j,i≤j→j<i+m→l[j]! ≠ x)∨∃ j,i≤j∧j<i+m∧plF l x m i=j∧l[j]! =x
 |0,i=> .inl ⟨rfl,fun j h1 h2=>by omega⟩
 |m+1,i=>by
  rw[plF]
  by_cases h:l[i]! =x
  ·rw[if_pos h];exact .inr ⟨i,Nat.le_refl _,by omega,rfl,h⟩
  ·rw[if_neg h]
   rcases plF_cases l x m (i+1) with ⟨h1,h2⟩|⟨j,h1,h2,h3,h4⟩
   ·refine .inl ⟨h1,fun j a b=>?_⟩
    by_cases hj:j=i
    ·subst hj;exact h
    ·exact h2 j (by omega) (by omega)
   ·exact .inr ⟨j,by omega,by omega,h3,h4⟩
section
variable (w:World) (n:Nat)
theorem place_p (s:Nat) (l:List Int) (k:Nat) (x:Int) (hl:l.length≤140737488351232) (hk:k≤l.length):VSpec (EN w (n+1)) 49 [.sl s l.length (l.map iD),.sc (.int .i64 k),.sc (.int .i64 x)] (.sc (.int .i64 (plF l x k 0))) ⟨[],0,0⟩:=by
 refine vspec_flat rfl rfl (fun _ _=>rfl) (Nat.le_of_ble_eq_true rfl) (oldVals w) rfl fun C hC hn=>?_
 repeat' (first|(simp (disch:=first|omega|assumption|exact bd (by with_unfolding_all rfl)|exact Or.inl rfl|exact Or.inl trivial|exact okL_map _ (fun _=>rfl) _|(simp only[VVlen]<;>omega)|fail) only[VV0,VV1,VV2,VV3,VV4,VV5,VV6,VV7,VV8,VV9,mkFnV,vargs,slotsL,opdsA,Nat.reduceEqDiff,Nat.reduceLT,Nat.reduceAdd,Nat.reduceBEq,Int.reduceAdd,Int.reduceSub,Int.reduceLT,Int.reduceLE,Int.reduceEq,Int.reduceNeg,↓reduceIte,reduceCtorEq,scL,scD,expand,List.replicate,c49])|apply gC_drawW|((first|apply gI_dec|apply gG_dec|apply gPG_dec|apply gI_var|apply gG_var|apply gPG_var)<;>intro _))
 refine g_while (fun m fr st=>∃ i:Nat,m=k - i∧i≤k∧plF l x k 0=plF l x (k - i) i∧fr= [(0,.sl s l.length (l.map iD)),(1,.sc (.int .i64 k)),(2,.sc (.int .i64 x)),(7,.sc (.int .i64 i))]∧st=⟨[],0,0⟩) k ?_ ⟨_,_,.refl _ _,0,rfl,Nat.zero_le _,rfl,rfl,rfl⟩ ?_
 ·rw[hC,callP_rounds];unfold many;omega
 rintro m fr st ⟨i,rfl,hi,hp,rfl,rfl⟩
 by_cases hlt:i<k
 ·obtain ⟨m,hm⟩:∃ m,k - i=m+1:=⟨k - i - 1,by omega⟩
  rw[hm,plF] at hp
  generalize hx:l[i]! =y at*
  by_cases he:y=x
  ·rw[if_pos he] at hp
   rw[hp]
   repeat' (first|(simp (disch:=first|omega|assumption|exact bd (by with_unfolding_all rfl)|exact Or.inl rfl|exact Or.inl trivial|exact okL_map _ (fun _=>rfl) _|(simp only[VVlen]<;>omega)|fail) only[VV0,VV1,VV2,VV3,VV4,VV5,VV6,VV7,VV8,VV9,mkFnV,vargs,slotsL,opdsA,Nat.reduceEqDiff,Nat.reduceLT,Nat.reduceAdd,Nat.reduceBEq,Int.reduceAdd,Int.reduceSub,Int.reduceLT,Int.reduceLE,Int.reduceEq,Int.reduceNeg,↓reduceIte,reduceCtorEq,scL,scD,expand,List.replicate,c49l0,iD_dv,hx,he])|apply gC_drawW|((first|apply gI_dec|apply gG_dec|apply gPG_dec|apply gI_var|apply gG_var|apply gPG_var)<;>intro _))
   all_goals try (exfalso;omega)
   exact weak_flat rfl hn rfl
  ·rw[if_neg he] at hp
   repeat' (first|(simp (disch:=first|omega|assumption|exact bd (by with_unfolding_all rfl)|exact Or.inl rfl|exact Or.inl trivial|exact okL_map _ (fun _=>rfl) _|(simp only[VVlen]<;>omega)|fail) only[VV0,VV1,VV2,VV3,VV4,VV5,VV6,VV7,VV8,VV9,mkFnV,vargs,slotsL,opdsA,Nat.reduceEqDiff,Nat.reduceLT,Nat.reduceAdd,Nat.reduceBEq,Int.reduceAdd,Int.reduceSub,Int.reduceLT,Int.reduceLE,Int.reduceEq,Int.reduceNeg,↓reduceIte,reduceCtorEq,scL,scD,expand,List.replicate,c49l0,iD_dv,hx,he])|apply gC_drawW|((first|apply gI_dec|apply gG_dec|apply gPG_dec|apply gI_var|apply gG_var|apply gPG_var)<;>intro _))
   all_goals try (exfalso;omega)
   exact ⟨_,_,_,by omega,.refl _ _,i+1,rfl,hlt,by rw[hp];congr 1;omega,rfl,rfl⟩
 ·have:i=k:=by omega
  subst this
  rw[Nat.sub_self] at hp
  rw[hp]
  repeat' (first|(simp (disch:=first|omega|assumption|exact bd (by with_unfolding_all rfl)|exact Or.inl rfl|exact Or.inl trivial|exact okL_map _ (fun _=>rfl) _|(simp only[VVlen]<;>omega)|fail) only[VV0,VV1,VV2,VV3,VV4,VV5,VV6,VV7,VV8,VV9,mkFnV,vargs,slotsL,opdsA,Nat.reduceEqDiff,Nat.reduceLT,Nat.reduceAdd,Nat.reduceBEq,Int.reduceAdd,Int.reduceSub,Int.reduceLT,Int.reduceLE,Int.reduceEq,Int.reduceNeg,↓reduceIte,reduceCtorEq,scL,scD,expand,List.replicate,c49l0])|apply gC_drawW|((first|apply gI_dec|apply gG_dec|apply gPG_dec|apply gI_var|apply gG_var|apply gPG_var)<;>intro _))
  all_goals try (exfalso;omega)
  exact weak_flat rfl hn rfl
theorem numbered_p (s:Nat) (l:List Int) (hc0:chk l=0):VSpec (EN w (n+2)) 35 [.sl s l.length (l.map iD)] (finV (Rn l,nU l)) ⟨[],0,0⟩:=by
 refine vspec_g rfl rfl (fun _ _=>rfl) (Nat.le_of_ble_eq_true rfl) (oldVals w) retOK_fin rfl fun C hC hn=>?_
 obtain ⟨hl4,hc⟩:=chk_facts hc0
 have hro:∀ k,k≤l.length→_:=rs_occ hc
 repeat' (first|(simp (disch:=first|omega|assumption|exact bd (by with_unfolding_all rfl)|exact Or.inl rfl|exact Or.inl trivial|exact okL_map _ (fun _=>rfl) _|(simp only[VVlen]<;>omega)|fail) only[VV0,VV1,VV2,VV3,VV4,VV5,VV6,VV7,VV8,VV9,mkFnV,vargs,slotsL,opdsA,Nat.reduceEqDiff,Nat.reduceLT,Nat.reduceAdd,Nat.reduceBEq,Int.reduceAdd,Int.reduceSub,Int.reduceLT,Int.reduceLE,Int.reduceEq,Int.reduceNeg,↓reduceIte,reduceCtorEq,scL,scD,expand,List.replicate,c35])|apply gC_drawW|((first|apply gI_dec|apply gG_dec|apply gPG_dec|apply gI_var|apply gG_var|apply gPG_var)<;>intro _))
 refine g_while (fun m fr st=>∃ k:Nat,m=l.length - k∧k≤l.length∧fr= [(0,.sl s l.length (l.map iD)),(4,.gr 2 0 k),(5,.sc (.int .i64 (rs l k).2)),(6,.sc (.int .i64 k))]∧st=⟨[(0,.gro 3 1 false ((ofF k (rv l)).map iD))],1,0⟩) l.length ?_ ⟨_,_,weak_nilSlot 4 3 1 rfl,0,by omega,by omega,rfl,rfl⟩ ?_
 ·rw[hC,callP_rounds];unfold many;omega
 rintro m fr st ⟨k,rfl,hk,rfl,rfl⟩
 by_cases hlt:k<l.length
 ·obtain ⟨c0,c1⟩:=hc k hlt
  have hpl:=place_p w n s l k l[k]! (by omega) hk
  have hlk:((ofF k (rv l)).map iD).length=k*1:=by rw[List.length_map,ofF_len,Nat.mul_one]
  have hlk2:(ofF k (rv l)).length=k:=ofF_len _ _
  obtain ⟨w1,w2,w3⟩:=rs_bnd l k
  have hx:=(hro k hk).2 l[k]!.toNat
  rw[show ((l[k]!.toNat:Nat):Int)=l[k]! by omega,mem_take_iff hk] at hx
  have hst:ofF (k+1) (rv l)=ofF k (rv l)++ [rv l k]:=by simp[ofF,List.range_succ]
  rcases plF_cases l l[k]! k 0 with ⟨h1,h2⟩|⟨j,h1,h2,h3,h4⟩
  ·have hf:(rs l k).1 l[k]!.toNat=0:=Classical.byContradiction fun h=>by
    obtain ⟨j,hj,e⟩:=hx.1 h
    exact h2 j (Nat.zero_le _) (by omega) e
   have hr:rv l k=(rs l k).2:=if_pos hf
   have hr2:(rs l (k+1)).2=(rs l k).2+1:=by rw[rs,if_pos hf]
   rw[h1] at hpl
   rw[hr] at hst
   repeat' (first|(simp (disch:=first|omega|assumption|exact bd (by with_unfolding_all rfl)|exact Or.inl rfl|exact Or.inl trivial|exact okL_map _ (fun _=>rfl) _|(simp only[VVlen]<;>omega)|fail) only[VV0,VV1,VV2,VV3,VV4,VV5,VV6,VV7,VV8,VV9,mkFnV,vargs,slotsL,opdsA,Nat.reduceEqDiff,Nat.reduceLT,Nat.reduceAdd,Nat.reduceBEq,Int.reduceAdd,Int.reduceSub,Int.reduceLT,Int.reduceLE,Int.reduceEq,Int.reduceNeg,↓reduceIte,reduceCtorEq,scL,scD,expand,List.replicate,c35l0,iD_dv])|apply gC_drawW|((first|apply gI_dec|apply gG_dec|apply gPG_dec|apply gI_var|apply gG_var|apply gPG_var)<;>intro _))
   all_goals try (exfalso;omega)
   refine callV_flat (by rw[hC];exact hpl.flat rfl rfl) ?_
   repeat' (first|(simp (disch:=first|omega|assumption|exact bd (by with_unfolding_all rfl)|exact Or.inl rfl|exact Or.inl trivial|exact okL_map _ (fun _=>rfl) _|(simp only[VVlen]<;>omega)|fail) only[VV0,VV1,VV2,VV3,VV4,VV5,VV6,VV7,VV8,VV9,mkFnV,vargs,slotsL,opdsA,Nat.reduceEqDiff,Nat.reduceLT,Nat.reduceAdd,Nat.reduceBEq,Int.reduceAdd,Int.reduceSub,Int.reduceLT,Int.reduceLE,Int.reduceEq,Int.reduceNeg,↓reduceIte,reduceCtorEq,scL,scD,expand,List.replicate])|apply gC_drawW|((first|apply gI_dec|apply gG_dec|apply gPG_dec|apply gI_var|apply gG_var|apply gPG_var)<;>intro _))
   all_goals try (exfalso;omega)
   refine ⟨_,_,_,by omega,weak_to [(2,0)] 1 hn rfl rfl rfl rfl,k+1,rfl,hlt,?_,?_⟩
   ·rw[hr2]
    simp[Itp.renF,vren,aget_cons]
   ·rw[hst,List.map_append]
    simp[renH,aget_cons,renO,iD]
  ·have hf:(rs l k).1 l[k]!.toNat ≠ 0:=hx.2 ⟨j,by omega,h4⟩
   have hr:rv l k=rv l j:=((rv_pat (fun k hk=>(hc k hk).1) hlt (show j<l.length by omega)).2 h4.symm)
   have hr2:(rs l (k+1)).2=(rs l k).2:=by rw[rs,if_neg hf]
   have hg:=ofF_get k (rv l) j (by omega)
   rw[h3] at hpl
   rw[hr] at hst
   repeat' (first|(simp (disch:=first|omega|assumption|exact bd (by with_unfolding_all rfl)|exact Or.inl rfl|exact Or.inl trivial|exact okL_map _ (fun _=>rfl) _|(simp only[VVlen]<;>omega)|fail) only[VV0,VV1,VV2,VV3,VV4,VV5,VV6,VV7,VV8,VV9,mkFnV,vargs,slotsL,opdsA,Nat.reduceEqDiff,Nat.reduceLT,Nat.reduceAdd,Nat.reduceBEq,Int.reduceAdd,Int.reduceSub,Int.reduceLT,Int.reduceLE,Int.reduceEq,Int.reduceNeg,↓reduceIte,reduceCtorEq,scL,scD,expand,List.replicate,c35l0,iD_dv])|apply gC_drawW|((first|apply gI_dec|apply gG_dec|apply gPG_dec|apply gI_var|apply gG_var|apply gPG_var)<;>intro _))
   all_goals try (exfalso;omega)
   refine callV_flat (by rw[hC];exact hpl.flat rfl rfl) ?_
   repeat' (first|(simp (disch:=first|omega|assumption|exact bd (by with_unfolding_all rfl)|exact Or.inl rfl|exact Or.inl trivial|exact okL_map _ (fun _=>rfl) _|(simp only[VVlen]<;>omega)|fail) only[VV0,VV1,VV2,VV3,VV4,VV5,VV6,VV7,VV8,VV9,mkFnV,vargs,slotsL,opdsA,Nat.reduceEqDiff,Nat.reduceLT,Nat.reduceAdd,Nat.reduceBEq,Int.reduceAdd,Int.reduceSub,Int.reduceLT,Int.reduceLE,Int.reduceEq,Int.reduceNeg,↓reduceIte,reduceCtorEq,scL,scD,expand,List.replicate,iD_dv,hg])|apply gC_drawW|((first|apply gI_dec|apply gG_dec|apply gPG_dec|apply gI_var|apply gG_var|apply gPG_var)<;>intro _))
   all_goals try (exfalso;omega)
   refine ⟨_,_,_,by omega,weak_to [(2,0)] 1 hn rfl rfl rfl rfl,k+1,rfl,hlt,?_,?_⟩
   ·rw[hr2]
    simp[Itp.renF,vren,aget_cons]
   ·rw[hst,List.map_append]
    simp[renH,aget_cons,renO,iD]
 ·have:k=l.length:=by omega
  subst this
  have hR:ofF l.length (rv l)=Rn l:=rfl
  have hRl:=Rn_len l
  rw[hR]
  have hnu:nU l=(rs l l.length).2:=rfl
  rw[← hnu]
  repeat' (first|(simp (disch:=first|omega|assumption|exact bd (by with_unfolding_all rfl)|exact Or.inl rfl|exact Or.inl trivial|exact okL_map _ (fun _=>rfl) _|(simp only[VVlen]<;>omega)|fail) only[VV0,VV1,VV2,VV3,VV4,VV5,VV6,VV7,VV8,VV9,mkFnV,vargs,slotsL,opdsA,Nat.reduceEqDiff,Nat.reduceLT,Nat.reduceAdd,Nat.reduceBEq,Int.reduceAdd,Int.reduceSub,Int.reduceLT,Int.reduceLE,Int.reduceEq,Int.reduceNeg,↓reduceIte,reduceCtorEq,scL,scD,expand,List.replicate,c35l0])|apply gC_drawW|((first|apply gI_dec|apply gG_dec|apply gPG_dec|apply gI_var|apply gG_var|apply gPG_var)<;>intro _))
  have:=weak_finG (C:=C) (t:=3) (o:=0) (z:=false) (l:=Rn l) (x:= .int .i64 (nU l)) (st:=⟨[(0,.gro 3 1 false ((Rn l).map iD))],1,0⟩) rfl rfl hn rfl
  rw[hRl] at this
  simp only[finV,hRl]
  exact this
theorem rused_p (s:Nat) (l:List Int) (hl:l.length≤140737488351232):VSpec (EN w (n+3)) 14 [.sl s l.length (l.map iD)] (.tup [.sc (.int .i64 (usedF l).1),.sc (.int .i64 (usedF l).2)]) ⟨[],0,0⟩:=by
 refine vspec_flat rfl rfl (fun _ _=>rfl) (Nat.le_of_ble_eq_true rfl) (oldVals w) rfl fun C hC hn=>?_
 have hck:=fun st=>(rcheck_p w (n+1) s l hl).of hC rfl st rfl
 by_cases h0:chk l=0
 case neg=>
  have e:usedF l=(0,chk l):=if_neg h0
  rw[e]
  repeat' (first|(simp (disch:=first|omega|assumption|exact bd (by with_unfolding_all rfl)|exact Or.inl rfl|exact Or.inl trivial|exact okL_map _ (fun _=>rfl) _|(simp only[VVlen]<;>omega)|fail) only[VV0,VV1,VV2,VV3,VV4,VV5,VV6,VV7,VV8,VV9,mkFnV,vargs,slotsL,opdsA,Nat.reduceEqDiff,Nat.reduceLT,Nat.reduceAdd,Nat.reduceBEq,Int.reduceAdd,Int.reduceSub,Int.reduceLT,Int.reduceLE,Int.reduceEq,Int.reduceNeg,↓reduceIte,reduceCtorEq,scL,scD,expand,List.replicate,c14])|apply gC_drawW|((first|apply gI_dec|apply gG_dec|apply gPG_dec|apply gI_var|apply gG_var|apply gPG_var)<;>intro _))
  refine callV_flat (hck _) ?_
  repeat' (first|(simp (disch:=first|omega|assumption|exact bd (by with_unfolding_all rfl)|exact Or.inl rfl|exact Or.inl trivial|exact okL_map _ (fun _=>rfl) _|(simp only[VVlen]<;>omega)|fail) only[VV0,VV1,VV2,VV3,VV4,VV5,VV6,VV7,VV8,VV9,mkFnV,vargs,slotsL,opdsA,Nat.reduceEqDiff,Nat.reduceLT,Nat.reduceAdd,Nat.reduceBEq,Int.reduceAdd,Int.reduceSub,Int.reduceLT,Int.reduceLE,Int.reduceEq,Int.reduceNeg,↓reduceIte,reduceCtorEq,scL,scD,expand,List.replicate,h0])|apply gC_drawW|((first|apply gI_dec|apply gG_dec|apply gPG_dec|apply gI_var|apply gG_var|apply gPG_var)<;>intro _))
  all_goals try (exfalso;omega)
  refine callV_flat (hck _) ?_
  repeat' (first|(simp (disch:=first|omega|assumption|exact bd (by with_unfolding_all rfl)|exact Or.inl rfl|exact Or.inl trivial|exact okL_map _ (fun _=>rfl) _|(simp only[VVlen]<;>omega)|fail) only[VV0,VV1,VV2,VV3,VV4,VV5,VV6,VV7,VV8,VV9,mkFnV,vargs,slotsL,opdsA,Nat.reduceEqDiff,Nat.reduceLT,Nat.reduceAdd,Nat.reduceBEq,Int.reduceAdd,Int.reduceSub,Int.reduceLT,Int.reduceLE,Int.reduceEq,Int.reduceNeg,↓reduceIte,reduceCtorEq,scL,scD,expand,List.replicate])|apply gC_drawW|((first|apply gI_dec|apply gG_dec|apply gPG_dec|apply gI_var|apply gG_var|apply gPG_var)<;>intro _))
  exact weak_flat rfl hn rfl
 rw[used_eq h0]
 rw[h0] at hck
 repeat' (first|(simp (disch:=first|omega|assumption|exact bd (by with_unfolding_all rfl)|exact Or.inl rfl|exact Or.inl trivial|exact okL_map _ (fun _=>rfl) _|(simp only[VVlen]<;>omega)|fail) only[VV0,VV1,VV2,VV3,VV4,VV5,VV6,VV7,VV8,VV9,mkFnV,vargs,slotsL,opdsA,Nat.reduceEqDiff,Nat.reduceLT,Nat.reduceAdd,Nat.reduceBEq,Int.reduceAdd,Int.reduceSub,Int.reduceLT,Int.reduceLE,Int.reduceEq,Int.reduceNeg,↓reduceIte,reduceCtorEq,scL,scD,expand,List.replicate,c14])|apply gC_drawW|((first|apply gI_dec|apply gG_dec|apply gPG_dec|apply gI_var|apply gG_var|apply gPG_var)<;>intro _))
 refine callV_flat (hck _) ?_
 repeat' (first|(simp (disch:=first|omega|assumption|exact bd (by with_unfolding_all rfl)|exact Or.inl rfl|exact Or.inl trivial|exact okL_map _ (fun _=>rfl) _|(simp only[VVlen]<;>omega)|fail) only[VV0,VV1,VV2,VV3,VV4,VV5,VV6,VV7,VV8,VV9,mkFnV,vargs,slotsL,opdsA,Nat.reduceEqDiff,Nat.reduceLT,Nat.reduceAdd,Nat.reduceBEq,Int.reduceAdd,Int.reduceSub,Int.reduceLT,Int.reduceLE,Int.reduceEq,Int.reduceNeg,↓reduceIte,reduceCtorEq,scL,scD,expand,List.replicate])|apply gC_drawW|((first|apply gI_dec|apply gG_dec|apply gPG_dec|apply gI_var|apply gG_var|apply gPG_var)<;>intro _))
 refine callV_of (by rw[hC];exact numbered_p w n s l h0) rfl rfl rfl ?_
 repeat' (first|(simp (disch:=first|omega|assumption|exact bd (by with_unfolding_all rfl)|exact Or.inl rfl|exact Or.inl trivial|exact okL_map _ (fun _=>rfl) _|(simp only[VVlen]<;>omega)|fail) only[VV0,VV1,VV2,VV3,VV4,VV5,VV6,VV7,VV8,VV9,mkFnV,vargs,slotsL,opdsA,Nat.reduceEqDiff,Nat.reduceLT,Nat.reduceAdd,Nat.reduceBEq,Int.reduceAdd,Int.reduceSub,Int.reduceLT,Int.reduceLE,Int.reduceEq,Int.reduceNeg,↓reduceIte,reduceCtorEq,scL,scD,expand,List.replicate,vsh,vshL,shH,shO,fzSL,fzS])|apply gC_drawW|((first|apply gI_dec|apply gG_dec|apply gPG_dec|apply gI_var|apply gG_var|apply gPG_var)<;>intro _))
 exact weak_flat rfl hn rfl
theorem decimal_i (z:Int) (h0:0≤z) (h1:z≤1000000000000):VSpec (EN w (n+1)) 36 [.sc (.int .i64 z)] (strV (Lib.itoa z)) ⟨[],0,0⟩:=by
 obtain ⟨x,rfl⟩:=Int.eq_ofNat_of_zero_le h0
 have:=decimal_p w n x (by omega)
 rw[← Lib.itoa_nonneg] at this
 exact this
theorem rtext_p (s:Nat) (l:List Int) (hl:l.length≤140737488351232):VSpec (EN w (n+3)) 15 [.sl s l.length (l.map iD)] (.tup [strV (textF l).1,.sc (.int .i64 (textF l).2)]) ⟨[],0,0⟩:=by
 refine vspec_flat rfl rfl (fun _ _=>rfl) (Nat.le_of_ble_eq_true rfl) (oldVals w) rfl fun C hC hn=>?_
 have hck:=fun st=>(rcheck_p w (n+1) s l hl).of hC rfl st rfl
 by_cases h0:chk l=0
 case neg=>
  have e:textF l=([],chk l):=if_neg h0
  rw[e]
  repeat' (first|(simp (disch:=first|omega|assumption|exact bd (by with_unfolding_all rfl)|exact Or.inl rfl|exact Or.inl trivial|exact okL_map _ (fun _=>rfl) _|(simp only[VVlen]<;>omega)|fail) only[VV0,VV1,VV2,VV3,VV4,VV5,VV6,VV7,VV8,VV9,mkFnV,vargs,slotsL,opdsA,Nat.reduceEqDiff,Nat.reduceLT,Nat.reduceAdd,Nat.reduceBEq,Int.reduceAdd,Int.reduceSub,Int.reduceLT,Int.reduceLE,Int.reduceEq,Int.reduceNeg,↓reduceIte,reduceCtorEq,scL,scD,expand,List.replicate,c15])|apply gC_drawW|((first|apply gI_dec|apply gG_dec|apply gPG_dec|apply gI_var|apply gG_var|apply gPG_var)<;>intro _))
  refine callV_flat (hck _) ?_
  repeat' (first|(simp (disch:=first|omega|assumption|exact bd (by with_unfolding_all rfl)|exact Or.inl rfl|exact Or.inl trivial|exact okL_map _ (fun _=>rfl) _|(simp only[VVlen]<;>omega)|fail) only[VV0,VV1,VV2,VV3,VV4,VV5,VV6,VV7,VV8,VV9,mkFnV,vargs,slotsL,opdsA,Nat.reduceEqDiff,Nat.reduceLT,Nat.reduceAdd,Nat.reduceBEq,Int.reduceAdd,Int.reduceSub,Int.reduceLT,Int.reduceLE,Int.reduceEq,Int.reduceNeg,↓reduceIte,reduceCtorEq,scL,scD,expand,List.replicate,h0])|apply gC_drawW|((first|apply gI_dec|apply gG_dec|apply gPG_dec|apply gI_var|apply gG_var|apply gPG_var)<;>intro _))
  all_goals try (exfalso;omega)
  refine callV_flat (hck _) ?_
  repeat' (first|(simp (disch:=first|omega|assumption|exact bd (by with_unfolding_all rfl)|exact Or.inl rfl|exact Or.inl trivial|exact okL_map _ (fun _=>rfl) _|(simp only[VVlen]<;>omega)|fail) only[VV0,VV1,VV2,VV3,VV4,VV5,VV6,VV7,VV8,VV9,mkFnV,vargs,slotsL,opdsA,Nat.reduceEqDiff,Nat.reduceLT,Nat.reduceAdd,Nat.reduceBEq,Int.reduceAdd,Int.reduceSub,Int.reduceLT,Int.reduceLE,Int.reduceEq,Int.reduceNeg,↓reduceIte,reduceCtorEq,scL,scD,expand,List.replicate])|apply gC_drawW|((first|apply gI_dec|apply gG_dec|apply gPG_dec|apply gI_var|apply gG_var|apply gPG_var)<;>intro _))
  exact weak_flat rfl hn rfl
 have e:textF l=(txt l,0):=if_pos h0
 rw[e]
 rw[h0] at hck
 obtain ⟨hl4,hcol⟩:=chk_facts h0
 repeat' (first|(simp (disch:=first|omega|assumption|exact bd (by with_unfolding_all rfl)|exact Or.inl rfl|exact Or.inl trivial|exact okL_map _ (fun _=>rfl) _|(simp only[VVlen]<;>omega)|fail) only[VV0,VV1,VV2,VV3,VV4,VV5,VV6,VV7,VV8,VV9,mkFnV,vargs,slotsL,opdsA,Nat.reduceEqDiff,Nat.reduceLT,Nat.reduceAdd,Nat.reduceBEq,Int.reduceAdd,Int.reduceSub,Int.reduceLT,Int.reduceLE,Int.reduceEq,Int.reduceNeg,↓reduceIte,reduceCtorEq,scL,scD,expand,List.replicate,c15])|apply gC_drawW|((first|apply gI_dec|apply gG_dec|apply gPG_dec|apply gI_var|apply gG_var|apply gPG_var)<;>intro _))
 refine callV_flat (hck _) ?_
 repeat' (first|(simp (disch:=first|omega|assumption|exact bd (by with_unfolding_all rfl)|exact Or.inl rfl|exact Or.inl trivial|exact okL_map _ (fun _=>rfl) _|(simp only[VVlen]<;>omega)|fail) only[VV0,VV1,VV2,VV3,VV4,VV5,VV6,VV7,VV8,VV9,mkFnV,vargs,slotsL,opdsA,Nat.reduceEqDiff,Nat.reduceLT,Nat.reduceAdd,Nat.reduceBEq,Int.reduceAdd,Int.reduceSub,Int.reduceLT,Int.reduceLE,Int.reduceEq,Int.reduceNeg,↓reduceIte,reduceCtorEq,scL,scD,expand,List.replicate])|apply gC_drawW|((first|apply gI_dec|apply gG_dec|apply gPG_dec|apply gI_var|apply gG_var|apply gPG_var)<;>intro _))
 refine g_while (fun m fr st=>∃ k:Nat,m=l.length - k∧k≤l.length∧fr= [(0,.sl s l.length (l.map iD)),(4,strV (txt (l.take k))),(5,.sc (.int .i64 k))]∧st=⟨[],0,0⟩) l.length ?_ ⟨_,_,.refl _ _,0,rfl,Nat.zero_le _,rfl,rfl⟩ ?_
 ·rw[hC,callP_rounds];unfold many;omega
 rintro m fr st ⟨k,rfl,hk,rfl,rfl⟩
 by_cases hlt:k<l.length
 ·obtain ⟨c0,c1⟩:=hcol k hlt
  have htk:=txt_take l k hlt
  have hdl:=dw_len c0 c1
  have hbn:=txt_len l hcol k hk
  have hdw:Lib.itoa (l[k]! +1)=dw l[k]! :=rfl
  have hd:=decimal_i w (n+1) (l[k]! +1) (by omega) (by omega)
  rw[hdw] at hd
  have hT0:k=0→txt (l.take k)= []:=fun e=>by subst e;rfl
  generalize hx:l[k]! =x at*
  generalize txt (l.take k)=T at*
  generalize dw x=D at*
  by_cases hz:k=0
  ·rw[if_pos hz,List.nil_append] at htk
   have e1:=cat_l T D (by omega)
   have hT:T++D=txt (l.take (k+1)):=by rw[htk,hT0 hz];rfl
   rw[hT] at e1
   subst hz
   repeat' (first|(simp (disch:=first|omega|assumption|exact bd (by with_unfolding_all rfl)|exact Or.inl rfl|exact Or.inl trivial|exact okL_map _ (fun _=>rfl) _|(simp only[VVlen]<;>omega)|fail) only[VV0,VV1,VV2,VV3,VV4,VV5,VV6,VV7,VV8,VV9,mkFnV,vargs,slotsL,opdsA,Nat.reduceEqDiff,Nat.reduceLT,Nat.reduceAdd,Nat.reduceBEq,Int.reduceAdd,Int.reduceSub,Int.reduceLT,Int.reduceLE,Int.reduceEq,Int.reduceNeg,↓reduceIte,reduceCtorEq,scL,scD,expand,List.replicate,c15l0,iD_dv,hx])|apply gC_drawW|((first|apply gI_dec|apply gG_dec|apply gPG_dec|apply gI_var|apply gG_var|apply gPG_var)<;>intro _))
   all_goals try (exfalso;omega)
   refine callV_flat (by rw[hC];exact hd.flat rfl rfl) ?_
   repeat' (first|(simp (disch:=first|omega|assumption|exact bd (by with_unfolding_all rfl)|exact Or.inl rfl|exact Or.inl trivial|exact okL_map _ (fun _=>rfl) _|(simp only[VVlen]<;>omega)|fail) only[VV0,VV1,VV2,VV3,VV4,VV5,VV6,VV7,VV8,VV9,mkFnV,vargs,slotsL,opdsA,Nat.reduceEqDiff,Nat.reduceLT,Nat.reduceAdd,Nat.reduceBEq,Int.reduceAdd,Int.reduceSub,Int.reduceLT,Int.reduceLE,Int.reduceEq,Int.reduceNeg,↓reduceIte,reduceCtorEq,scL,scD,expand,List.replicate,e1])|apply gC_drawW|((first|apply gI_dec|apply gG_dec|apply gPG_dec|apply gI_var|apply gG_var|apply gPG_var)<;>intro _))
   exact ⟨_,_,_,by omega,.refl _ _,1,rfl,hlt,rfl,rfl⟩
  ·rw[if_neg hz] at htk
   have e0:=cat_l T [32] (by simp;omega)
   have e1:=cat_l (T++ [32]) D (by simp;omega)
   rw[← htk] at e1
   repeat' (first|(simp (disch:=first|omega|assumption|exact bd (by with_unfolding_all rfl)|exact Or.inl rfl|exact Or.inl trivial|exact okL_map _ (fun _=>rfl) _|(simp only[VVlen]<;>omega)|fail) only[VV0,VV1,VV2,VV3,VV4,VV5,VV6,VV7,VV8,VV9,mkFnV,vargs,slotsL,opdsA,Nat.reduceEqDiff,Nat.reduceLT,Nat.reduceAdd,Nat.reduceBEq,Int.reduceAdd,Int.reduceSub,Int.reduceLT,Int.reduceLE,Int.reduceEq,Int.reduceNeg,↓reduceIte,reduceCtorEq,scL,scD,expand,List.replicate,c15l0,iD_dv,hx,e0])|apply gC_drawW|((first|apply gI_dec|apply gG_dec|apply gPG_dec|apply gI_var|apply gG_var|apply gPG_var)<;>intro _))
   all_goals try (exfalso;omega)
   refine callV_flat (by rw[hC];exact hd.flat rfl rfl) ?_
   repeat' (first|(simp (disch:=first|omega|assumption|exact bd (by with_unfolding_all rfl)|exact Or.inl rfl|exact Or.inl trivial|exact okL_map _ (fun _=>rfl) _|(simp only[VVlen]<;>omega)|fail) only[VV0,VV1,VV2,VV3,VV4,VV5,VV6,VV7,VV8,VV9,mkFnV,vargs,slotsL,opdsA,Nat.reduceEqDiff,Nat.reduceLT,Nat.reduceAdd,Nat.reduceBEq,Int.reduceAdd,Int.reduceSub,Int.reduceLT,Int.reduceLE,Int.reduceEq,Int.reduceNeg,↓reduceIte,reduceCtorEq,scL,scD,expand,List.replicate,e1])|apply gC_drawW|((first|apply gI_dec|apply gG_dec|apply gPG_dec|apply gI_var|apply gG_var|apply gPG_var)<;>intro _))
   exact ⟨_,_,_,by omega,.refl _ _,k+1,rfl,hlt,rfl,rfl⟩
 ·have:k=l.length:=by omega
  subst this
  rw[List.take_length]
  repeat' (first|(simp (disch:=first|omega|assumption|exact bd (by with_unfolding_all rfl)|exact Or.inl rfl|exact Or.inl trivial|exact okL_map _ (fun _=>rfl) _|(simp only[VVlen]<;>omega)|fail) only[VV0,VV1,VV2,VV3,VV4,VV5,VV6,VV7,VV8,VV9,mkFnV,vargs,slotsL,opdsA,Nat.reduceEqDiff,Nat.reduceLT,Nat.reduceAdd,Nat.reduceBEq,Int.reduceAdd,Int.reduceSub,Int.reduceLT,Int.reduceLE,Int.reduceEq,Int.reduceNeg,↓reduceIte,reduceCtorEq,scL,scD,expand,List.replicate,c15l0])|apply gC_drawW|((first|apply gI_dec|apply gG_dec|apply gPG_dec|apply gI_var|apply gG_var|apply gPG_var)<;>intro _))
  all_goals try (exfalso;omega)
  exact weak_flat rfl hn rfl
end
end Go.Proofs.YtkjkiodoighgnaaDoor
namespace Go.Proofs.YtkjkiodoighgnaaDoor
open Go Go.Itp
set_option maxRecDepth 100000
set_option maxHeartbeats 2000000
set_option linter.unusedSimpArgs false
set_option linter.unusedVariables false
section
variable (w:World) (n:Nat)
theorem rparse_p (s:List UInt8) (hl:s.length≤1000000):VSpec (EN w (n+1)) 16 [strV s] (finV (rparseF s)) ⟨[],0,0⟩:=by
 refine vspec_g rfl rfl (fun _ _=>rfl) (Nat.le_of_ble_eq_true rfl) (oldVals w) retOK_fin rfl fun C hC hn=>?_
 have hsz:=mk_size s
 by_cases hs:s= []
 ·subst hs
  repeat' (first|(simp (disch:=first|omega|assumption|exact bd (by with_unfolding_all rfl)|exact Or.inl rfl|exact Or.inl trivial|exact okL_map _ (fun _=>rfl) _|(simp only[VVlen]<;>omega)|fail) only[VV0,VV1,VV2,VV3,VV4,VV5,VV6,VV7,VV8,VV9,mkFnV,vargs,slotsL,opdsA,Nat.reduceEqDiff,Nat.reduceLT,Nat.reduceAdd,Nat.reduceBEq,Int.reduceAdd,Int.reduceSub,Int.reduceLT,Int.reduceLE,Int.reduceEq,Int.reduceNeg,↓reduceIte,reduceCtorEq,scL,scD,expand,List.replicate,c16])|apply gC_drawW|((first|apply gI_dec|apply gG_dec|apply gPG_dec|apply gI_var|apply gG_var|apply gPG_var)<;>intro _))
  exact weak_finNil hn rfl
 have hs':¬ (ByteArray.mk s.toArray=ByteArray.mk #[]):=fun h=>hs (by
  have:=congrArg (fun b:ByteArray=>b.data.toList) h
  simpa using this)
 have e:rparseF s=match rp [] 0 0 s with
  |none=>([],12)
  |some R=>(R,0):=if_neg hs
 rw[e]
 repeat' (first|(simp (disch:=first|omega|assumption|exact bd (by with_unfolding_all rfl)|exact Or.inl rfl|exact Or.inl trivial|exact okL_map _ (fun _=>rfl) _|(simp only[VVlen]<;>omega)|fail) only[VV0,VV1,VV2,VV3,VV4,VV5,VV6,VV7,VV8,VV9,mkFnV,vargs,slotsL,opdsA,Nat.reduceEqDiff,Nat.reduceLT,Nat.reduceAdd,Nat.reduceBEq,Int.reduceAdd,Int.reduceSub,Int.reduceLT,Int.reduceLE,Int.reduceEq,Int.reduceNeg,↓reduceIte,reduceCtorEq,scL,scD,expand,List.replicate,c16,hs'])|apply gC_drawW|((first|apply gI_dec|apply gG_dec|apply gPG_dec|apply gI_var|apply gG_var|apply gPG_var)<;>intro _))
 refine g_while (fun m fr st=>∃ (i:Nat) (out:List Int) (u d:Nat),m=s.length+2 - i∧i≤s.length+1∧u≤400∧d≤i∧out.length≤400∧((i≤s.length∧rp [] 0 0 s=rp out u d (s.drop i))∨(i=s.length+1∧rp [] 0 0 s=some out))∧
   fr= [(0,strV s),(4,.gr 2 0 out.length),(5,.sc (.int .i64 u)),(6,.sc (.int .i64 d)),(7,.sc (.int .i64 i))]∧st=⟨[(0,.gro 3 1 false (out.map iD))],1,0⟩) (s.length+2) ?_ ⟨_,_,weak_nilSlot 4 3 1 rfl,0,[],0,0,rfl,by omega,by omega,Nat.le_refl _,by simp,.inl ⟨Nat.zero_le _,rfl⟩,rfl,rfl⟩ ?_
 ·rw[hC,callP_rounds];unfold many;omega
 rintro m fr st ⟨i,out,u,d,rfl,hi,hu,hd,ho,hinv,rfl,rfl⟩
 have hml:(out.map iD).length=out.length*1:=by rw[List.length_map,Nat.mul_one]
 rcases hinv with ⟨hil,hrp⟩|⟨hil,hrp⟩
 case inr=>
  rw[hrp]
  repeat' (first|(simp (disch:=first|omega|assumption|exact bd (by with_unfolding_all rfl)|exact Or.inl rfl|exact Or.inl trivial|exact okL_map _ (fun _=>rfl) _|(simp only[VVlen]<;>omega)|fail) only[VV0,VV1,VV2,VV3,VV4,VV5,VV6,VV7,VV8,VV9,mkFnV,vargs,slotsL,opdsA,Nat.reduceEqDiff,Nat.reduceLT,Nat.reduceAdd,Nat.reduceBEq,Int.reduceAdd,Int.reduceSub,Int.reduceLT,Int.reduceLE,Int.reduceEq,Int.reduceNeg,↓reduceIte,reduceCtorEq,scL,scD,expand,List.replicate,c16l0])|apply gC_drawW|((first|apply gI_dec|apply gG_dec|apply gPG_dec|apply gI_var|apply gG_var|apply gPG_var)<;>intro _))
  all_goals try (exfalso;omega)
  exact weak_finG (C:=C) (t:=3) (o:=0) (z:=false) (l:=out) (x:= .int .i64 0) (st:=⟨[(0,.gro 3 1 false (out.map iD))],1,0⟩) rfl rfl hn rfl
 by_cases hend:i=s.length
 ·subst hend
  rw[List.drop_length,rp] at hrp
  by_cases hd0:d=0
  ·rw[if_pos (.inl hd0)] at hrp
   rw[hrp]
   repeat' (first|(simp (disch:=first|omega|assumption|exact bd (by with_unfolding_all rfl)|exact Or.inl rfl|exact Or.inl trivial|exact okL_map _ (fun _=>rfl) _|(simp only[VVlen]<;>omega)|fail) only[VV0,VV1,VV2,VV3,VV4,VV5,VV6,VV7,VV8,VV9,mkFnV,vargs,slotsL,opdsA,Nat.reduceEqDiff,Nat.reduceLT,Nat.reduceAdd,Nat.reduceBEq,Int.reduceAdd,Int.reduceSub,Int.reduceLT,Int.reduceLE,Int.reduceEq,Int.reduceNeg,↓reduceIte,reduceCtorEq,scL,scD,expand,List.replicate,c16l0])|apply gC_drawW|((first|apply gI_dec|apply gG_dec|apply gPG_dec|apply gI_var|apply gG_var|apply gPG_var)<;>intro _))
   all_goals try (exfalso;omega)
   exact weak_finNil hn rfl
  by_cases ho4:out.length=400
  ·rw[if_pos (.inr ho4)] at hrp
   rw[hrp]
   repeat' (first|(simp (disch:=first|omega|assumption|exact bd (by with_unfolding_all rfl)|exact Or.inl rfl|exact Or.inl trivial|exact okL_map _ (fun _=>rfl) _|(simp only[VVlen]<;>omega)|fail) only[VV0,VV1,VV2,VV3,VV4,VV5,VV6,VV7,VV8,VV9,mkFnV,vargs,slotsL,opdsA,Nat.reduceEqDiff,Nat.reduceLT,Nat.reduceAdd,Nat.reduceBEq,Int.reduceAdd,Int.reduceSub,Int.reduceLT,Int.reduceLE,Int.reduceEq,Int.reduceNeg,↓reduceIte,reduceCtorEq,scL,scD,expand,List.replicate,c16l0])|apply gC_drawW|((first|apply gI_dec|apply gG_dec|apply gPG_dec|apply gI_var|apply gG_var|apply gPG_var)<;>intro _))
   all_goals try (exfalso;omega)
   exact weak_finNil hn rfl
  rw[if_neg (fun h=>h.elim hd0 ho4)] at hrp
  repeat' (first|(simp (disch:=first|omega|assumption|exact bd (by with_unfolding_all rfl)|exact Or.inl rfl|exact Or.inl trivial|exact okL_map _ (fun _=>rfl) _|(simp only[VVlen]<;>omega)|fail) only[VV0,VV1,VV2,VV3,VV4,VV5,VV6,VV7,VV8,VV9,mkFnV,vargs,slotsL,opdsA,Nat.reduceEqDiff,Nat.reduceLT,Nat.reduceAdd,Nat.reduceBEq,Int.reduceAdd,Int.reduceSub,Int.reduceLT,Int.reduceLE,Int.reduceEq,Int.reduceNeg,↓reduceIte,reduceCtorEq,scL,scD,expand,List.replicate,c16l0])|apply gC_drawW|((first|apply gI_dec|apply gG_dec|apply gPG_dec|apply gI_var|apply gG_var|apply gPG_var)<;>intro _))
  all_goals try (exfalso;omega)
  refine ⟨_,_,_,by omega,weak_to [(2,0)] 1 hn rfl rfl rfl rfl,s.length+1,out++ [(u:Int) - 1],0,0,rfl,Nat.le_refl _,by omega,by omega,by simp;omega,.inr ⟨rfl,hrp⟩,?_,?_⟩
  ·simp[Itp.renF,vren,aget_cons]
  ·simp[renH,aget_cons,renO,iD]
 have hlt:i<s.length:=by omega
 have hb:=idxStr_l s .i64 (i:Int) (by omega) (by omega)
 rw[Int.toNat_natCast] at hb
 rw[List.drop_eq_getElem_cons hlt,← getElem!_pos s i hlt,rp] at hrp
 have hdr:s.drop (i+1)=s.drop (i+1):=rfl
 have hc256:(s[i]!).toNat<256:=(s[i]!).toNat_lt
 have hbad:badC d s[i]! ↔((s[i]!).toNat<48∨57<(s[i]!).toNat∨(d=0∧(s[i]!).toNat=48)):=Iff.rfl
 have hnx:nxt u s[i]! =10*u+((s[i]!).toNat - 48):=rfl
 have hsub:((s[i]!).toNat:Int) - 48=(((s[i]!).toNat - 48:Nat):Int)∨(s[i]!).toNat<48:=by omega
 generalize s[i]! =c at*
 generalize hy:c.toNat=y at*
 by_cases h32:y=32
 ·rw[if_pos h32] at hrp
  subst h32
  by_cases hd0:d=0
  ·rw[if_pos (.inl hd0)] at hrp
   rw[hrp]
   repeat' (first|(simp (disch:=first|omega|assumption|exact bd (by with_unfolding_all rfl)|exact Or.inl rfl|exact Or.inl trivial|exact okL_map _ (fun _=>rfl) _|(simp only[VVlen]<;>omega)|fail) only[VV0,VV1,VV2,VV3,VV4,VV5,VV6,VV7,VV8,VV9,mkFnV,vargs,slotsL,opdsA,Nat.reduceEqDiff,Nat.reduceLT,Nat.reduceAdd,Nat.reduceBEq,Int.reduceAdd,Int.reduceSub,Int.reduceLT,Int.reduceLE,Int.reduceEq,Int.reduceNeg,↓reduceIte,reduceCtorEq,scL,scD,expand,List.replicate,c16l0,hb])|apply gC_drawW|((first|apply gI_dec|apply gG_dec|apply gPG_dec|apply gI_var|apply gG_var|apply gPG_var)<;>intro _))
   all_goals try (exfalso;omega)
   exact weak_finNil hn rfl
  by_cases ho4:out.length=400
  ·rw[if_pos (.inr ho4)] at hrp
   rw[hrp]
   repeat' (first|(simp (disch:=first|omega|assumption|exact bd (by with_unfolding_all rfl)|exact Or.inl rfl|exact Or.inl trivial|exact okL_map _ (fun _=>rfl) _|(simp only[VVlen]<;>omega)|fail) only[VV0,VV1,VV2,VV3,VV4,VV5,VV6,VV7,VV8,VV9,mkFnV,vargs,slotsL,opdsA,Nat.reduceEqDiff,Nat.reduceLT,Nat.reduceAdd,Nat.reduceBEq,Int.reduceAdd,Int.reduceSub,Int.reduceLT,Int.reduceLE,Int.reduceEq,Int.reduceNeg,↓reduceIte,reduceCtorEq,scL,scD,expand,List.replicate,c16l0,hb])|apply gC_drawW|((first|apply gI_dec|apply gG_dec|apply gPG_dec|apply gI_var|apply gG_var|apply gPG_var)<;>intro _))
   all_goals try (exfalso;omega)
   exact weak_finNil hn rfl
  rw[if_neg (fun h=>h.elim hd0 ho4)] at hrp
  repeat' (first|(simp (disch:=first|omega|assumption|exact bd (by with_unfolding_all rfl)|exact Or.inl rfl|exact Or.inl trivial|exact okL_map _ (fun _=>rfl) _|(simp only[VVlen]<;>omega)|fail) only[VV0,VV1,VV2,VV3,VV4,VV5,VV6,VV7,VV8,VV9,mkFnV,vargs,slotsL,opdsA,Nat.reduceEqDiff,Nat.reduceLT,Nat.reduceAdd,Nat.reduceBEq,Int.reduceAdd,Int.reduceSub,Int.reduceLT,Int.reduceLE,Int.reduceEq,Int.reduceNeg,↓reduceIte,reduceCtorEq,scL,scD,expand,List.replicate,c16l0,hb])|apply gC_drawW|((first|apply gI_dec|apply gG_dec|apply gPG_dec|apply gI_var|apply gG_var|apply gPG_var)<;>intro _))
  all_goals try (exfalso;omega)
  refine ⟨_,_,_,by omega,weak_to [(2,0)] 1 hn rfl rfl rfl rfl,i+1,out++ [(u:Int) - 1],0,0,rfl,by omega,by omega,by omega,by simp;omega,.inl ⟨hlt,hrp⟩,?_,?_⟩
  ·simp[Itp.renF,vren,aget_cons]
  ·simp[renH,aget_cons,renO,iD]
 rw[if_neg h32] at hrp
 by_cases q1:y<48
 ·rw[if_pos (hbad.2 (.inl q1))] at hrp
  rw[hrp]
  repeat' (first|(simp (disch:=first|omega|assumption|exact bd (by with_unfolding_all rfl)|exact Or.inl rfl|exact Or.inl trivial|exact okL_map _ (fun _=>rfl) _|(simp only[VVlen]<;>omega)|fail) only[VV0,VV1,VV2,VV3,VV4,VV5,VV6,VV7,VV8,VV9,mkFnV,vargs,slotsL,opdsA,Nat.reduceEqDiff,Nat.reduceLT,Nat.reduceAdd,Nat.reduceBEq,Int.reduceAdd,Int.reduceSub,Int.reduceLT,Int.reduceLE,Int.reduceEq,Int.reduceNeg,↓reduceIte,reduceCtorEq,scL,scD,expand,List.replicate,c16l0,hb])|apply gC_drawW|((first|apply gI_dec|apply gG_dec|apply gPG_dec|apply gI_var|apply gG_var|apply gPG_var)<;>intro _))
  all_goals try (exfalso;omega)
  exact weak_finNil hn rfl
 by_cases q2:57<y
 ·rw[if_pos (hbad.2 (.inr (.inl q2)))] at hrp
  rw[hrp]
  repeat' (first|(simp (disch:=first|omega|assumption|exact bd (by with_unfolding_all rfl)|exact Or.inl rfl|exact Or.inl trivial|exact okL_map _ (fun _=>rfl) _|(simp only[VVlen]<;>omega)|fail) only[VV0,VV1,VV2,VV3,VV4,VV5,VV6,VV7,VV8,VV9,mkFnV,vargs,slotsL,opdsA,Nat.reduceEqDiff,Nat.reduceLT,Nat.reduceAdd,Nat.reduceBEq,Int.reduceAdd,Int.reduceSub,Int.reduceLT,Int.reduceLE,Int.reduceEq,Int.reduceNeg,↓reduceIte,reduceCtorEq,scL,scD,expand,List.replicate,c16l0,hb])|apply gC_drawW|((first|apply gI_dec|apply gG_dec|apply gPG_dec|apply gI_var|apply gG_var|apply gPG_var)<;>intro _))
  all_goals try (exfalso;omega)
  exact weak_finNil hn rfl
 by_cases q3:d=0∧y=48
 ·rw[if_pos (hbad.2 (.inr (.inr q3)))] at hrp
  obtain ⟨q4,q5⟩:=q3
  rw[hrp]
  repeat' (first|(simp (disch:=first|omega|assumption|exact bd (by with_unfolding_all rfl)|exact Or.inl rfl|exact Or.inl trivial|exact okL_map _ (fun _=>rfl) _|(simp only[VVlen]<;>omega)|fail) only[VV0,VV1,VV2,VV3,VV4,VV5,VV6,VV7,VV8,VV9,mkFnV,vargs,slotsL,opdsA,Nat.reduceEqDiff,Nat.reduceLT,Nat.reduceAdd,Nat.reduceBEq,Int.reduceAdd,Int.reduceSub,Int.reduceLT,Int.reduceLE,Int.reduceEq,Int.reduceNeg,↓reduceIte,reduceCtorEq,scL,scD,expand,List.replicate,c16l0,hb])|apply gC_drawW|((first|apply gI_dec|apply gG_dec|apply gPG_dec|apply gI_var|apply gG_var|apply gPG_var)<;>intro _))
  all_goals try (exfalso;omega)
  exact weak_finNil hn rfl
 rw[if_neg (fun h=>by have:=hbad.1 h;omega)] at hrp
 have e1:(y:Int) - 48=((y - 48:Nat):Int):=by omega
 have e2:=wrap_byte (y - 48) (by omega)
 by_cases q6:400<nxt u c
 ·rw[if_pos q6] at hrp
  rw[hrp]
  rw[hnx] at q6
  by_cases q7:d=0
  ·repeat' (first|(simp (disch:=first|omega|assumption|exact bd (by with_unfolding_all rfl)|exact Or.inl rfl|exact Or.inl trivial|exact okL_map _ (fun _=>rfl) _|(simp only[VVlen]<;>omega)|fail) only[VV0,VV1,VV2,VV3,VV4,VV5,VV6,VV7,VV8,VV9,mkFnV,vargs,slotsL,opdsA,Nat.reduceEqDiff,Nat.reduceLT,Nat.reduceAdd,Nat.reduceBEq,Int.reduceAdd,Int.reduceSub,Int.reduceLT,Int.reduceLE,Int.reduceEq,Int.reduceNeg,↓reduceIte,reduceCtorEq,scL,scD,expand,List.replicate,c16l0,hb,e1,e2])|apply gC_drawW|((first|apply gI_dec|apply gG_dec|apply gPG_dec|apply gI_var|apply gG_var|apply gPG_var)<;>intro _))
   all_goals try (exfalso;omega)
   exact weak_finNil hn rfl
  ·repeat' (first|(simp (disch:=first|omega|assumption|exact bd (by with_unfolding_all rfl)|exact Or.inl rfl|exact Or.inl trivial|exact okL_map _ (fun _=>rfl) _|(simp only[VVlen]<;>omega)|fail) only[VV0,VV1,VV2,VV3,VV4,VV5,VV6,VV7,VV8,VV9,mkFnV,vargs,slotsL,opdsA,Nat.reduceEqDiff,Nat.reduceLT,Nat.reduceAdd,Nat.reduceBEq,Int.reduceAdd,Int.reduceSub,Int.reduceLT,Int.reduceLE,Int.reduceEq,Int.reduceNeg,↓reduceIte,reduceCtorEq,scL,scD,expand,List.replicate,c16l0,hb,e1,e2])|apply gC_drawW|((first|apply gI_dec|apply gG_dec|apply gPG_dec|apply gI_var|apply gG_var|apply gPG_var)<;>intro _))
   all_goals try (exfalso;omega)
   exact weak_finNil hn rfl
 rw[if_neg q6] at hrp
 rw[hnx] at q6
 have e3:(10:Int)*(u:Int)+((y - 48:Nat):Int)=((nxt u c:Nat):Int):=by rw[hnx];omega
 have q8:nxt u c≤400:=by rw[hnx];omega
 by_cases q7:d=0
 ·repeat' (first|(simp (disch:=first|omega|assumption|exact bd (by with_unfolding_all rfl)|exact Or.inl rfl|exact Or.inl trivial|exact okL_map _ (fun _=>rfl) _|(simp only[VVlen]<;>omega)|fail) only[VV0,VV1,VV2,VV3,VV4,VV5,VV6,VV7,VV8,VV9,mkFnV,vargs,slotsL,opdsA,Nat.reduceEqDiff,Nat.reduceLT,Nat.reduceAdd,Nat.reduceBEq,Int.reduceAdd,Int.reduceSub,Int.reduceLT,Int.reduceLE,Int.reduceEq,Int.reduceNeg,↓reduceIte,reduceCtorEq,scL,scD,expand,List.replicate,c16l0,hb,e1,e2,e3])|apply gC_drawW|((first|apply gI_dec|apply gG_dec|apply gPG_dec|apply gI_var|apply gG_var|apply gPG_var)<;>intro _))
  all_goals try (exfalso;omega)
  refine ⟨_,_,_,by omega,.refl _ _,i+1,out,nxt u c,d+1,rfl,by omega,q8,by omega,ho,.inl ⟨hlt,hrp⟩,rfl,rfl⟩
 ·repeat' (first|(simp (disch:=first|omega|assumption|exact bd (by with_unfolding_all rfl)|exact Or.inl rfl|exact Or.inl trivial|exact okL_map _ (fun _=>rfl) _|(simp only[VVlen]<;>omega)|fail) only[VV0,VV1,VV2,VV3,VV4,VV5,VV6,VV7,VV8,VV9,mkFnV,vargs,slotsL,opdsA,Nat.reduceEqDiff,Nat.reduceLT,Nat.reduceAdd,Nat.reduceBEq,Int.reduceAdd,Int.reduceSub,Int.reduceLT,Int.reduceLE,Int.reduceEq,Int.reduceNeg,↓reduceIte,reduceCtorEq,scL,scD,expand,List.replicate,c16l0,hb,e1,e2,e3])|apply gC_drawW|((first|apply gI_dec|apply gG_dec|apply gPG_dec|apply gI_var|apply gG_var|apply gPG_var)<;>intro _))
  all_goals try (exfalso;omega)
  refine ⟨_,_,_,by omega,.refl _ _,i+1,out,nxt u c,d+1,rfl,by omega,q8,by omega,ho,.inl ⟨hlt,hrp⟩,rfl,rfl⟩
end
end Go.Proofs.YtkjkiodoighgnaaDoor
namespace Go.Proofs.YtkjkiodoighgnaaDoor
open Go Go.Itp
set_option maxRecDepth 100000
set_option maxHeartbeats 1000000
set_option linter.unusedSimpArgs false
set_option linter.unusedVariables false
theorem texts_g (w:World) (l:List Int) (s:List UInt8) (hl:l.length≤140737488351232) (hs:s.length≤9223372036854775807) (hes:(errO Tryd.prog w "strconv.ErrSyntax").isSome=true) (her:(errO Tryd.prog w "strconv.ErrRange").isSome=true) {C:Ctx} (hC:C.E=EN w 10) (h0:C.w0.nx=0):
  gC C c4.code [] (vargs 0 [slI l,strV s]) ⟨[],0,0⟩ (RetV C c4.res (.sc (.bool true)) ⟨[],0,0⟩):=by
 have hsz:=mk_size s
 have f2:∀ (H:VHp),frozA [] H=H:=frozA_none
 have gr:=great_p w 9 3 l hl
 by_cases hg:greatF l=true
 ·rw[hg] at gr
  repeat' (first|(simp (disch:=first|omega|assumption|exact bd (by with_unfolding_all rfl)|exact Or.inl rfl|exact Or.inl trivial|exact okL_map _ (fun _=>rfl) _|(simp only[VVlen]<;>omega)|fail) only[VV0,VV1,VV2,VV3,VV4,VV5,VV6,VV7,VV8,VV9,mkFnV,vargs,slotsL,opdsA,Nat.reduceEqDiff,Nat.reduceLT,Nat.reduceAdd,Nat.reduceBEq,Int.reduceAdd,Int.reduceSub,Int.reduceLT,Int.reduceLE,Int.reduceEq,Int.reduceNeg,↓reduceIte,reduceCtorEq,scL,scD,expand,List.replicate,c4])|apply gC_drawW|((first|apply gI_dec|apply gG_dec|apply gPG_dec|apply gI_var|apply gG_var|apply gPG_var)<;>intro _))
  refine callV_flat (by rw[hC];exact gr.flat rfl rfl) ?_
  repeat' (first|(simp (disch:=first|omega|assumption|exact bd (by with_unfolding_all rfl)|exact Or.inl rfl|exact Or.inl trivial|exact okL_map _ (fun _=>rfl) _|(simp only[VVlen]<;>omega)|fail) only[VV0,VV1,VV2,VV3,VV4,VV5,VV6,VV7,VV8,VV9,mkFnV,vargs,slotsL,opdsA,Nat.reduceEqDiff,Nat.reduceLT,Nat.reduceAdd,Nat.reduceBEq,Int.reduceAdd,Int.reduceSub,Int.reduceLT,Int.reduceLE,Int.reduceEq,Int.reduceNeg,↓reduceIte,reduceCtorEq,scL,scD,expand,List.replicate])|apply gC_drawW|((first|apply gI_dec|apply gG_dec|apply gPG_dec|apply gI_var|apply gG_var|apply gPG_var)<;>intro _))
  exact weak_flat rfl h0 rfl
 rw[Bool.not_eq_true] at hg
 rw[hg] at gr
 by_cases hlong:2000<s.length
 ·repeat' (first|(simp (disch:=first|omega|assumption|exact bd (by with_unfolding_all rfl)|exact Or.inl rfl|exact Or.inl trivial|exact okL_map _ (fun _=>rfl) _|(simp only[VVlen]<;>omega)|fail) only[VV0,VV1,VV2,VV3,VV4,VV5,VV6,VV7,VV8,VV9,mkFnV,vargs,slotsL,opdsA,Nat.reduceEqDiff,Nat.reduceLT,Nat.reduceAdd,Nat.reduceBEq,Int.reduceAdd,Int.reduceSub,Int.reduceLT,Int.reduceLE,Int.reduceEq,Int.reduceNeg,↓reduceIte,reduceCtorEq,scL,scD,expand,List.replicate,c4])|apply gC_drawW|((first|apply gI_dec|apply gG_dec|apply gPG_dec|apply gI_var|apply gG_var|apply gPG_var)<;>intro _))
  refine callV_flat (by rw[hC];exact gr.flat rfl rfl) ?_
  repeat' (first|(simp (disch:=first|omega|assumption|exact bd (by with_unfolding_all rfl)|exact Or.inl rfl|exact Or.inl trivial|exact okL_map _ (fun _=>rfl) _|(simp only[VVlen]<;>omega)|fail) only[VV0,VV1,VV2,VV3,VV4,VV5,VV6,VV7,VV8,VV9,mkFnV,vargs,slotsL,opdsA,Nat.reduceEqDiff,Nat.reduceLT,Nat.reduceAdd,Nat.reduceBEq,Int.reduceAdd,Int.reduceSub,Int.reduceLT,Int.reduceLE,Int.reduceEq,Int.reduceNeg,↓reduceIte,reduceCtorEq,scL,scD,expand,List.replicate])|apply gC_drawW|((first|apply gI_dec|apply gG_dec|apply gPG_dec|apply gI_var|apply gG_var|apply gPG_var)<;>intro _))
  all_goals try (exfalso;omega)
  exact weak_flat rfl h0 rfl
 have u1:=used_p w 4 3 (by decide) l hl
 have u2:=rused_p w 7 3 l hl
 have t1:=text_p w 5 3 (by decide) l hl
 have t2:=rtext_p w 7 3 l hl
 have p1:=parse_p w 2 s (by omega) hes her
 have p2:=rparse_p w 9 s (by omega)
 rw[parse_eq] at p2
 have k1:=pcheck_p w 8 3 l (by decide) hl
 have k2:=rcheck_p w 9 3 l hl
 have hpl:=pparse_len s
 generalize usedF l=U at*
 generalize textF l=T at*
 generalize pparseF s=R at*
 generalize chk l=K at*
 obtain ⟨m,e⟩:=R
 obtain ⟨T1,T2⟩:=T
 obtain ⟨U1,U2⟩:=U
 dsimp only at hpl u1 u2 t1 t2
 repeat' (first|(simp (disch:=first|omega|assumption|exact bd (by with_unfolding_all rfl)|exact Or.inl rfl|exact Or.inl trivial|exact okL_map _ (fun _=>rfl) _|(simp only[VVlen]<;>omega)|fail) only[VV0,VV1,VV2,VV3,VV4,VV5,VV6,VV7,VV8,VV9,mkFnV,vargs,slotsL,opdsA,Nat.reduceEqDiff,Nat.reduceLT,Nat.reduceAdd,Nat.reduceBEq,Int.reduceAdd,Int.reduceSub,Int.reduceLT,Int.reduceLE,Int.reduceEq,Int.reduceNeg,↓reduceIte,reduceCtorEq,scL,scD,expand,List.replicate,c4])|apply gC_drawW|((first|apply gI_dec|apply gG_dec|apply gPG_dec|apply gI_var|apply gG_var|apply gPG_var)<;>intro _))
 refine callV_flat (by rw[hC];exact gr.flat rfl rfl) ?_
 repeat' (first|(simp (disch:=first|omega|assumption|exact bd (by with_unfolding_all rfl)|exact Or.inl rfl|exact Or.inl trivial|exact okL_map _ (fun _=>rfl) _|(simp only[VVlen]<;>omega)|fail) only[VV0,VV1,VV2,VV3,VV4,VV5,VV6,VV7,VV8,VV9,mkFnV,vargs,slotsL,opdsA,Nat.reduceEqDiff,Nat.reduceLT,Nat.reduceAdd,Nat.reduceBEq,Int.reduceAdd,Int.reduceSub,Int.reduceLT,Int.reduceLE,Int.reduceEq,Int.reduceNeg,↓reduceIte,reduceCtorEq,scL,scD,expand,List.replicate])|apply gC_drawW|((first|apply gI_dec|apply gG_dec|apply gPG_dec|apply gI_var|apply gG_var|apply gPG_var)<;>intro _))
 all_goals try (exfalso;omega)
 refine callV_flat (by rw[hC];exact u1.flat rfl rfl) ?_
 repeat' (first|(simp (disch:=first|omega|assumption|exact bd (by with_unfolding_all rfl)|exact Or.inl rfl|exact Or.inl trivial|exact okL_map _ (fun _=>rfl) _|(simp only[VVlen]<;>omega)|fail) only[VV0,VV1,VV2,VV3,VV4,VV5,VV6,VV7,VV8,VV9,mkFnV,vargs,slotsL,opdsA,Nat.reduceEqDiff,Nat.reduceLT,Nat.reduceAdd,Nat.reduceBEq,Int.reduceAdd,Int.reduceSub,Int.reduceLT,Int.reduceLE,Int.reduceEq,Int.reduceNeg,↓reduceIte,reduceCtorEq,scL,scD,expand,List.replicate])|apply gC_drawW|((first|apply gI_dec|apply gG_dec|apply gPG_dec|apply gI_var|apply gG_var|apply gPG_var)<;>intro _))
 refine callV_flat (by rw[hC];exact u2.flat rfl rfl) ?_
 repeat' (first|(simp (disch:=first|omega|assumption|exact bd (by with_unfolding_all rfl)|exact Or.inl rfl|exact Or.inl trivial|exact okL_map _ (fun _=>rfl) _|(simp only[VVlen]<;>omega)|fail) only[VV0,VV1,VV2,VV3,VV4,VV5,VV6,VV7,VV8,VV9,mkFnV,vargs,slotsL,opdsA,Nat.reduceEqDiff,Nat.reduceLT,Nat.reduceAdd,Nat.reduceBEq,Int.reduceAdd,Int.reduceSub,Int.reduceLT,Int.reduceLE,Int.reduceEq,Int.reduceNeg,↓reduceIte,reduceCtorEq,scL,scD,expand,List.replicate])|apply gC_drawW|((first|apply gI_dec|apply gG_dec|apply gPG_dec|apply gI_var|apply gG_var|apply gPG_var)<;>intro _))
 refine callV_flat (by rw[hC];exact t1.flat rfl rfl) ?_
 repeat' (first|(simp (disch:=first|omega|assumption|exact bd (by with_unfolding_all rfl)|exact Or.inl rfl|exact Or.inl trivial|exact okL_map _ (fun _=>rfl) _|(simp only[VVlen]<;>omega)|fail) only[VV0,VV1,VV2,VV3,VV4,VV5,VV6,VV7,VV8,VV9,mkFnV,vargs,slotsL,opdsA,Nat.reduceEqDiff,Nat.reduceLT,Nat.reduceAdd,Nat.reduceBEq,Int.reduceAdd,Int.reduceSub,Int.reduceLT,Int.reduceLE,Int.reduceEq,Int.reduceNeg,↓reduceIte,reduceCtorEq,scL,scD,expand,List.replicate])|apply gC_drawW|((first|apply gI_dec|apply gG_dec|apply gPG_dec|apply gI_var|apply gG_var|apply gPG_var)<;>intro _))
 refine callV_flat (by rw[hC];exact t2.flat rfl rfl) ?_
 repeat' (first|(simp (disch:=first|omega|assumption|exact bd (by with_unfolding_all rfl)|exact Or.inl rfl|exact Or.inl trivial|exact okL_map _ (fun _=>rfl) _|(simp only[VVlen]<;>omega)|fail) only[VV0,VV1,VV2,VV3,VV4,VV5,VV6,VV7,VV8,VV9,mkFnV,vargs,slotsL,opdsA,Nat.reduceEqDiff,Nat.reduceLT,Nat.reduceAdd,Nat.reduceBEq,Int.reduceAdd,Int.reduceSub,Int.reduceLT,Int.reduceLE,Int.reduceEq,Int.reduceNeg,↓reduceIte,reduceCtorEq,scL,scD,expand,List.replicate])|apply gC_drawW|((first|apply gI_dec|apply gG_dec|apply gPG_dec|apply gI_var|apply gG_var|apply gPG_var)<;>intro _))
 refine callV_of (by rw[hC];exact p1) rfl rfl rfl ?_
 repeat' (first|(simp (disch:=first|omega|assumption|exact bd (by with_unfolding_all rfl)|exact Or.inl rfl|exact Or.inl trivial|exact okL_map _ (fun _=>rfl) _|(simp only[VVlen]<;>omega)|fail) only[VV0,VV1,VV2,VV3,VV4,VV5,VV6,VV7,VV8,VV9,mkFnV,vargs,slotsL,opdsA,Nat.reduceEqDiff,Nat.reduceLT,Nat.reduceAdd,Nat.reduceBEq,Int.reduceAdd,Int.reduceSub,Int.reduceLT,Int.reduceLE,Int.reduceEq,Int.reduceNeg,↓reduceIte,reduceCtorEq,scL,scD,expand,List.replicate,vsh,vshL,shH,shO,fzSL,fzS,f2])|apply gC_drawW|((first|apply gI_dec|apply gG_dec|apply gPG_dec|apply gI_var|apply gG_var|apply gPG_var)<;>intro _))
 refine callV_of (by rw[hC];exact p2) rfl rfl rfl ?_
 repeat' (first|(simp (disch:=first|omega|assumption|exact bd (by with_unfolding_all rfl)|exact Or.inl rfl|exact Or.inl trivial|exact okL_map _ (fun _=>rfl) _|(simp only[VVlen]<;>omega)|fail) only[VV0,VV1,VV2,VV3,VV4,VV5,VV6,VV7,VV8,VV9,mkFnV,vargs,slotsL,opdsA,Nat.reduceEqDiff,Nat.reduceLT,Nat.reduceAdd,Nat.reduceBEq,Int.reduceAdd,Int.reduceSub,Int.reduceLT,Int.reduceLE,Int.reduceEq,Int.reduceNeg,↓reduceIte,reduceCtorEq,scL,scD,expand,List.replicate,vsh,vshL,shH,shO,fzSL,fzS,f2])|apply gC_drawW|((first|apply gI_dec|apply gG_dec|apply gPG_dec|apply gI_var|apply gG_var|apply gPG_var)<;>intro _))
 refine callV_flat (by rw[hC];exact k1.flat rfl rfl) ?_
 repeat' (first|(simp (disch:=first|omega|assumption|exact bd (by with_unfolding_all rfl)|exact Or.inl rfl|exact Or.inl trivial|exact okL_map _ (fun _=>rfl) _|(simp only[VVlen]<;>omega)|fail) only[VV0,VV1,VV2,VV3,VV4,VV5,VV6,VV7,VV8,VV9,mkFnV,vargs,slotsL,opdsA,Nat.reduceEqDiff,Nat.reduceLT,Nat.reduceAdd,Nat.reduceBEq,Int.reduceAdd,Int.reduceSub,Int.reduceLT,Int.reduceLE,Int.reduceEq,Int.reduceNeg,↓reduceIte,reduceCtorEq,scL,scD,expand,List.replicate])|apply gC_drawW|((first|apply gI_dec|apply gG_dec|apply gPG_dec|apply gI_var|apply gG_var|apply gPG_var)<;>intro _))
 refine callV_flat (by rw[hC];exact k2.flat rfl rfl) ?_
 repeat' (first|(simp (disch:=first|omega|assumption|exact bd (by with_unfolding_all rfl)|exact Or.inl rfl|exact Or.inl trivial|exact okL_map _ (fun _=>rfl) _|(simp only[VVlen]<;>omega)|fail) only[VV0,VV1,VV2,VV3,VV4,VV5,VV6,VV7,VV8,VV9,mkFnV,vargs,slotsL,opdsA,Nat.reduceEqDiff,Nat.reduceLT,Nat.reduceAdd,Nat.reduceBEq,Int.reduceAdd,Int.reduceSub,Int.reduceLT,Int.reduceLE,Int.reduceEq,Int.reduceNeg,↓reduceIte,reduceCtorEq,scL,scD,expand,List.replicate])|apply gC_drawW|((first|apply gI_dec|apply gG_dec|apply gPG_dec|apply gI_var|apply gG_var|apply gPG_var)<;>intro _))
 refine callV_flat (by rw[hC];exact same_eq w 9 _ _ _ m (.sl _ 3 m) (.sl _ 3 m) (by omega)) ?_
 repeat' (first|(simp (disch:=first|omega|assumption|exact bd (by with_unfolding_all rfl)|exact Or.inl rfl|exact Or.inl trivial|exact okL_map _ (fun _=>rfl) _|(simp only[VVlen]<;>omega)|fail) only[VV0,VV1,VV2,VV3,VV4,VV5,VV6,VV7,VV8,VV9,mkFnV,vargs,slotsL,opdsA,Nat.reduceEqDiff,Nat.reduceLT,Nat.reduceAdd,Nat.reduceBEq,Int.reduceAdd,Int.reduceSub,Int.reduceLT,Int.reduceLE,Int.reduceEq,Int.reduceNeg,↓reduceIte,reduceCtorEq,scL,scD,expand,List.replicate])|apply gC_drawW|((first|apply gI_dec|apply gG_dec|apply gPG_dec|apply gI_var|apply gG_var|apply gPG_var)<;>intro _))
 exact weak_flat rfl h0 rfl
end Go.Proofs.YtkjkiodoighgnaaDoor
namespace Go.Proofs.YtkjkiodoighgnaaDoor
open Go Go.Itp
open Go.ChangeShapes Go.WideShapes Go.ChangeAt Go.RowKit
set_option linter.unusedVariables false
set_option maxRecDepth 100000
set_option maxHeartbeats 4000000
theorem reach_lt:reachBytes≤140737488351232:=by decide
theorem cellsI:Tryd.prog.cellsOf 3=1:=by kernel_rfl
theorem bytesI:Tryd.prog.bytesOf 3=8:=by kernel_rfl
def listed:List (String × DataW Unit):= [("math/bits.deBruijn32tab",Rows.laid_math_bits_deBruijn32tab),("math/bits.deBruijn64tab",Rows.laid_math_bits_deBruijn64tab),("internal/strconv.uint64pow10",Rows.laid_internal_strconv_uint64pow10),("unicode/utf8.acceptRanges",Rows.laid_unicode_utf8_acceptRanges),("strconv.ErrRange",Rows.laid_strconv_ErrRange),("strconv.ErrSyntax",Rows.laid_strconv_ErrSyntax),("unicode/utf8.first",Rows.laid_unicode_utf8_first)]
theorem listed_met (os:Os) (args:Array Value):laidMetH Tryd.prog listed ((World.laidAll Tryd.prog os listed).forCall (fun _ _=>0) ⟨#[],args,[]⟩).memory:=by
 rw[MakeChecks.laidMetH_plain _ _ _ (by kernel_rfl)]
 exact laidMet_laidAll _ (by kernel_rfl) (by kernel_rfl)
theorem listed_shaped (os:Os):(World.laidAll Tryd.prog os listed).Shaped Tryd.prog:=World.shaped_of_ZipB (by kernel_rfl) (by kernel_rfl)
theorem stand_ins {l:List TypeId} {t:TypeId} (hall:(l.all fun u=> !Tryd.prog.wantsStandIn u)=true) (h:t ∈ l):Tryd.prog.wantsStandIn t=false:=by
 have:=List.all_eq_true.1 hall t h
 simpa using this
theorem texts_lifted (os:Os) (started:os.Started) (H:Type) (enc:TypeId × Value→H):
  ReturnsInHanded {} Tryd.checked os 4 .any (fun w args=>(Rows.threadTextsSpec.pre enc Tryd.prog Tryd.f4 [] false w args∧laidMetH Tryd.prog listed w)∧sizedMet enc Tryd.prog Tryd.f4 (OpenSpec.ofChange Rows.threadTextsSpec) false w args)
   (Rows.threadTextsSpec.post enc Tryd.prog Tryd.f4 false true false false):=by
 refine returnsInHanded_of_change_and (C:=Tryd.checked) (X:=fun w _=>laidMetH Tryd.prog listed w) (fun _ _ _ hh h=>h.of_heap hh) own started (by kernel_rfl) Tryd.func4
  (ChangeSpec.witness_shaped (enc:=enc) (C:=Tryd.checked) (os:=os) (X:=fun w _=>laidMetH Tryd.prog listed w) false (World.laidAll Tryd.prog os listed) #[.slice none 0 0,.string .empty] 8 (World.laidAll_os _ _ _) (listed_shaped os) (by kernel_rfl) (by kernel_rfl) (by kernel_rfl) (listed_met os _)) ?_
 intro W base args ds gs before hval0 hW _ hsz0 hL _
 have hval:∀ (j:Nat) t v,Tryd.f4.params[j]? =some t→args[j]? =some v→Value.okWide Tryd.prog W .any base t v:=hval0
 have hW':=hW
 obtain ⟨p,q,hA0,hV,rfl,hfz,hnd⟩:=hW
 have hA:DataW.TrodAll enc Tryd.prog W 0 (fun _=>true) true Tryd.f4.params.toList args.toList ds p:=hA0
 have hsz:(DataW.weightsEach Tryd.prog (Tryd.f4.params.toList++Rows.threadTextsSpec.plain.varTypes Tryd.prog) (ds++gs)).all (· ≤reachBytes)=true:=hsz0
 rw[Tryd.params4] at hA hval hsz
 obtain ⟨v0,vs0,d0,ds0,p0,q0,hargs,rfl,rfl,h0,r0⟩:=trodAll_cons hA
 obtain ⟨v1,vs1,d1,ds1,p1,q1,rfl,rfl,rfl,h1,r1⟩:=trodAll_cons r0
 obtain ⟨rfl,rfl,rfl⟩:=trodAll_nil r1
 obtain rfl:args=#[v0,v1]:=by cases args;simp_all
 have hr:=reach_lt
 obtain ⟨l0,hl0,hl00,hli0,hlw0,hlr0⟩:=rd_ints Tryd.underlying22 Tryd.underlying3 cellsI (by rw[bytesI];decide) (hval 0 22 v0 rfl rfl) h0 (weights_at (j:=0) hsz rfl rfl)
 rw[bytesI] at hlr0
 have hv0:VRep (wOld (oldOf W)) (.sl 3 l0.length (l0.map iD)) v0:=vrep_old iD (hl0 []) hl00 (slice_v Tryd.underlying22 (hval 0 22 v0 rfl rfl) h0) (fun z _=>by simp only[iD,DRep,scOK,and_self])
 obtain ⟨s1,rfl,hs1⟩:=open_str Tryd.underlying9 (hval 1 9 v1 rfl rfl) h1 (weights_at (j:=1) hsz rfl rfl)
 obtain ⟨x1,rfl⟩:∃ x:List UInt8,s1=⟨x.toArray⟩:=⟨s1.data.toList,by simp⟩
 rw[mk_size] at hs1
 have hLm:laidMet Tryd.prog listed W:=by rw[← MakeChecks.laidMetH_plain _ _ _ (by kernel_rfl)];exact hL
 have htab:Tab W:=laid_tab hLm 2 rfl (g:=2) (t:=118) (e:=95) (k:= .u64) (m:=20) (by kernel_rfl) (by kernel_rfl) Tryd.underlying118 Tryd.underlying95 (by kernel_rfl) (by kernel_rfl) rfl
 have hesy:(errO Tryd.prog W "strconv.ErrSyntax").isSome=true:=laid_errO hLm 5 rfl (g:=0) (t:=53) (by kernel_rfl) (by kernel_rfl) Tryd.underlying53
 have herr:(errO Tryd.prog W "strconv.ErrRange").isSome=true:=laid_errO hLm 4 rfl (g:=1) (t:=53) (by kernel_rfl) (by kernel_rfl) Tryd.underlying53
 obtain ⟨s',hbody⟩:=law_v (old:=oldOf W) (rounds:=many) (fns:=fns) (prims:=PR W) (n:=10) (af:=c4) (xs:= [.sl 3 l0.length (l0.map iD),.sc (.string ⟨x1.toArray⟩)]) (xsI:= [v0,.string ⟨x1.toArray⟩]) (x:= .bool true) (Nat.le_of_ble_eq_true rfl)
  (by simp only[VRepL];exact ⟨_,_,rfl,hv0,_,_,rfl,.mksc rfl,rfl⟩) fun C hC hn=>texts_g W l0 x1 (by omega) (by omega) hesy herr hC hn
 have hfn:fns 4=some c4:=rfl
 have hrv:ids 0 (.bool true)= []:=rfl
 refine (law_of htab (f:=4) (af:=c4) hfn (xs:= [v0,.string ⟨x1.toArray⟩]) (by simp only[idsL_cons,hli0];rfl) _ hbody hrv).mono fun e W' ⟨he,hbe⟩=>?_
 exact ⟨_,he,law_post hW' rfl rfl (by kernel_rfl) (by kernel_rfl) Tryd.underlying4 hbe⟩
theorem texts_over:Rows.ThreadTextsSaid:=
 OpenClaim.holds_of_wide 4 Tryd.f4 rfl rfl rfl rfl rfl rfl rfl ⟨rfl,rfl,rfl,rfl,rfl⟩ rfl rfl rfl rfl rfl (by kernel_rfl) Tryd.func4 (by kernel_rfl)
  (of_decide_eq_true (by kernel_rfl)) (by unfold Func.isWrapper;first|(rw[if_pos (by decide+kernel)];kernel_rfl)|(rw[if_neg (by decide+kernel)];exact ⟨rfl,rfl⟩))
  (fun os started H enc _=>texts_lifted os started H enc)
theorem texts_holds:Rows.ThreadTextsCardSaid:=
 Claim7.holds_tied_plain_at .later [] [.data,.data,.data,.data,.sentinel,.sentinel,.pinned] true _ true
  texts_over (fun _ h=>by cases h) (by kernel_rfl) (fun _ h=>by cases h) threadTexts_row_tie rfl ⟨rfl,rfl⟩ (by kernel_rfl) rfl
  (fun f fn hf hfn=>by
   obtain rfl:f=4:=Option.some.inj ((show Tryd.prog.funcNamed "raddle/raddlelaw02.ThreadTexts"=some 4 by kernel_rfl).symm.trans hf)|>.symm
   obtain rfl:fn=Tryd.f4:=(Option.some.inj (Tryd.func4.symm.trans hfn)).symm
   exact ⟨by kernel_rfl,fun j t ht=>stand_ins (l:= [22,9]) (by kernel_rfl) (by rw[Tryd.params4] at ht;simpa using Array.mem_of_getElem? ht)⟩)
  (by kernel_rfl)
#print axioms texts_holds
end Go.Proofs.YtkjkiodoighgnaaDoor
