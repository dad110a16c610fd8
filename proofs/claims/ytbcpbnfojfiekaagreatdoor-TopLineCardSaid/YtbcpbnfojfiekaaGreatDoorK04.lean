/- A part of what the last text stands on. -/
import Derived.Shelf.Strings.Builder1
import Derived.Shelf.Small.Strs
import Derived.Shelf.Strings.BuilderF
import Derived.Shelf.Strings.BuilderK
import Derived.Shelf.Strconv.Atoi
import Derived.Shelf.Strconv.Itoa0
import Derived.Shelf.Strconv.Itoa1
import Derived.Shelf.LaysM
import Derived.Shelf.Strconv.Itoa2
import Derived.Shelf.Strconv.Itoa3
import Derived.Shelf.Strconv.AtoiErrFast
import Derived.Shelf.Strconv.ParseIntEmpty
import Derived.Shelf.Strconv.AtoiFail
import Derived.Shelf.Strconv.Clone
import Derived.Shelf.Strconv.SyntaxError
import Derived.Shelf.LaysC
import Derived.Shelf.Strconv.ToError
import Derived.Shelf.Strconv.Lower
import Derived.Shelf.Strconv.ParseUint10
import Derived.Shelf.Strconv.ParseUint10Empty
import Derived.Shelf.Strconv.ParseUint10Any
import Derived.Shelf.Strconv.ParseInt10
import Derived.Shelf.Strconv.AtoiLong
import Derived.Shelf.Strconv.AtoiInnerAll
import Derived.Shelf.Strconv.RangeError
import Derived.Shelf.Strconv.ToErrorRange
import Derived.Shelf.Strconv.AtoiAll
import Derived.Shelf.Strconv.ErrVarAll
import Derived.Shelf.Strings.Search1
import Derived.Shelf.Strings.Search2
import Derived.Shelf.Strings.Search3
import Derived.Shelf.Strings.Cut
import Derived.Shelf.Strings.Count
import Derived.Shelf.Strings.Shaped
import Derived.Shelf.Strings.Split
import Derived.Shelf.Unicode.DecodeSlow
import Derived.Test.YtbcpbnfojfiekaaGreatDoorProg
namespace Go.Proofs.YtbcpbnfojfiekaaGreatDoor
set_option linter.all false
theorem LzC{α:Type}{a:Option α}{x y:α}(h:a=some x)(e:x=y:=by kernel_rfl):a=some y:=h.trans (congrArg some e)
open Go.Shelf Go.Proofs.Tryz
def Zlr:Go.Shelf.Ren:=⟨fun|169=>17|n=>n,fun|70=>52|9=>9|0=>0|72=>55|37=>53|127=>96|3=>3|5=>5|n=>n,fun|n=>n⟩
theorem lays169:Go.Proofs.Lays.n169 prog Zlr:={
 mixed:=by kernel_rfl
 f169:=LzC func17
 t0:=underlying0
 a0:=isAgg0
 z0:=sizeOf0
 v0:=zeroValue0
 t3:=underlying3
 a3:=isAgg3
 z3:=sizeOf3
 v3:=zeroValue3
 t9:=underlying9
 a9:=isAgg9
 z9:=sizeOf9
 v9:=zeroValue9
 t37:=underlying53
 a37:=isAgg53
 z37:=sizeOf53
 v37:=zeroValue53
 t70:=underlying52
 a70:=isAgg52
 z70:=sizeOf52
 v70:=zeroValue52
 t72:=underlying55
 a72:=isAgg55
 z72:=sizeOf55
 v72:=zeroValue55
 t127:=underlying96
 a127:=isAgg96
 z127:=sizeOf96
 v127:=zeroValue96 }
theorem Zjx:Builder.Extra prog Zlr:={
 sizeBuilder:=by kernel_rfl
 liesBuilder:=by kernel_rfl
 t5:=underlying5
 a5:=isAgg5
 z5:=sizeOf5
 v5:=zeroValue5
 infoByte:=by kernel_rfl
 cellsByte:=by kernel_rfl
 sizeByte:=by kernel_rfl
 neB5:=by decide }
open Go.RowKit in
theorem Builder_String_any (B b:Nat) (l:List UInt8) (w:World) (h:Lib.IsBuilder 55 5 B b (Lib.byteCells l) w) (hBw:B≤w.heap.size) :
 Calls prog 17 #[.pointer (some ⟨b,0,none⟩)] w fun e w'=>e=.returned (.string ⟨l.toArray⟩)∧Below B w w':=Any.Builder_String_any lays169 Zjx B b l w h hBw
def Zr9:Go.Shelf.Ren:=⟨fun|137=>55|217=>83|266=>118|n=>n,fun|9=>9|5=>5|3=>3|n=>n,fun|n=>n⟩
theorem lays137:Go.Proofs.Lays.n137 prog Zr9:={
 mixed:=by kernel_rfl
 f137:=LzC func55
 f217:=LzC func83
 f266:=LzC func118
 t3:=underlying3
 a3:=isAgg3
 z3:=sizeOf3
 v3:=zeroValue3
 t5:=underlying5
 a5:=isAgg5
 z5:=sizeOf5
 v5:=zeroValue5
 t9:=underlying9
 a9:=isAgg9
 z9:=sizeOf9
 v9:=zeroValue9 }
open Go.RowKit in
theorem strings_IndexByte (s:ByteArray) (c:Int) (w:World) :
 Calls prog 55 #[.string s,.int .u8 c] w fun e w'=>e=.returned (.int .i64 (Lib.indexByte s.data.toList c.toNat.toUInt8))∧w'=w:=Any.strings_IndexByte lays137 s c w
def Zqj:Go.Shelf.Ren:=⟨fun|171=>15|243=>29|246=>51|283=>79|284=>80|285=>81|286=>82|129=>114|317=>113|318=>115|319=>116|320=>117|337=>171|338=>172|n=>n,fun|3=>3|9=>9|2=>2|4=>4|171=>159|0=>0|53=>160|37=>53|5=>5|173=>163|212=>190|51=>191|20=>20|213=>192|46=>95|232=>282|233=>283|n=>n,fun|17=>2|18=>5|19=>6|n=>n⟩
theorem laysM171:Go.Proofs.LaysM.n171 prog Zqj:={
 mixed:=by kernel_rfl
 f129:=LzC func114
 f171:=LzC func15
 f243:=LzC func29
 f246:=LzC func51
 f283:=LzC func79
 f284:=LzC func80
 f285:=LzC func81
 f286:=LzC func82
 f317:=LzC func113
 f318:=LzC func115
 f319:=LzC func116
 f320:=LzC func117
 f337:=LzC func171
 f338:=LzC func172
 t0:=underlying0
 a0:=isAgg0
 z0:=sizeOf0
 v0:=zeroValue0
 t2:=underlying2
 a2:=isAgg2
 z2:=sizeOf2
 v2:=zeroValue2
 t3:=underlying3
 a3:=isAgg3
 z3:=sizeOf3
 v3:=zeroValue3
 t4:=underlying4
 a4:=isAgg4
 z4:=sizeOf4
 v4:=zeroValue4
 t5:=underlying5
 a5:=isAgg5
 z5:=sizeOf5
 v5:=zeroValue5
 t9:=underlying9
 a9:=isAgg9
 z9:=sizeOf9
 v9:=zeroValue9
 t20:=underlying20
 a20:=isAgg20
 z20:=sizeOf20
 v20:=zeroValue20
 t37:=underlying53
 a37:=isAgg53
 z37:=sizeOf53
 v37:=zeroValue53
 t46:=underlying95
 a46:=isAgg95
 z46:=sizeOf95
 v46:=zeroValue95
 t51:=underlying191
 a51:=isAgg191
 z51:=sizeOf191
 v51:=zeroValue191
 t53:=underlying160
 a53:=isAgg160
 z53:=sizeOf160
 v53:=zeroValue160
 t171:=underlying159
 a171:=isAgg159
 z171:=sizeOf159
 v171:=zeroValue159
 t173:=underlying163
 a173:=isAgg163
 z173:=sizeOf163
 v173:=zeroValue163
 t212:=underlying190
 a212:=isAgg190
 z212:=sizeOf190
 v212:=zeroValue190
 t213:=underlying192
 a213:=isAgg192
 z213:=sizeOf192
 t232:=underlying282
 a232:=isAgg282
 z232:=sizeOf282
 v232:=zeroValue282
 t233:=underlying283
 a233:=isAgg283
 z233:=sizeOf283
 v233:=zeroValue283
 g17:=by kernel_rfl
 g18:=by kernel_rfl
 g19:=by kernel_rfl
 i0:=by kernel_rfl
 i2:=by kernel_rfl
 i3:=by kernel_rfl
 i4:=by kernel_rfl
 i5:=by kernel_rfl
 i9:=by kernel_rfl
 i20:=by kernel_rfl
 i37:=by kernel_rfl
 i46:=by kernel_rfl
 i51:=by kernel_rfl
 i53:=by kernel_rfl
 i171:=by kernel_rfl
 i173:=by kernel_rfl
 i212:=by kernel_rfl
 i232:=by kernel_rfl
 i233:=by kernel_rfl
 m17:=by kernel_rfl
 m18:=by kernel_rfl
 m19:=by kernel_rfl }
open Go.RowKit Go.Sort Go.Lib in
theorem strconv_Itoa (n : Int) (h0 : -9223372036854775808 ≤ n) (h1 : n ≤ 9223372036854775807) (w : World) (htab : Lib.TabIs prog w "internal/strconv.uint64pow10" .u64 Lib.pow10Tab) :
 Calls prog 15 #[.int .i64 n] w fun e w'=>e=.returned (.string ⟨(Lib.itoa n).toArray⟩)∧∃k os,w'=grow (w.drewN k) os:=Any.strconv_Itoa laysM171 n h0 h1 w htab
def Zqk:Go.Shelf.Ren:=⟨fun|172=>54|244=>90|245=>91|247=>123|279=>124|280=>125|281=>126|282=>127|287=>174|316=>175|171=>15|205=>176|321=>210|322=>211|243=>29|246=>51|283=>79|284=>80|285=>81|286=>82|129=>114|317=>113|318=>115|319=>116|320=>117|337=>171|338=>172|n=>n,fun|9=>9|3=>3|75=>60|76=>61|4=>4|5=>5|167=>199|37=>53|0=>0|85=>200|2=>2|168=>202|53=>160|175=>253|46=>95|210=>256|127=>96|145=>291|143=>289|21=>21|171=>159|173=>163|212=>190|51=>191|20=>20|213=>192|232=>282|233=>283|80=>66|n=>n,fun|15=>3|16=>4|17=>2|18=>5|19=>6|n=>n⟩
theorem Zou:Go.Proofs.LaysC.n172 prog Zqk:={
 mixed:=by kernel_rfl
 f129:=LzC func114
 f171:=LzC func15
 f172:=LzC func54
 f205:=LzC func176
 f243:=LzC func29
 f244:=LzC func90
 f245:=LzC func91
 f246:=LzC func51
 f247:=LzC func123
 f279:=LzC func124
 f280:=LzC func125
 f281:=LzC func126
 f282:=LzC func127
 f283:=LzC func79
 f284:=LzC func80
 f285:=LzC func81
 f286:=LzC func82
 f287:=LzC func174
 f316:=LzC func175
 f317:=LzC func113
 f318:=LzC func115
 f319:=LzC func116
 f320:=LzC func117
 f321:=LzC func210
 f322:=LzC func211
 f337:=LzC func171
 f338:=LzC func172
 t0:=underlying0
 a0:=isAgg0
 z0:=sizeOf0
 v0:=zeroValue0
 t2:=underlying2
 a2:=isAgg2
 z2:=sizeOf2
 v2:=zeroValue2
 t3:=underlying3
 a3:=isAgg3
 z3:=sizeOf3
 v3:=zeroValue3
 t4:=underlying4
 a4:=isAgg4
 z4:=sizeOf4
 v4:=zeroValue4
 t5:=underlying5
 a5:=isAgg5
 z5:=sizeOf5
 v5:=zeroValue5
 t9:=underlying9
 a9:=isAgg9
 z9:=sizeOf9
 v9:=zeroValue9
 t20:=underlying20
 a20:=isAgg20
 z20:=sizeOf20
 v20:=zeroValue20
 t21:=underlying21
 a21:=isAgg21
 z21:=sizeOf21
 v21:=zeroValue21
 t37:=underlying53
 a37:=isAgg53
 z37:=sizeOf53
 v37:=zeroValue53
 t46:=underlying95
 a46:=isAgg95
 z46:=sizeOf95
 v46:=zeroValue95
 t51:=underlying191
 a51:=isAgg191
 z51:=sizeOf191
 v51:=zeroValue191
 t53:=underlying160
 a53:=isAgg160
 z53:=sizeOf160
 v53:=zeroValue160
 t75:=underlying60
 a75:=isAgg60
 z75:=sizeOf60
 v75:=zeroValue60
 t76:=underlying61
 a76:=isAgg61
 z76:=sizeOf61
 v76:=zeroValue61
 t85:=underlying200
 a85:=isAgg200
 z85:=sizeOf200
 v85:=zeroValue200
 t127:=underlying96
 a127:=isAgg96
 z127:=sizeOf96
 v127:=zeroValue96
 t143:=underlying289
 a143:=isAgg289
 z143:=sizeOf289
 v143:=zeroValue289
 t145:=underlying291
 a145:=isAgg291
 z145:=sizeOf291
 v145:=zeroValue291
 t167:=underlying199
 a167:=isAgg199
 z167:=sizeOf199
 v167:=zeroValue199
 t168:=underlying202
 a168:=isAgg202
 z168:=sizeOf202
 v168:=zeroValue202
 t171:=underlying159
 a171:=isAgg159
 z171:=sizeOf159
 v171:=zeroValue159
 t173:=underlying163
 a173:=isAgg163
 z173:=sizeOf163
 v173:=zeroValue163
 t175:=underlying253
 a175:=isAgg253
 z175:=sizeOf253
 v175:=zeroValue253
 t210:=underlying256
 a210:=isAgg256
 z210:=sizeOf256
 v210:=zeroValue256
 t212:=underlying190
 a212:=isAgg190
 z212:=sizeOf190
 v212:=zeroValue190
 t213:=underlying192
 a213:=isAgg192
 z213:=sizeOf192
 t232:=underlying282
 a232:=isAgg282
 z232:=sizeOf282
 v232:=zeroValue282
 t233:=underlying283
 a233:=isAgg283
 z233:=sizeOf283
 v233:=zeroValue283
 g15:=by kernel_rfl
 g16:=by kernel_rfl
 g17:=by kernel_rfl
 g18:=by kernel_rfl
 g19:=by kernel_rfl
 t80:=underlying66
 a80:=isAgg66
 z80:=sizeOf66
 v80:=zeroValue66
 i0:=by kernel_rfl
 i2:=by kernel_rfl
 i3:=by kernel_rfl
 i4:=by kernel_rfl
 i5:=by kernel_rfl
 i9:=by kernel_rfl
 i20:=by kernel_rfl
 i21:=by kernel_rfl
 i37:=by kernel_rfl
 i46:=by kernel_rfl
 i51:=by kernel_rfl
 i53:=by kernel_rfl
 i75:=by kernel_rfl
 i76:=by kernel_rfl
 i80:=by kernel_rfl
 i85:=by kernel_rfl
 i127:=by kernel_rfl
 i143:=by kernel_rfl
 i145:=by kernel_rfl
 i167:=by kernel_rfl
 i168:=by kernel_rfl
 i171:=by kernel_rfl
 i173:=by kernel_rfl
 i175:=by kernel_rfl
 i210:=by kernel_rfl
 i212:=by kernel_rfl
 i232:=by kernel_rfl
 i233:=by kernel_rfl
 m15:=by kernel_rfl
 m16:=by kernel_rfl
 m17:=by kernel_rfl
 m18:=by kernel_rfl
 m19:=by kernel_rfl
 c0:=by kernel_rfl
 c2:=by kernel_rfl
 c3:=by kernel_rfl
 c4:=by kernel_rfl
 c5:=by kernel_rfl
 c9:=by kernel_rfl
 c20:=by kernel_rfl
 c21:=by kernel_rfl
 c37:=by kernel_rfl
 c46:=by kernel_rfl
 c51:=by kernel_rfl
 c53:=by kernel_rfl
 c75:=by kernel_rfl
 c76:=by kernel_rfl
 c80:=by kernel_rfl
 c85:=by kernel_rfl
 c127:=by kernel_rfl
 c143:=by kernel_rfl
 c145:=by kernel_rfl
 c167:=by kernel_rfl
 c168:=by kernel_rfl
 c171:=by kernel_rfl
 c173:=by kernel_rfl
 c175:=by kernel_rfl
 c210:=by kernel_rfl
 c212:=by kernel_rfl
 c213:=by kernel_rfl
 c232:=by kernel_rfl
 c233:=by kernel_rfl }
open Go.RowKit in
theorem strconv_Atoi_ok (s:ByteArray) (hmax:s.size≤9223372036854775806) (v:Int) (h:Lib.atoiAll s.data.toList=.ok v) (w:World) :
 Calls prog 54 #[.string s] w fun e w'=>e=.returned (.tuple #[.int .i64 v,.nilIface])∧(w'=w∨∃t,w'=Lib.bytesWorld w 5 t):=Any.strconv_Atoi_ok Zou s hmax v h w
open Go.RowKit in
theorem Zjb (s:ByteArray) (hlim:s.size≤281474976710656) (hn:∀v,Lib.atoiAll s.data.toList≠.ok v) (hr:Lib.atoiAll s.data.toList≠.range) (ev:Value) (w:World) (hv:w.cell? ⟨3,0,none⟩=some ev) (hev:ev=.nilIface∨∃te pe,ev=.iface te pe) :
 Calls prog 54 #[.string s] w fun e w'=>∃N,e=.returned (.tuple #[.int .i64 (0),.iface 202 (.pointer (some ⟨N,0,none⟩))])∧w.heap.size≤N∧w'.heap[N]?=some (.cells #[.string ⟨#[65,116,111,105]⟩,.string s,ev] 256 (0,0))∧Below w.heap.size w w':=by
 cases h:Lib.atoiAll s.data.toList with
 |ok v=>exact absurd h (hn v)
 |range=>exact absurd h hr
 |_=>exact Any.strconv_Atoi_syntax Zou s hlim h ev w hv hev
open Go.RowKit in
theorem strconv_Atoi_range (s:ByteArray) (hlim:s.size≤281474976710656) (h:Lib.atoiAll s.data.toList=.range) (ev:Value) (w:World) (hv:w.cell? ⟨4,0,none⟩=some ev) (hev:ev=.nilIface∨∃te pe,ev=.iface te pe) :
 Calls prog 54 #[.string s] w fun e w'=>∃N,e=.returned (.tuple #[.int .i64 (Lib.atoiSat s.data.toList),.iface 202 (.pointer (some ⟨N,0,none⟩))])∧w.heap.size≤N∧w'.heap[N]?=some (.cells #[.string ⟨#[65,116,111,105]⟩,.string s,ev] 256 (0,0))∧Below w.heap.size w w':=Any.strconv_Atoi_range Zou s hlim h ev w hv hev
def Zr8:Go.Shelf.Ren:=⟨fun|145=>18|220=>31|219=>52|217=>83|225=>84|224=>85|267=>86|266=>118|314=>119|n=>n,fun|9=>9|4=>4|59=>67|3=>3|5=>5|46=>95|146=>194|51=>191|n=>n,fun|1=>1|n=>n⟩
theorem lays145:Go.Proofs.Lays.n145 prog Zr8:={
 mixed:=by kernel_rfl
 f145:=LzC func18
 f217:=LzC func83
 f219:=LzC func52
 f220:=LzC func31
 f224:=LzC func85
 f225:=LzC func84
 f266:=LzC func118
 f267:=LzC func86
 f314:=LzC func119
 t3:=underlying3
 a3:=isAgg3
 z3:=sizeOf3
 v3:=zeroValue3
 t4:=underlying4
 a4:=isAgg4
 z4:=sizeOf4
 v4:=zeroValue4
 t5:=underlying5
 a5:=isAgg5
 z5:=sizeOf5
 v5:=zeroValue5
 t9:=underlying9
 a9:=isAgg9
 z9:=sizeOf9
 v9:=zeroValue9
 t46:=underlying95
 a46:=isAgg95
 z46:=sizeOf95
 v46:=zeroValue95
 t51:=underlying191
 a51:=isAgg191
 z51:=sizeOf191
 v51:=zeroValue191
 t59:=underlying67
 a59:=isAgg67
 z59:=sizeOf67
 v59:=zeroValue67
 t146:=underlying194
 a146:=isAgg194
 z146:=sizeOf194
 v146:=zeroValue194
 g1:=by kernel_rfl }
open Go.RowKit Go.Lib in
theorem strings_Cut (s sep:ByteArray) (m:Int) (w:World) (hs:s.size<4294967281) (hm:w.cell? ⟨1,0,none⟩=some (.int .i64 m)) :
 Calls prog 18 #[.string s,.string sep] w fun e w'=>e=.returned (.tuple #[.string ⟨(Lib.cut s.data.toList sep.data.toList).1.toArray⟩,.string ⟨(Lib.cut s.data.toList sep.data.toList).2.1.toArray⟩,.bool (Lib.cut s.data.toList sep.data.toList).2.2])∧∃n,w'=w.drewN n:=Any.strings_Cut lays145 s sep m w hs hm
def Zr7:Go.Shelf.Ren:=⟨fun|146=>32|221=>53|268=>87|138=>88|143=>89|195=>120|197=>121|218=>122|219=>52|260=>173|217=>83|225=>84|224=>85|267=>86|266=>118|314=>119|n=>n,fun|9=>9|31=>42|3=>3|4=>4|0=>0|105=>197|21=>21|5=>5|46=>95|119=>284|139=>287|138=>286|146=>194|51=>191|n=>n,fun|1=>1|3=>7|4=>8|n=>n⟩
theorem lays146:Go.Proofs.Lays.n146 prog Zr7:={
 mixed:=by kernel_rfl
 f138:=LzC func88
 f143:=LzC func89
 f146:=LzC func32
 f195:=LzC func120
 f197:=LzC func121
 f217:=LzC func83
 f218:=LzC func122
 f219:=LzC func52
 f221:=LzC func53
 f224:=LzC func85
 f225:=LzC func84
 f260:=LzC func173
 f266:=LzC func118
 f267:=LzC func86
 f268:=LzC func87
 f314:=LzC func119
 t0:=underlying0
 a0:=isAgg0
 z0:=sizeOf0
 v0:=zeroValue0
 t3:=underlying3
 a3:=isAgg3
 z3:=sizeOf3
 v3:=zeroValue3
 t4:=underlying4
 a4:=isAgg4
 z4:=sizeOf4
 v4:=zeroValue4
 t5:=underlying5
 a5:=isAgg5
 z5:=sizeOf5
 v5:=zeroValue5
 t9:=underlying9
 a9:=isAgg9
 z9:=sizeOf9
 v9:=zeroValue9
 t21:=underlying21
 a21:=isAgg21
 z21:=sizeOf21
 v21:=zeroValue21
 t31:=underlying42
 a31:=isAgg42
 z31:=sizeOf42
 v31:=zeroValue42
 t46:=underlying95
 a46:=isAgg95
 z46:=sizeOf95
 v46:=zeroValue95
 t51:=underlying191
 a51:=isAgg191
 z51:=sizeOf191
 v51:=zeroValue191
 t105:=underlying197
 a105:=isAgg197
 z105:=sizeOf197
 v105:=zeroValue197
 t119:=underlying284
 a119:=isAgg284
 z119:=sizeOf284
 t138:=underlying286
 a138:=isAgg286
 z138:=sizeOf286
 v138:=zeroValue286
 t139:=underlying287
 a139:=isAgg287
 z139:=sizeOf287
 v139:=zeroValue287
 t146:=underlying194
 a146:=isAgg194
 z146:=sizeOf194
 v146:=zeroValue194
 g1:=by kernel_rfl
 g3:=by kernel_rfl
 g4:=by kernel_rfl }
open Go.RowKit Go.Lib in
theorem strings_Split (s sep:ByteArray) (m:Int) (w:World) (hs:s.size<4294967281) (hm:w.cell? ⟨1,0,none⟩=some (.int .i64 m)) (h1:1≤sep.size) :
 Calls prog 32 #[.string s,.string sep] w fun e w' =>
 e=.returned (.slice (some ⟨w.heap.size,0,none⟩) (Lib.countB s sep+1) (Lib.countB s sep+1))∧w'=w.alloc (.cells ((Lib.splitB sep 0 (Lib.countB s sep) s).map Value.string).toArray 9):=Any.strings_Split lays146 (by kernel_rfl) s sep m w hs hm h1
end Go.Proofs.YtbcpbnfojfiekaaGreatDoor
