/- A part of what the last text stands on. -/
import Derived.Shelf.Small.Bits
import Derived.Shelf.Strconv.Itoa0
import Derived.Shelf.Sort.Plain
import Derived.Shelf.Slices.Turned
import Derived.Ground.Names2Prog
import Derived.Shelf.Slices.SearchI
import Derived.Shelf.Slices.In.SortNone
import Derived.Test.YtbcpbnfojfiekaaGreatDoorProg
namespace Go.Proofs.YtbcpbnfojfiekaaGreatDoor
set_option linter.all false
theorem LzB{α:Type}{a:Option α}{x y:α}(h:a=some x)(e:x=y:=by kernel_rfl):a=some y:=h.trans (congrArg some e)
open Go.Shelf Go.Proofs.Tryz
def Zr6:Go.Shelf.Ren:=⟨fun|189=>187|125=>195|257=>214|128=>225|129=>114|294=>233|295=>234|296=>235|297=>236|298=>237|299=>238|216=>239|300=>240|301=>241|328=>248|329=>243|330=>244|331=>249|332=>250|215=>251|343=>253|n=>n,fun|28=>77|3=>3|46=>95|0=>0|51=>191|53=>160|4=>4|183=>297|182=>296|131=>99|5=>5|9=>9|218=>313|222=>317|228=>329|229=>330|n=>n,fun|n=>n⟩
theorem Zxm:Go.Proofs.Lays.n189 prog Zr6:={
 mixed:=by kernel_rfl
 f125:=LzB func195
 f128:=LzB func225
 f129:=LzB func114
 f189:=LzB func187
 f215:=LzB func251
 f216:=LzB func239
 f257:=LzB func214
 f294:=LzB func233
 f295:=LzB func234
 f296:=LzB func235
 f297:=LzB func236
 f298:=LzB func237
 f299:=LzB func238
 f300:=LzB func240
 f301:=LzB func241
 f328:=LzB func248
 f329:=LzB func243
 f330:=LzB func244
 f331:=LzB func249
 f332:=LzB func250
 f343:=LzB func253
 t0:=underlying0
 a0:=isAgg0
 z0:=sizeOf0
 v0:=zeroValue0
 t3:=underlying3
 a3:=isAgg3
 z3:=sizeOf3
 v3:=zeroValue3
 t4:=underlying4
 a4:=isAgg4
 z4:=sizeOf4
 v4:=zeroValue4
 t5:=underlying5
 a5:=isAgg5
 z5:=sizeOf5
 v5:=zeroValue5
 t9:=underlying9
 a9:=isAgg9
 z9:=sizeOf9
 v9:=zeroValue9
 t28:=underlying77
 a28:=isAgg77
 z28:=sizeOf77
 v28:=zeroValue77
 t46:=underlying95
 a46:=isAgg95
 z46:=sizeOf95
 v46:=zeroValue95
 t51:=underlying191
 a51:=isAgg191
 z51:=sizeOf191
 v51:=zeroValue191
 t53:=underlying160
 a53:=isAgg160
 z53:=sizeOf160
 v53:=zeroValue160
 t131:=underlying99
 a131:=isAgg99
 z131:=sizeOf99
 v131:=zeroValue99
 t182:=underlying296
 a182:=isAgg296
 z182:=sizeOf296
 v182:=zeroValue296
 t183:=underlying297
 a183:=isAgg297
 z183:=sizeOf297
 v183:=zeroValue297
 t218:=underlying313
 a218:=isAgg313
 z218:=sizeOf313
 v218:=zeroValue313
 t222:=underlying317
 a222:=isAgg317
 z222:=sizeOf317
 v222:=zeroValue317
 t228:=underlying329
 a228:=isAgg329
 z228:=sizeOf329
 v228:=zeroValue329
 t229:=underlying330
 a229:=isAgg330
 z229:=sizeOf330
 v229:=zeroValue330 }
open Go.Sort Go.RowKit in
theorem slices_Sort_int (blk off cap:Nat) (zs:List Int) (w:World) (hH:Holds (Value.int .i64) w blk off zs.toArray) (hblk:blk<w.heap.size) (hsz:zs.length<4611686018427387904) :
 Calls prog 187 #[.slice (some ⟨blk,off,none⟩) zs.length cap] w fun e w' =>
 e=.returned (.tuple #[])∧∃n os,w'=grow (putRow (Value.int .i64) (Sort.ahead w n) blk off (zs.mergeSort fun x y=>decide (x≤y)).toArray) os:=Any.slices_Sort_int Zxm blk off cap zs w hH hblk hsz
def Zsa:Go.Shelf.Ren:=⟨fun|107=>141|108=>185|n=>n,fun|28=>77|3=>3|4=>4|0=>0|n=>n,fun|n=>n⟩
theorem Zxn:Go.Proofs.Lays.n107 prog Zsa:={
 mixed:=by kernel_rfl
 f107:=LzB func141
 f108:=LzB func185
 t0:=underlying0
 a0:=isAgg0
 z0:=sizeOf0
 v0:=zeroValue0
 t3:=underlying3
 a3:=isAgg3
 z3:=sizeOf3
 v3:=zeroValue3
 t4:=underlying4
 a4:=isAgg4
 z4:=sizeOf4
 v4:=zeroValue4
 t28:=underlying77
 a28:=isAgg77
 z28:=sizeOf77
 v28:=zeroValue77 }
open Go.Lib in
theorem slices_Contains_int (b off n c:Nat) (zs:List Int) (x:Int) (w:World) (hz:n≤zs.length) (hbig:n≤9223372036854775807) (hc:∀j,j<zs.length→w.cell? ⟨b,off+j,none⟩=some (.int .i64 (zs.getD j 0))) :
 Calls prog 141 #[.slice (some ⟨b,off,none⟩) n c,.int .i64 x] w fun e w'=>e=.returned (.bool ((zs.take n).contains x))∧w'=w:=Any.slices_Contains_int Zxn b off n c zs x w hz hbig hc
open Go.Lib in
theorem slices_Contains_int_empty (a:Option Addr) (c:Nat) (x:Int) (w:World) :
 Calls prog 141 #[.slice a 0 c,.int .i64 x] w fun e w'=>e=.returned (.bool false)∧w'=w:=Any.slices_Contains_int_empty Zxn a c x w
open Go.RowKit Go.Sort in
theorem slices_Sort_int_none (p:Option Addr) (cap:Nat) (w:World) :
 Calls prog 187 #[.slice p 0 cap] w fun e w'=>e=.returned (.tuple #[])∧w'=w:=Any.slices_Sort_int_none Zxm p cap w
end Go.Proofs.YtbcpbnfojfiekaaGreatDoor
