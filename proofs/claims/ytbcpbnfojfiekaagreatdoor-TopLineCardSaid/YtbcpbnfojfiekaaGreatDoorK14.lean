/- A part of what the last text stands on. -/
import Derived.Shelf.SlSortCmp.WholeK
import Derived.Shelf.SlGeneric
import Derived.Ground.SlsfProg
import Derived.Test.YtbcpbnfojfiekaaGreatDoorProg
namespace Go.Proofs.YtbcpbnfojfiekaaGreatDoor
set_option linter.all false
theorem LzA{α:Type}{a:Option α}{x y:α}(h:a=some x)(e:x=y:=by kernel_rfl):a=some y:=h.trans (congrArg some e)
open Go.Shelf Go.Proofs.Tryz
def Zrk:Go.Shelf.Ren:=⟨fun|6=>152|15=>195|14=>194|28=>225|29=>114|20=>217|21=>218|22=>219|23=>220|24=>221|25=>222|26=>223|27=>224|46=>242|47=>243|48=>244|49=>245|50=>246|57=>252|n=>n,fun|22=>39|24=>79|25=>231|3=>3|39=>95|0=>0|53=>191|55=>160|4=>4|46=>297|45=>296|50=>99|5=>5|9=>9|66=>313|70=>317|76=>329|77=>330|n=>n,fun|n=>n⟩
theorem Zoh:Go.Proofs.SlLaysF0.n6 prog Zrk:={
 mixed:=by kernel_rfl
 f6:=⟨Tryz.f152.name,by decide,LzA func152⟩
 f14:=⟨Tryz.f194.name,by decide,LzA func194⟩
 f15:=LzA func195
 f20:=⟨Tryz.f217.name,by decide,LzA func217⟩
 f21:=⟨Tryz.f218.name,by decide,LzA func218⟩
 f22:=⟨Tryz.f219.name,by decide,LzA func219⟩
 f23:=⟨Tryz.f220.name,by decide,LzA func220⟩
 f24:=⟨Tryz.f221.name,by decide,LzA func221⟩
 f25:=⟨Tryz.f222.name,by decide,LzA func222⟩
 f26:=⟨Tryz.f223.name,by decide,LzA func223⟩
 f27:=⟨Tryz.f224.name,by decide,LzA func224⟩
 f28:=LzA func225
 f29:=LzA func114
 f46:=⟨Tryz.f242.name,by decide,LzA func242⟩
 f47:=LzA func243
 f48:=LzA func244
 f49:=⟨Tryz.f245.name,by decide,LzA func245⟩
 f50:=⟨Tryz.f246.name,by decide,LzA func246⟩
 f57:=⟨Tryz.f252.name,by decide,LzA func252⟩
 t0:=underlying0
 a0:=isAgg0
 z0:=sizeOf0
 v0:=zeroValue0
 t3:=underlying3
 a3:=isAgg3
 z3:=sizeOf3
 v3:=zeroValue3
 t4:=underlying4
 a4:=isAgg4
 z4:=sizeOf4
 v4:=zeroValue4
 t5:=underlying5
 a5:=isAgg5
 z5:=sizeOf5
 v5:=zeroValue5
 t9:=underlying9
 a9:=isAgg9
 z9:=sizeOf9
 v9:=zeroValue9
 t22:=underlying39
 a22:=isAgg39
 z22:=sizeOf39
 v22:=zeroValue39
 t25:=underlying231
 a25:=isAgg231
 z25:=sizeOf231
 v25:=zeroValue231
 t39:=underlying95
 a39:=isAgg95
 z39:=sizeOf95
 v39:=zeroValue95
 t45:=underlying296
 a45:=isAgg296
 z45:=sizeOf296
 v45:=zeroValue296
 t46:=underlying297
 a46:=isAgg297
 z46:=sizeOf297
 v46:=zeroValue297
 t50:=underlying99
 a50:=isAgg99
 z50:=sizeOf99
 v50:=zeroValue99
 t53:=underlying191
 a53:=isAgg191
 z53:=sizeOf191
 v53:=zeroValue191
 t55:=underlying160
 a55:=isAgg160
 z55:=sizeOf160
 v55:=zeroValue160
 t66:=underlying313
 a66:=isAgg313
 z66:=sizeOf313
 v66:=zeroValue313
 t70:=underlying317
 a70:=isAgg317
 z70:=sizeOf317
 v70:=zeroValue317
 t76:=underlying329
 a76:=isAgg329
 z76:=sizeOf329
 v76:=zeroValue329
 t77:=underlying330
 a77:=isAgg330
 z77:=sizeOf330
 v77:=zeroValue330 }
end Go.Proofs.YtbcpbnfojfiekaaGreatDoor
