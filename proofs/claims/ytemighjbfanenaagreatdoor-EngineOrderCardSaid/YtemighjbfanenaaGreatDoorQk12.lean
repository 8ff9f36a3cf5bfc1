import Derived.Shelf.SlLaysF0
import Derived.Ground.SlsfProg
import Derived.Shelf.SlGeneric
import Derived.Test.YtemighjbfanenaaGreatDoorProg
set_option linter.all false
set_option maxRecDepth 100000
set_option maxHeartbeats 16000000
section
namespace Go.Proofs
open Go.Shelf
def Tryz.CP: Go.Shelf.Ren:=⟨fun|6=>350|15=>370|14=>369|28=>385|29=>386|20=>377|21=>378|22=>379|23=>380|24=>381|25=>382|26=>383|27=>384|46=>388|47=>389|48=>390|49=>391|50=>392|57=>393|n=>n,fun|22=>313|24=>358|25=>477|3=>3|39=>451|0=>0|53=>39|55=>22|4=>4|46=>493|45=>492|50=>272|5=>5|9=>9|66=>502|70=>505|76=>507|77=>508|n=>n,fun|n=>n⟩
theorem Tryz.P8: Go.Proofs.SlLaysF0.n6 Tryz.prog Tryz.CP:={
 mixed:=by kernel_rfl
 f6:=⟨Tryz.f350.name,by decide,Tryz.func350.trans (congrArg some (by kernel_rfl))⟩
 f14:=⟨Tryz.f369.name,by decide,Tryz.func369.trans (congrArg some (by kernel_rfl))⟩
 f15:=Tryz.func370.trans (congrArg some (by kernel_rfl))
 f20:=⟨Tryz.f377.name,by decide,Tryz.func377.trans (congrArg some (by kernel_rfl))⟩
 f21:=⟨Tryz.f378.name,by decide,Tryz.func378.trans (congrArg some (by kernel_rfl))⟩
 f22:=⟨Tryz.f379.name,by decide,Tryz.func379.trans (congrArg some (by kernel_rfl))⟩
 f23:=⟨Tryz.f380.name,by decide,Tryz.func380.trans (congrArg some (by kernel_rfl))⟩
 f24:=⟨Tryz.f381.name,by decide,Tryz.func381.trans (congrArg some (by kernel_rfl))⟩
 f25:=⟨Tryz.f382.name,by decide,Tryz.func382.trans (congrArg some (by kernel_rfl))⟩
 f26:=⟨Tryz.f383.name,by decide,Tryz.func383.trans (congrArg some (by kernel_rfl))⟩
 f27:=⟨Tryz.f384.name,by decide,Tryz.func384.trans (congrArg some (by kernel_rfl))⟩
 f28:=Tryz.func385.trans (congrArg some (by kernel_rfl))
 f29:=Tryz.func386.trans (congrArg some (by kernel_rfl))
 f46:=⟨Tryz.f388.name,by decide,Tryz.func388.trans (congrArg some (by kernel_rfl))⟩
 f47:=Tryz.func389.trans (congrArg some (by kernel_rfl))
 f48:=Tryz.func390.trans (congrArg some (by kernel_rfl))
 f49:=⟨Tryz.f391.name,by decide,Tryz.func391.trans (congrArg some (by kernel_rfl))⟩
 f50:=⟨Tryz.f392.name,by decide,Tryz.func392.trans (congrArg some (by kernel_rfl))⟩
 f57:=⟨Tryz.f393.name,by decide,Tryz.func393.trans (congrArg some (by kernel_rfl))⟩
 t0:=Tryz.underlying0
 a0:=Tryz.isAgg0
 z0:=Tryz.sizeOf0
 v0:=Tryz.zeroValue0
 t3:=Tryz.underlying3
 a3:=Tryz.isAgg3
 z3:=Tryz.sizeOf3
 v3:=Tryz.zeroValue3
 t4:=Tryz.underlying4
 a4:=Tryz.isAgg4
 z4:=Tryz.sizeOf4
 v4:=Tryz.zeroValue4
 t5:=Tryz.underlying5
 a5:=Tryz.isAgg5
 z5:=Tryz.sizeOf5
 v5:=Tryz.zeroValue5
 t9:=Tryz.underlying9
 a9:=Tryz.isAgg9
 z9:=Tryz.sizeOf9
 v9:=Tryz.zeroValue9
 t22:=Tryz.underlying313
 a22:=Tryz.isAgg313
 z22:=Tryz.sizeOf313
 v22:=Tryz.zeroValue313
 t25:=Tryz.underlying477
 a25:=Tryz.isAgg477
 z25:=Tryz.sizeOf477
 v25:=Tryz.zeroValue477
 t39:=Tryz.underlying451
 a39:=Tryz.isAgg451
 z39:=Tryz.sizeOf451
 v39:=Tryz.zeroValue451
 t45:=Tryz.underlying492
 a45:=Tryz.isAgg492
 z45:=Tryz.sizeOf492
 v45:=Tryz.zeroValue492
 t46:=Tryz.underlying493
 a46:=Tryz.isAgg493
 z46:=Tryz.sizeOf493
 v46:=Tryz.zeroValue493
 t50:=Tryz.underlying272
 a50:=Tryz.isAgg272
 z50:=Tryz.sizeOf272
 v50:=Tryz.zeroValue272
 t53:=Tryz.underlying39
 a53:=Tryz.isAgg39
 z53:=Tryz.sizeOf39
 v53:=Tryz.zeroValue39
 t55:=Tryz.underlying22
 a55:=Tryz.isAgg22
 z55:=Tryz.sizeOf22
 v55:=Tryz.zeroValue22
 t66:=Tryz.underlying502
 a66:=Tryz.isAgg502
 z66:=Tryz.sizeOf502
 v66:=Tryz.zeroValue502
 t70:=Tryz.underlying505
 a70:=Tryz.isAgg505
 z70:=Tryz.sizeOf505
 v70:=Tryz.zeroValue505
 t76:=Tryz.underlying507
 a76:=Tryz.isAgg507
 z76:=Tryz.sizeOf507
 v76:=Tryz.zeroValue507
 t77:=Tryz.underlying508
 a77:=Tryz.isAgg508
 z77:=Tryz.sizeOf508
 v77:=Tryz.zeroValue508}
end Go.Proofs
end