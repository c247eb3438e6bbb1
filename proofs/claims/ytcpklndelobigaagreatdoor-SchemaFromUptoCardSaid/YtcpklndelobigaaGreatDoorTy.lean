/- The types of the program, as the abstract layer Gw them. No condition. -/
import Derived.Test.YtcpklndelobigaaGreatDoorAbsa
import Derived.Test.YtcpklndelobigaaGreatDoorProg
set_option linter.all false
namespace Go.Proofs.YtcpklndelobigaaGreatDoor
open Go.Proofs.YtcpklndelobigaaGreatDoor.Abs
theorem ty3:aN Tryz.prog 3=some ⟨.int .i64,1,8,.int .i64 0⟩:=by kernel_rfl
theorem ty4:aN Tryz.prog 4=some ⟨.bool,1,1,.bool false⟩:=by kernel_rfl
theorem ty9:aN Tryz.prog 9=some ⟨.str,1,16,.str []⟩:=by kernel_rfl
theorem yJ:aN Tryz.prog 22=some ⟨.slice 3,1,24,.full []⟩:=by kernel_rfl
theorem l2:aN Tryz.prog 23=some ⟨.slice 72,1,24,.full []⟩:=by kernel_rfl
theorem cK:aN Tryz.prog 25=some ⟨.slice 58,1,24,.full []⟩:=by kernel_rfl
theorem b7:aN Tryz.prog 26=some ⟨.slice 52,1,24,.full []⟩:=by kernel_rfl
theorem k8:aN Tryz.prog 29=some ⟨.slice 97,1,24,.full []⟩:=by kernel_rfl
theorem ga:aN Tryz.prog 37=some ⟨.slice 62,1,24,.full []⟩:=by kernel_rfl
theorem bf:aN Tryz.prog 40=some ⟨.slice 9,1,24,.full []⟩:=by kernel_rfl
theorem dC:aN Tryz.prog 41=some ⟨.slice 43,1,24,.full []⟩:=by kernel_rfl
theorem gF:aN Tryz.prog 43=some ⟨.struct [(0,3),(1,9),(2,3),(3,40),(4,41)],5,80,.agg [.int .i64 0,.str [],.int .i64 0,.full [],.full []]⟩:=by kernel_rfl
theorem kp:aN Tryz.prog 45=some ⟨.struct [(0,9),(1,43)],6,96,.agg [.str [],.int .i64 0,.str [],.int .i64 0,.full [],.full []]⟩:=by kernel_rfl
theorem eL:aN Tryz.prog 46=some ⟨.slice 45,1,24,.full []⟩:=by kernel_rfl
theorem Es:aN Tryz.prog 47=some ⟨.slice 49,1,24,.full []⟩:=by kernel_rfl
theorem NB:aN Tryz.prog 49=some ⟨.struct [(0,3),(1,9),(2,3),(3,9),(4,40),(5,40),(6,47),(7,3),(8,3)],9,136,.agg [.int .i64 0,.str [],.int .i64 0,.str [],.full [],.full [],.full [],.int .i64 0,.int .i64 0]⟩:=by kernel_rfl
theorem iw:aN Tryz.prog 50=some ⟨.slice 55,1,24,.full []⟩:=by kernel_rfl
theorem cN:aN Tryz.prog 52=some ⟨.struct [(0,9),(1,46),(2,40),(3,50),(4,49)],13,224,.agg [.str [],.full [],.full [],.full [],.int .i64 0,.str [],.int .i64 0,.str [],.full [],.full [],.full [],.int .i64 0,.int .i64 0]⟩:=by kernel_rfl
theorem ow:aN Tryz.prog 55=some ⟨.struct [(0,9),(1,9)],2,32,.agg [.str [],.str []]⟩:=by kernel_rfl
theorem iL:aN Tryz.prog 56=some ⟨.slice 105,1,24,.full []⟩:=by kernel_rfl
theorem en:aN Tryz.prog 58=some ⟨.struct [(0,9),(1,56)],2,40,.agg [.str [],.full []]⟩:=by kernel_rfl
theorem oB:aN Tryz.prog 62=some ⟨.struct [(0,3),(1,9),(2,58),(4,52),(17,59),(18,4),(19,43),(24,49),(33,60),(34,3),(35,3),(36,3)],37,584,.agg [.int .i64 0,.str [],.str [],.full [],.str [],.full [],.full [],.full [],.int .i64 0,.str [],.int .i64 0,.str [],.full [],.full [],.full [],.int .i64 0,.int .i64 0,.full [],.bool false,.int .i64 0,.str [],.int .i64 0,.full [],.full [],.int .i64 0,.str [],.int .i64 0,.str [],.full [],.full [],.full [],.int .i64 0,.int .i64 0,.full [],.int .i64 0,.int .i64 0,.int .i64 0]⟩:=by kernel_rfl
theorem sX:aN Tryz.prog 72=some ⟨.struct [(0,9),(1,37)],2,40,.agg [.str [],.full []]⟩:=by kernel_rfl
theorem E0:aN Tryz.prog 76=some ⟨.map 9 52,1,8,.nilm⟩:=by kernel_rfl
theorem eM:aN Tryz.prog 77=some ⟨.map 9 4,1,8,.nilm⟩:=by kernel_rfl
theorem fK:aN Tryz.prog 93=some ⟨.slice 40,1,24,.full []⟩:=by kernel_rfl
theorem pK:aN Tryz.prog 97=some ⟨.struct [(0,9),(1,3),(2,3),(3,3),(4,40)],5,64,.agg [.str [],.int .i64 0,.int .i64 0,.int .i64 0,.full []]⟩:=by kernel_rfl
theorem ka:aN Tryz.prog 105=some ⟨.struct [(0,9),(1,4),(2,43)],7,104,.agg [.str [],.bool false,.int .i64 0,.str [],.int .i64 0,.full [],.full []]⟩:=by kernel_rfl
theorem JY:aN Tryz.prog 135=some ⟨.int .u64,1,8,.int .u64 0⟩:=by kernel_rfl
theorem JD:aN Tryz.prog 197=some ⟨.map 3 4,1,8,.nilm⟩:=by kernel_rfl
theorem yp:aN Tryz.prog 198=some ⟨.map 3 40,1,8,.nilm⟩:=by kernel_rfl
theorem eV:aN Tryz.prog 242=some ⟨.slice 245,1,24,.full []⟩:=by kernel_rfl
theorem jc:aN Tryz.prog 245=some ⟨.struct [(0,3),(1,4),(2,40)],3,40,.agg [.int .i64 0,.bool false,.full []]⟩:=by kernel_rfl
end Go.Proofs.YtcpklndelobigaaGreatDoor
