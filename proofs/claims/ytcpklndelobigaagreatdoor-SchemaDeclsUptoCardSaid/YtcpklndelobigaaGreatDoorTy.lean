/- The types of the program, as the abstract layer KC them. No condition. -/
import Derived.Test.YtcpklndelobigaaGreatDoorAbsa
import Derived.Test.YtcpklndelobigaaGreatDoorProg
set_option linter.all false
namespace Go.Proofs.YtcpklndelobigaaGreatDoor
open Go.Proofs.YtcpklndelobigaaGreatDoor.Abs
theorem ty3:aP Tryz.prog 3=some ⟨.int .i64,1,8,.int .i64 0⟩:=by kernel_rfl
theorem ty4:aP Tryz.prog 4=some ⟨.bool,1,1,.bool false⟩:=by kernel_rfl
theorem ty9:aP Tryz.prog 9=some ⟨.str,1,16,.str []⟩:=by kernel_rfl
theorem Bu:aP Tryz.prog 22=some ⟨.slice 3,1,24,.full []⟩:=by kernel_rfl
theorem F4:aP Tryz.prog 23=some ⟨.slice 72,1,24,.full []⟩:=by kernel_rfl
theorem di:aP Tryz.prog 25=some ⟨.slice 58,1,24,.full []⟩:=by kernel_rfl
theorem cD:aP Tryz.prog 26=some ⟨.slice 52,1,24,.full []⟩:=by kernel_rfl
theorem Us:aP Tryz.prog 29=some ⟨.slice 97,1,24,.full []⟩:=by kernel_rfl
theorem gS:aP Tryz.prog 37=some ⟨.slice 62,1,24,.full []⟩:=by kernel_rfl
theorem a6:aP Tryz.prog 40=some ⟨.slice 9,1,24,.full []⟩:=by kernel_rfl
theorem dU:aP Tryz.prog 41=some ⟨.slice 43,1,24,.full []⟩:=by kernel_rfl
theorem il:aP Tryz.prog 43=some ⟨.struct [(0,3),(1,9),(2,3),(3,40),(4,41)],5,80,.agg [.int .i64 0,.str [],.int .i64 0,.full [],.full []]⟩:=by kernel_rfl
theorem j5:aP Tryz.prog 45=some ⟨.struct [(0,9),(1,43)],6,96,.agg [.str [],.int .i64 0,.str [],.int .i64 0,.full [],.full []]⟩:=by kernel_rfl
theorem em:aP Tryz.prog 46=some ⟨.slice 45,1,24,.full []⟩:=by kernel_rfl
theorem It:aP Tryz.prog 47=some ⟨.slice 49,1,24,.full []⟩:=by kernel_rfl
theorem VD:aP Tryz.prog 49=some ⟨.struct [(0,3),(1,9),(2,3),(3,9),(4,40),(5,40),(6,47),(7,3),(8,3)],9,136,.agg [.int .i64 0,.str [],.int .i64 0,.str [],.full [],.full [],.full [],.int .i64 0,.int .i64 0]⟩:=by kernel_rfl
theorem ge:aP Tryz.prog 50=some ⟨.slice 55,1,24,.full []⟩:=by kernel_rfl
theorem d3:aP Tryz.prog 52=some ⟨.struct [(0,9),(1,46),(2,40),(3,50),(4,49)],13,224,.agg [.str [],.full [],.full [],.full [],.int .i64 0,.str [],.int .i64 0,.str [],.full [],.full [],.full [],.int .i64 0,.int .i64 0]⟩:=by kernel_rfl
theorem mW:aP Tryz.prog 55=some ⟨.struct [(0,9),(1,9)],2,32,.agg [.str [],.str []]⟩:=by kernel_rfl
theorem gM:aP Tryz.prog 56=some ⟨.slice 105,1,24,.full []⟩:=by kernel_rfl
theorem e9:aP Tryz.prog 58=some ⟨.struct [(0,9),(1,56)],2,40,.agg [.str [],.full []]⟩:=by kernel_rfl
theorem rV:aP Tryz.prog 62=some ⟨.struct [(0,3),(1,9),(2,58),(4,52),(17,59),(18,4),(19,43),(24,49),(33,60),(34,3),(35,3),(36,3)],37,584,.agg [.int .i64 0,.str [],.str [],.full [],.str [],.full [],.full [],.full [],.int .i64 0,.str [],.int .i64 0,.str [],.full [],.full [],.full [],.int .i64 0,.int .i64 0,.full [],.bool false,.int .i64 0,.str [],.int .i64 0,.full [],.full [],.int .i64 0,.str [],.int .i64 0,.str [],.full [],.full [],.full [],.int .i64 0,.int .i64 0,.full [],.int .i64 0,.int .i64 0,.int .i64 0]⟩:=by kernel_rfl
theorem RL:aP Tryz.prog 67=some ⟨.int .i64,1,8,.int .i64 0⟩:=by kernel_rfl
theorem QZ:aP Tryz.prog 72=some ⟨.struct [(0,9),(1,37)],2,40,.agg [.str [],.full []]⟩:=by kernel_rfl
theorem IE:aP Tryz.prog 76=some ⟨.map 9 52,1,8,.nilm⟩:=by kernel_rfl
theorem fd:aP Tryz.prog 77=some ⟨.map 9 4,1,8,.nilm⟩:=by kernel_rfl
theorem Wx:aP Tryz.prog 97=some ⟨.struct [(0,9),(1,3),(2,3),(3,3),(4,40)],5,64,.agg [.str [],.int .i64 0,.int .i64 0,.int .i64 0,.full []]⟩:=by kernel_rfl
theorem mn:aP Tryz.prog 105=some ⟨.struct [(0,9),(1,4),(2,43)],7,104,.agg [.str [],.bool false,.int .i64 0,.str [],.int .i64 0,.full [],.full []]⟩:=by kernel_rfl
theorem zp:aP Tryz.prog 110=some ⟨.slice 67,1,24,.full []⟩:=by kernel_rfl
theorem PD:aP Tryz.prog 135=some ⟨.int .u64,1,8,.int .u64 0⟩:=by kernel_rfl
theorem VI:aP Tryz.prog 164=some ⟨.slice 4,1,24,.full []⟩:=by kernel_rfl
theorem PF:aP Tryz.prog 197=some ⟨.map 3 4,1,8,.nilm⟩:=by kernel_rfl
theorem Aw:aP Tryz.prog 198=some ⟨.map 3 40,1,8,.nilm⟩:=by kernel_rfl
theorem fp:aP Tryz.prog 242=some ⟨.slice 245,1,24,.full []⟩:=by kernel_rfl
theorem kh:aP Tryz.prog 245=some ⟨.struct [(0,3),(1,4),(2,40)],3,40,.agg [.int .i64 0,.bool false,.full []]⟩:=by kernel_rfl
end Go.Proofs.YtcpklndelobigaaGreatDoor
