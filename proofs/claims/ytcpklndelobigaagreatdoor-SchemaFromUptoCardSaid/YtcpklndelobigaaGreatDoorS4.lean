/- The examples of the chapter hold: lives() returns true. No condition. -/
import Derived.Test.YtcpklndelobigaaGreatDoorS2
set_option linter.all false
namespace Go.Proofs.YtcpklndelobigaaGreatDoor
open Go.Proofs.YtcpklndelobigaaGreatDoor.Abs
set_option maxRecDepth 100000
theorem sV : Tryz.prog.funcs.toList.all (fun fn => !(fn.name == "runtime.NumGoroutine")) = true := by kernel_rfl
theorem bb : ∀ (f : FuncId) (fn : Func), cx.P.funcs[f]? = some fn → (fn.name == "runtime.NumGoroutine") = false := by
 intro f fn hf;have hm:fn∈Tryz.prog.funcs.toList:=Array.mem_toList_iff.2 (Array.mem_of_getElem? hf);have:=List.all_eq_true.1 sV fn hm;simpa using this
def xp:XP:=⟨1000,fun f=>Nat.beq f 28 || Nat.beq f 33 || Nat.beq f 82 || Nat.beq f 84 || Nat.beq f 97 || Nat.beq f 154 || Nat.beq f 171 || Nat.beq f 226,fun f g=>(Nat.beq f 7 && Nat.beq g 29) || (Nat.beq f 44 && Nat.beq g 78)⟩
theorem Dk:xr cx.P cx.G yu xp 60 false 12 [] []=some (.bool true,[]):=by kernel_rfl
theorem y4:af cx 12 [] (.bool true):=a8 cxM bb bE 60 false 12 [] [] _ Dk
end Go.Proofs.YtcpklndelobigaaGreatDoor
