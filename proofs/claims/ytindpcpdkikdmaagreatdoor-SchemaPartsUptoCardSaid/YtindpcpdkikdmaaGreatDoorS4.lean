/- The examples of the chapter hold: lives() returns true. No condition. -/
import Derived.Test.YtindpcpdkikdmaaGreatDoorS3
set_option linter.all false
namespace Go.Proofs.YtindpcpdkikdmaaGreatDoor
open Go.Proofs.YtindpcpdkikdmaaGreatDoor.Abs
set_option maxRecDepth 100000
theorem no_goroutines : Tryz.prog.funcs.toList.all (fun fn => !(fn.name == "runtime.NumGoroutine")) = true := by kernel_rfl
theorem names_fine : ∀ (f : FuncId) (fn : Func), cx.P.funcs[f]? = some fn → (fn.name == "runtime.NumGoroutine") = false := by
  intro f fn hf
  have hm : fn ∈ Tryz.prog.funcs.toList := Array.mem_toList_iff.2 (Array.mem_of_getElem? hf)
  have := List.all_eq_true.1 no_goroutines fn hm
  simpa using this
def xp : XP := ⟨1000, fun f => Nat.beq f 68 || Nat.beq f 50 || Nat.beq f 83 || Nat.beq f 137 || Nat.beq f 138 || Nat.beq f 98, fun f g => (Nat.beq f 39 && Nat.beq g 69) || (Nat.beq f 17 && Nat.beq g 44)⟩
theorem lives_run : xfun cx.P cx.G hook2 xp 60 false 9 [] [] = some (.bool true, []) := by kernel_rfl
theorem lives_spec : CallsP cx 9 [] (.bool true) := xfun_sound cxM names_fine hook2_ok 60 false 9 [] [] _ lives_run
end Go.Proofs.YtindpcpdkikdmaaGreatDoor
