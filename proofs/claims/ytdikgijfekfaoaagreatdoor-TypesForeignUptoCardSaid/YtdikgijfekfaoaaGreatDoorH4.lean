/- The examples of the section hold: lives() returns true. No condition. -/
import Derived.Test.YtdikgijfekfaoaaGreatDoorH3
import Derived.Test.YtdikgijfekfaoaaGreatDoorAbsc
set_option linter.all false
set_option linter.unusedSimpArgs false
set_option linter.unusedVariables false
namespace Go.Proofs.YtdikgijfekfaoaaGreatDoor
open Go.Proofs.YtdikgijfekfaoaaGreatDoor.Abs
set_option maxRecDepth 100000
theorem no_goroutines : Tryz.prog.funcs.toList.all (fun fn => !(fn.name == "runtime.NumGoroutine")) = true := by kernel_rfl
theorem names_fine : ∀ (f : FuncId) (fn : Func), cx.P.funcs[f]? = some fn → (fn.name == "runtime.NumGoroutine") = false := by
  intro f fn hf
  have hm : fn ∈ Tryz.prog.funcs.toList := Array.mem_toList_iff.2 (Array.mem_of_getElem? hf)
  have := List.all_eq_true.1 no_goroutines fn hm
  simpa using this
theorem mixes : cx.P.follows .mixedOrders = true := by kernel_rfl
def xp : XP := ⟨1000, fun _ => false, fun f g => (Nat.beq f 68 || Nat.beq f 77) && Nat.beq g 67⟩
theorem lives_run : xfun cx.P cx.G hook xp 60 false 18 [] [] = some (.bool true, []) := by kernel_rfl
theorem lives_spec : CallsP cx 18 [] (.bool true) := xfun_sound mixes names_fine hook_ok 60 false 18 [] [] _ lives_run
end Go.Proofs.YtdikgijfekfaoaaGreatDoor
