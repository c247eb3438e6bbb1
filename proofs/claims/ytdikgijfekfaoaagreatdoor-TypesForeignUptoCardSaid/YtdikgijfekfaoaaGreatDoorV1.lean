/- Bindings of both packages. Condition: sizes that can be had. -/
import Derived.Test.YtdikgijfekfaoaaGreatDoorT11
import Derived.Test.YtdikgijfekfaoaaGreatDoorAbse
set_option linter.all false
set_option linter.unusedSimpArgs false
set_option linter.unusedVariables false
namespace Go.Proofs.YtdikgijfekfaoaaGreatDoor
open Go.Proofs.YtdikgijfekfaoaaGreatDoor.Abs
set_option maxRecDepth 20000
set_option maxHeartbeats 4000000
@[simp] theorem encM_bd (k : Nat) (l : List (Int × Ty)) : ((encM (AVal.int .i64) Ty.v l).all fun e => e.1.bel k && e.2.bel k) = true := by
  simp [encM, Ty.v, List.all_eq_true]
end Go.Proofs.YtdikgijfekfaoaaGreatDoor
