/- only and record of package types. Condition: sizes that can be had, names apart. -/
import Derived.Test.YtdikgijfekfaoaaGreatDoorV1
import Derived.Test.YtdikgijfekfaoaaGreatDoorH2
import Derived.Test.YtdikgijfekfaoaaGreatDoorAbse
set_option linter.all false
set_option linter.unusedSimpArgs false
set_option linter.unusedVariables false
namespace Go.Proofs.YtdikgijfekfaoaaGreatDoor
open Go.Proofs.YtdikgijfekfaoaaGreatDoor.Abs
set_option maxRecDepth 20000
set_option maxHeartbeats 4000000
abbrev Fd := List (List UInt8 × Ty)
@[simp] theorem encM_fd (k : Nat) (l : Fd) : ((encM AVal.str Ty.v l).all fun e => e.1.bel k && e.2.bel k) = true := by
  simp [encM, Ty.v, List.all_eq_true]
end Go.Proofs.YtdikgijfekfaoaaGreatDoor
