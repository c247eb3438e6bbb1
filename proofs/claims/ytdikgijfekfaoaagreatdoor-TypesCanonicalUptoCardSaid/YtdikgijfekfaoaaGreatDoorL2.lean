/- The lexer's walk, part 2. No condition. -/
import Derived.Test.YtdikgijfekfaoaaGreatDoorS5
import Derived.Test.YtdikgijfekfaoaaGreatDoorAbsc
set_option linter.all false
set_option linter.unusedSimpArgs false
set_option linter.unusedVariables false
namespace Go.Proofs.YtdikgijfekfaoaaGreatDoor
open Go.Proofs.YtdikgijfekfaoaaGreatDoor.Abs
set_option maxRecDepth 20000
set_option maxHeartbeats 4000000
def Sorted (l : List (List UInt8)) : Prop := ∀ i j, i < j → j < l.length → sLess (l.getD i []) (l.getD j []) = true
end Go.Proofs.YtdikgijfekfaoaaGreatDoor
