/- Fits of both lexers. No condition. -/
import Derived.Test.YtdikgijfekfaoaaGreatDoorL5
import Derived.Test.YtdikgijfekfaoaaGreatDoorAbsc
set_option linter.all false
set_option linter.unusedSimpArgs false
set_option linter.unusedVariables false
namespace Go.Proofs.YtdikgijfekfaoaaGreatDoor
open Go.Proofs.YtdikgijfekfaoaaGreatDoor.Abs
set_option maxRecDepth 20000
set_option maxHeartbeats 4000000
end Go.Proofs.YtdikgijfekfaoaaGreatDoor
