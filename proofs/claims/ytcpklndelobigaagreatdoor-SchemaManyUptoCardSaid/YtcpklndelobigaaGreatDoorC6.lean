/- Equal of constructors, columns, references and sums. Condition: sizes that can be had. -/
import Derived.Test.YtcpklndelobigaaGreatDoorC5
set_option linter.all false
namespace Go.Proofs.YtcpklndelobigaaGreatDoor
open Go.Proofs.YtcpklndelobigaaGreatDoor.Abs
set_option maxRecDepth 20000
set_option maxHeartbeats 4000000
end Go.Proofs.YtcpklndelobigaaGreatDoor
