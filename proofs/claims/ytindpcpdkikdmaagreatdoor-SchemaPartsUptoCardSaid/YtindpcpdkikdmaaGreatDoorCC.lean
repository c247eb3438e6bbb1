/- EqualFunc at sums and tables, as schema.Equal calls it. Condition: sizes that can be had. -/
import Derived.Test.YtindpcpdkikdmaaGreatDoorCB
set_option linter.all false
namespace Go.Proofs.YtindpcpdkikdmaaGreatDoor
open Go.Proofs.YtindpcpdkikdmaaGreatDoor.Abs
set_option maxRecDepth 20000
set_option maxHeartbeats 4000000
end Go.Proofs.YtindpcpdkikdmaaGreatDoor
