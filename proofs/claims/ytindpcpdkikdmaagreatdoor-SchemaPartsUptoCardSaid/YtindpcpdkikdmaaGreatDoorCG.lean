/- Closed of the reference. No condition. -/
import Derived.Test.YtindpcpdkikdmaaGreatDoorCF
set_option linter.all false
namespace Go.Proofs.YtindpcpdkikdmaaGreatDoor
open Go.Proofs.YtindpcpdkikdmaaGreatDoor.Abs
set_option maxRecDepth 20000
set_option maxHeartbeats 4000000
def rec0 : Ty := .mk 5 [] 0 [] []
end Go.Proofs.YtindpcpdkikdmaaGreatDoor
