/- Decimal of small numbers; what the generator Bent makes, as plain data. No condition. -/
import Derived.Test.YtindpcpdkikdmaaGreatDoorCI
import Derived.Test.YtindpcpdkikdmaaGreatDoorS4
set_option linter.all false
namespace Go.Proofs.YtindpcpdkikdmaaGreatDoor
open Go.Proofs.YtindpcpdkikdmaaGreatDoor.Abs
set_option maxRecDepth 20000
set_option maxHeartbeats 4000000
def decS (n : Nat) : List UInt8 := [UInt8.ofNat (48 + n)]
end Go.Proofs.YtindpcpdkikdmaaGreatDoor
