/- The generator Bent of the reference. Condition: there is a table and a sum, and the tables have columns. -/
import Derived.Test.YtindpcpdkikdmaaGreatDoorCJ
set_option linter.all false
namespace Go.Proofs.YtindpcpdkikdmaaGreatDoor
open Go.Proofs.YtindpcpdkikdmaaGreatDoor.Abs
set_option maxRecDepth 20000
set_option maxHeartbeats 4000000
@[simp] theorem decS_len (n : Nat) : (decS n).length = 1 := rfl
end Go.Proofs.YtindpcpdkikdmaaGreatDoor
