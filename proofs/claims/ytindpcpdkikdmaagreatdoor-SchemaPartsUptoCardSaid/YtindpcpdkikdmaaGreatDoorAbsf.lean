/- The heap in another order behind what is lent. No condition. -/
import Derived.Test.YtindpcpdkikdmaaGreatDoorAbse
set_option linter.all false
set_option linter.unusedSimpArgs false
set_option linter.unusedVariables false
namespace Go.Proofs.YtindpcpdkikdmaaGreatDoor.Abs
open Go
section
variable {cx : Cx} {n m : Nat} {T : Tm} {h : AHeap} {Q : APost}
end
section
variable {P : Program} {ev : Operand → AVal} {op : Op} {h : AHeap}
end
end Go.Proofs.YtindpcpdkikdmaaGreatDoor.Abs
