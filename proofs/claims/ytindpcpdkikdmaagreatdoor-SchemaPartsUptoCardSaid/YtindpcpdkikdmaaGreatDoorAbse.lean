/- Rules for calls on objects that lie anywhere. No condition. -/
import Derived.Test.YtindpcpdkikdmaaGreatDoorAbsd
set_option linter.all false
set_option linter.unusedSimpArgs false
set_option linter.unusedVariables false
namespace Go.Proofs.YtindpcpdkikdmaaGreatDoor.Abs
section
variable {cx : Cx} {l : List BOp} {S : Tm × AHeap} {K : Tm → AHeap → Prop}
end
end Go.Proofs.YtindpcpdkikdmaaGreatDoor.Abs
namespace Go.Proofs.YtindpcpdkikdmaaGreatDoor.Abs
open Go
section
variable {cx : Cx} {h : AHeap}
end
end Go.Proofs.YtindpcpdkikdmaaGreatDoor.Abs
namespace Go.Proofs.YtindpcpdkikdmaaGreatDoor.Abs
open Go
section
variable {cx : Cx} {l : List BOp} {S : RSt} {K : Tm → AHeap → Prop}
variable {f : FuncId} {args args' : List AVal} {h : AHeap} {Q : AVal → AHeap → Prop}
end
end Go.Proofs.YtindpcpdkikdmaaGreatDoor.Abs
