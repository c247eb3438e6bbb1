/- The law SchemaEqual. No condition but that the numbers are numbers. -/
import Derived.Test.YtindpcpdkikdmaaGreatDoorCK
import Derived.Test.YtindpcpdkikdmaaGreatDoorCL
set_option linter.all false
namespace Go.Proofs.YtindpcpdkikdmaaGreatDoor
open Go.Proofs.YtindpcpdkikdmaaGreatDoor.Abs
set_option maxRecDepth 20000
set_option maxHeartbeats 4000000
@[simp] theorem frzL_scs (h : AHeap) (l : List Sc) : frzL h (l.map Sc.v) = l.map Sc.v := frzL_map_same h (Sc.frz_v h) l
@[simp] theorem belL_scs (k : Nat) (l : List Sc) : belL k (l.map Sc.v) = true := belL_map k (Sc.bel_v k) l
@[simp] theorem ownsL_scs (l : List Sc) : ownsL (l.map Sc.v) = [] := ownsL_map Sc.owns_v l
noncomputable def c3 : Code := bodyOf Tryz.f3
end Go.Proofs.YtindpcpdkikdmaaGreatDoor
