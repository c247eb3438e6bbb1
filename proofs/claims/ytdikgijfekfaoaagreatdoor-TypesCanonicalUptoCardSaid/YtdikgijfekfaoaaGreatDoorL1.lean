/- The lexer's walk. No condition. -/
import Derived.Test.YtdikgijfekfaoaaGreatDoorTy
import Derived.Test.YtdikgijfekfaoaaGreatDoorAbsc
set_option linter.all false
set_option linter.unusedSimpArgs false
set_option linter.unusedVariables false
namespace Go.Proofs.YtdikgijfekfaoaaGreatDoor
open Go.Proofs.YtdikgijfekfaoaaGreatDoor.Abs
set_option maxRecDepth 20000
set_option maxHeartbeats 4000000
def bodyOf (f : Func) : Code := match f.body with
  | some c => c
  | none => .skip
def kwCells : List AVal := [.str [97, 110, 100], .str [97, 115], .str [99, 104, 101, 99, 107], .str [100, 101, 108, 101, 116, 101], .str [101, 108, 115, 101], .str [102, 97, 108, 115, 101], .str [102, 117, 110], .str [105, 102], .str [105, 110], .str [105, 110, 115, 101, 114, 116], .str [107, 101, 121], .str [108, 101, 116], .str [109, 97, 116, 99, 104], .str [110, 111, 116], .str [111, 114], .str [112, 114, 111, 99], .str [114, 101, 102], .str [115, 101, 116], .str [116, 97, 98, 108, 101], .str [116, 104, 101, 110], .str [116, 111], .str [116, 114, 117, 101], .str [116, 121, 112, 101], .str [117, 112, 100, 97, 116, 101], .str [119, 104, 101, 114, 101], .str [119, 105, 116, 104]]
def syCells : List AVal := [.str [61, 61], .str [33, 61], .str [60, 61], .str [60, 45], .str [45, 62], .str [43, 43], .str [60], .str [62], .str [61], .str [43], .str [45], .str [42], .str [40], .str [41], .str [123], .str [125], .str [91], .str [93], .str [44], .str [46], .str [58], .str [124], .str [59], .str [63]]
noncomputable def cx : Cx := ⟨Tryz.prog, fun g => bif Nat.beq g 4 then some kwCells else bif Nat.beq g 5 then some syCells else none⟩
theorem cxM : cx.P.follows .mixedOrders = true := by kernel_rfl
end Go.Proofs.YtdikgijfekfaoaaGreatDoor
