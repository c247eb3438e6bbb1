/- More types of the program as the layer has them. No condition. -/
import Derived.Test.YtdikgijfekfaoaaGreatDoorTy
import Derived.Test.YtdikgijfekfaoaaGreatDoorAbsc
set_option linter.all false
set_option linter.unusedSimpArgs false
set_option linter.unusedVariables false
namespace Go.Proofs.YtdikgijfekfaoaaGreatDoor
open Go.Proofs.YtdikgijfekfaoaaGreatDoor.Abs
theorem ty41 : tyOf Tryz.prog 41 = some ⟨.slice 47, 1, 24, .full []⟩ := by kernel_rfl
theorem ty44 : tyOf Tryz.prog 44 = some ⟨.struct [(0, 9), (1, 4), (2, 25)], 7, 104, .agg [.str [], .bool false, .int .i64 0, .str [], .int .i64 0, .full [], .full []]⟩ := by kernel_rfl
theorem ty45 : tyOf Tryz.prog 45 = some ⟨.slice 44, 1, 24, .full []⟩ := by kernel_rfl
theorem ty47 : tyOf Tryz.prog 47 = some ⟨.struct [(0, 9), (1, 45)], 2, 40, .agg [.str [], .full []]⟩ := by kernel_rfl
end Go.Proofs.YtdikgijfekfaoaaGreatDoor
