/- The types of the program, as the abstract layer reads them. No condition. -/
import Derived.Test.YtindpcpdkikdmaaGreatDoorAbsa
import Derived.Test.YtindpcpdkikdmaaGreatDoorProg
set_option linter.all false
namespace Go.Proofs.YtindpcpdkikdmaaGreatDoor
open Go.Proofs.YtindpcpdkikdmaaGreatDoor.Abs
theorem ty3 : tyOf Tryz.prog 3 = some ⟨.int .i64, 1, 8, .int .i64 0⟩ := by kernel_rfl
theorem ty9 : tyOf Tryz.prog 9 = some ⟨.str, 1, 16, .str []⟩ := by kernel_rfl
theorem ty22 : tyOf Tryz.prog 22 = some ⟨.slice 3, 1, 24, .full []⟩ := by kernel_rfl
theorem ty23 : tyOf Tryz.prog 23 = some ⟨.slice 46, 1, 24, .full []⟩ := by kernel_rfl
theorem ty24 : tyOf Tryz.prog 24 = some ⟨.slice 41, 1, 24, .full []⟩ := by kernel_rfl
theorem ty34 : tyOf Tryz.prog 34 = some ⟨.slice 9, 1, 24, .full []⟩ := by kernel_rfl
theorem ty35 : tyOf Tryz.prog 35 = some ⟨.slice 63, 1, 24, .full []⟩ := by kernel_rfl
theorem ty36 : tyOf Tryz.prog 36 = some ⟨.slice 51, 1, 24, .full []⟩ := by kernel_rfl
theorem ty37 : tyOf Tryz.prog 37 = some ⟨.slice 39, 1, 24, .full []⟩ := by kernel_rfl
theorem ty39 : tyOf Tryz.prog 39 = some ⟨.struct [(0, 3), (1, 9), (2, 3), (3, 9), (4, 34), (5, 34), (6, 37), (7, 3), (8, 3)], 9, 136, .agg [.int .i64 0, .str [], .int .i64 0, .str [], .full [], .full [], .full [], .int .i64 0, .int .i64 0]⟩ := by kernel_rfl
theorem ty41 : tyOf Tryz.prog 41 = some ⟨.struct [(0, 9), (1, 35), (2, 34), (3, 36), (4, 39)], 13, 224, .agg [.str [], .full [], .full [], .full [], .int .i64 0, .str [], .int .i64 0, .str [], .full [], .full [], .full [], .int .i64 0, .int .i64 0]⟩ := by kernel_rfl
theorem ty44 : tyOf Tryz.prog 44 = some ⟨.slice 60, 1, 24, .full []⟩ := by kernel_rfl
theorem ty46 : tyOf Tryz.prog 46 = some ⟨.struct [(0, 9), (1, 44)], 2, 40, .agg [.str [], .full []]⟩ := by kernel_rfl
theorem ty51 : tyOf Tryz.prog 51 = some ⟨.struct [(0, 9), (1, 9)], 2, 32, .agg [.str [], .str []]⟩ := by kernel_rfl
theorem ty52 : tyOf Tryz.prog 52 = some ⟨.slice 54, 1, 24, .full []⟩ := by kernel_rfl
theorem ty54 : tyOf Tryz.prog 54 = some ⟨.struct [(0, 3), (1, 9), (2, 3), (3, 34), (4, 52)], 5, 80, .agg [.int .i64 0, .str [], .int .i64 0, .full [], .full []]⟩ := by kernel_rfl
theorem ty60 : tyOf Tryz.prog 60 = some ⟨.struct [(0, 9), (1, 4), (2, 54)], 7, 104, .agg [.str [], .bool false, .int .i64 0, .str [], .int .i64 0, .full [], .full []]⟩ := by kernel_rfl
theorem ty63 : tyOf Tryz.prog 63 = some ⟨.struct [(0, 9), (1, 54)], 6, 96, .agg [.str [], .int .i64 0, .str [], .int .i64 0, .full [], .full []]⟩ := by kernel_rfl
end Go.Proofs.YtindpcpdkikdmaaGreatDoor
