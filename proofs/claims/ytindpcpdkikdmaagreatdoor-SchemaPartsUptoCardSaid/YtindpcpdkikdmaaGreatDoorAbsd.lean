/- The abstract layer, part 35: pure calls on arrays of one's own in a drawn region; an array is locked; the smaller of two numbers; a first append. No condition. -/
import Derived.Test.YtindpcpdkikdmaaGreatDoorAbsc
set_option linter.all false
set_option linter.unusedSimpArgs false
set_option linter.unusedVariables false
namespace Go.Proofs.YtindpcpdkikdmaaGreatDoor.Abs
section
variable {cx : Cx} {n m : Nat} {Q : APost} {T : Tm} {h : AHeap} {l : List BOp} {KD : List (List Nat × List Nat) → Tm → AHeap → Prop} {s : DSt}
end
section
variable {P : Program} {ev : Operand → AVal} {op : Op} {h : AHeap}
theorem rowOk_map {α : Type} {enc : α → AVal} {sz : Nat} (hok : ∀ q, ((enc q).cells.length == sz && (enc q).cells.all AVal.cellOk) = true) (l : List α) : rowOk sz (l.map enc) = true := by
  unfold rowOk
  rw [List.all_eq_true]
  intro x hx
  obtain ⟨q, _, rfl⟩ := List.mem_map.1 hx
  exact hok q
end
end Go.Proofs.YtindpcpdkikdmaaGreatDoor.Abs
