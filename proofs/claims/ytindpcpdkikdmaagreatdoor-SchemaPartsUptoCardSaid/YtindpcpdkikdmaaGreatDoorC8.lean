/- Equal of references; the reference's Equal of sums and tables. Condition: sizes that can be had. -/
import Derived.Test.YtindpcpdkikdmaaGreatDoorC7
set_option linter.all false
namespace Go.Proofs.YtindpcpdkikdmaaGreatDoor
open Go.Proofs.YtindpcpdkikdmaaGreatDoor.Abs
set_option maxRecDepth 20000
set_option maxHeartbeats 4000000
def vBinT (ev : Operand → AVal) : Op → Option (BinOp × TypeId × AVal × AVal)
  | .binOp op t x y _ => some (op, t, ev x, ev y)
  | _ => none
section
variable {P : Program} {ev : Operand → AVal} {op : Op} {h : AHeap}
theorem vBinT_spec {b : BinOp} {t : TypeId} {x y : AVal} (hv : vBinT ev op = some (b, t, x, y)) : aop P h ev op = put1 h (abinX P b t x y) := by
  unfold vBinT at hv
  split at hv <;> simp at hv
  obtain ⟨rfl, rfl, rfl, rfl⟩ := hv
  rfl
theorem o_aggn {t : TypeId} {xs ys : List AVal} {q : Bool} (hv : vBinT ev op = some (.neq, t, .agg xs, .agg ys)) (hq : aggEq P t (.agg xs) (.agg ys) = some q) : aop P h ev op = some (.bool !q, h) := by
  rw [vBinT_spec hv]; simp only [abinX, hq]; rfl
end
theorem aggEq_rf (a b : Rf) : aggEq cx.P 51 a.v b.v = some (a.beq b) := by
  have e : aggEq cx.P 51 a.v b.v = (match some (a.col == b.col) with
    | some true => (match some (a.tab == b.tab) with
      | some true => some true
      | some false => some false
      | none => none)
    | some false => some false
    | none => none) := by kernel_rfl
  rw [e, Rf.beq]
  cases a.col == b.col <;> cases a.tab == b.tab <;> rfl
end Go.Proofs.YtindpcpdkikdmaaGreatDoor
