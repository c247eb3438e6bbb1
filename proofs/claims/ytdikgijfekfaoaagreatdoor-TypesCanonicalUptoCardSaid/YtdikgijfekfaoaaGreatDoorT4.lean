/- Valid of package types: the walk over the parts. No condition. -/
import Derived.Test.YtdikgijfekfaoaaGreatDoorT3
import Derived.Test.YtdikgijfekfaoaaGreatDoorAbsc
set_option linter.all false
set_option linter.unusedSimpArgs false
set_option linter.unusedVariables false
namespace Go.Proofs.YtdikgijfekfaoaaGreatDoor
open Go.Proofs.YtdikgijfekfaoaaGreatDoor.Abs
set_option maxRecDepth 20000
set_option maxHeartbeats 4000000
def encS (l : List (List UInt8)) : AVal := .imm (l.map .str)
@[simp] theorem encM_pl (k : Nat) (l : List (Int × Bool)) : ((encM (AVal.int .i64) AVal.bool l).all fun e => e.1.bel k && e.2.bel k) = true := by
  simp [encM, List.all_eq_true]
@[simp] theorem encM_rw (k : Nat) (l : List (Int × List (List UInt8))) : ((encM (AVal.int .i64) encS l).all fun e => e.1.bel k && e.2.bel k) = true := by
  simp [encM, encS, List.all_eq_true]
structure VSt where
  ok : Bool
  pl : List (Int × Bool)
  rw : List (Int × List (List UInt8))
def hpV (u : Ty) (s : VSt) : AHeap := [.box [.int .i64 u.kind, .str u.name, .int .i64 u.n, .imm (u.names.map .str), .imm (u.kids.map Ty.enc)], .box [.bool s.ok], .map (encM (AVal.int .i64) AVal.bool s.pl), .box [.map 2], .map (encM (AVal.int .i64) encS s.rw), .box [.map 4]]
theorem take_snocT (l : List Ty) (k : Nat) (h : k < l.length) : l.take (k + 1) = l.take k ++ [l.getD k Ty.zero] := by
  rw [List.take_succ_eq_append_getElem h, List.getD_eq_getElem?_getD, List.getElem?_eq_getElem h]; rfl
theorem szL_take : ∀ (l : List Ty) (k : Nat), Ty.szL (l.take k) ≤ Ty.szL l
  | [], k => by simp
  | t :: l, 0 => by simp [Ty.szL]
  | t :: l, k + 1 => by have := szL_take l k; simp only [List.take_succ_cons, Ty.szL]; omega
noncomputable def c54 : Code := bodyOf Tryz.f54
end Go.Proofs.YtdikgijfekfaoaaGreatDoor
