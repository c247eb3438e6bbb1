/- What is well formed. No condition. -/
import Derived.Test.YtdikgijfekfaoaaGreatDoorT2
import Derived.Test.YtdikgijfekfaoaaGreatDoorAbsc
set_option linter.all false
set_option linter.unusedSimpArgs false
set_option linter.unusedVariables false
namespace Go.Proofs.YtdikgijfekfaoaaGreatDoor
open Go.Proofs.YtdikgijfekfaoaaGreatDoor.Abs
set_option maxRecDepth 20000
set_option maxHeartbeats 4000000
def idxS (l : List (List UInt8)) (s : List UInt8) : Int := match l.findIdx? (· == s) with
  | some i => (i : Nat)
  | none => -1
theorem idxS_some {l : List (List UInt8)} {s : List UInt8} {k : Nat} (hk : k < l.length) (ha : ∀ i, i < k → ¬ s = l.getD i []) (h : s = l.getD k []) : ((k : Nat) : Int) = idxS l s := by
  have e : ∀ i (h : i < l.length), l.getD i [] = l[i] := fun i h => by rw [List.getD_eq_getElem?_getD, List.getElem?_eq_getElem h]; rfl
  have : l.findIdx? (· == s) = some k := by
    rw [List.findIdx?_eq_some_iff_getElem]
    refine ⟨hk, by rw [← e k hk, ← h]; simp, fun j hj => ?_⟩
    have := ha j hj
    rw [e j (by omega)] at this
    simpa using fun h => this h.symm
  simp [idxS, this]
theorem idxS_none {l : List (List UInt8)} {s : List UInt8} (ha : ∀ i, i < l.length → ¬ s = l.getD i []) : -1 = idxS l s := by
  have : l.findIdx? (· == s) = none := by
    rw [List.findIdx?_eq_none_iff]
    intro x hx
    obtain ⟨i, hi, rfl⟩ := List.getElem_of_mem hx
    have := ha i hi
    rw [List.getD_eq_getElem?_getD, List.getElem?_eq_getElem hi] at this
    simpa using fun h : l[i] = s => this h.symm
  simp [idxS, this]
end Go.Proofs.YtdikgijfekfaoaaGreatDoor
