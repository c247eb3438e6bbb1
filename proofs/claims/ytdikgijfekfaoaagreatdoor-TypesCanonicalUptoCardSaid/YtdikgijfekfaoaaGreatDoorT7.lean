/- The two Valid agree. No condition. -/
import Derived.Test.YtdikgijfekfaoaaGreatDoorT6
import Derived.Test.YtdikgijfekfaoaaGreatDoorAbsc
set_option linter.all false
set_option linter.unusedSimpArgs false
set_option linter.unusedVariables false
namespace Go.Proofs.YtdikgijfekfaoaaGreatDoor
open Go.Proofs.YtdikgijfekfaoaaGreatDoor.Abs
structure OInv (l : List Occ) (s : VSt) : Prop where
  pl : ∀ n, mget n s.pl = some true ↔ ∃ o ∈ l, o.row = false ∧ o.n = n
  plt : ∀ n b, mget n s.pl = some b → b = true
  rw1 : ∀ n w, mget n s.rw = some w → ∃ o ∈ l, o.row = true ∧ o.n = n ∧ o.names = w
  rw2 : ∀ o ∈ l, o.row = true → ∃ w, mget o.n s.rw = some w
  rw3 : s.ok = true → ∀ o ∈ l, o.row = true → mget o.n s.rw = some o.names
  ok : (∀ o ∈ l, ∀ o' ∈ l, o.row = true → o'.row = true → o.n = o'.n → o.names = o'.names) → s.ok = true
end Go.Proofs.YtdikgijfekfaoaaGreatDoor
