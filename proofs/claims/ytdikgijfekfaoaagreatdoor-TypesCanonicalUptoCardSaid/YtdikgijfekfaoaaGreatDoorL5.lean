/- The reference's lexer: all tokens. No condition. -/
import Derived.Test.YtdikgijfekfaoaaGreatDoorL4
import Derived.Test.YtdikgijfekfaoaaGreatDoorAbsc
set_option linter.all false
set_option linter.unusedSimpArgs false
set_option linter.unusedVariables false
namespace Go.Proofs.YtdikgijfekfaoaaGreatDoor
open Go.Proofs.YtdikgijfekfaoaaGreatDoor.Abs
set_option maxRecDepth 20000
set_option maxHeartbeats 4000000
structure Tok where
  kind : Int
  text : List UInt8
  pos : Int
def Tok.zero : Tok := ⟨0, [], 0⟩
def Tok.v (t : Tok) : AVal := .agg [.int .i64 t.kind, .str t.text, .int .i64 t.pos]
@[simp] theorem frzL_toks (h : AHeap) (l : List Tok) : frzL h (l.map Tok.v) = l.map Tok.v := frzL_map_same h (fun _ => rfl) l
@[simp] theorem belL_toks (k : Nat) (l : List Tok) : belL k (l.map Tok.v) = true := belL_map k (fun _ => rfl) l
@[simp] theorem ownsL_toks (l : List Tok) : ownsL (l.map Tok.v) = [] := ownsL_map (fun _ => rfl) l
end Go.Proofs.YtdikgijfekfaoaaGreatDoor
