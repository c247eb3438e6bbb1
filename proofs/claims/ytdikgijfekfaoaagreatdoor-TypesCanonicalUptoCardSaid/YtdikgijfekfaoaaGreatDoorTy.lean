/- The types of the program as the layer has them; plain functions of the lexer. No condition. -/
import Derived.Test.YtdikgijfekfaoaaGreatDoorAbsb
import Derived.Test.YtdikgijfekfaoaaGreatDoorProg
import Derived.Test.YtdikgijfekfaoaaGreatDoorAbsc
set_option linter.all false
set_option linter.unusedSimpArgs false
set_option linter.unusedVariables false
namespace Go.Proofs.YtdikgijfekfaoaaGreatDoor
open Go.Proofs.YtdikgijfekfaoaaGreatDoor.Abs
theorem ty3 : tyOf Tryz.prog 3 = some ⟨.int .i64, 1, 8, .int .i64 0⟩ := by kernel_rfl
theorem ty9 : tyOf Tryz.prog 9 = some ⟨.str, 1, 16, .str []⟩ := by kernel_rfl
theorem ty22 : tyOf Tryz.prog 22 = some ⟨.slice 9, 1, 24, .full []⟩ := by kernel_rfl
theorem ty23 : tyOf Tryz.prog 23 = some ⟨.slice 25, 1, 24, .full []⟩ := by kernel_rfl
theorem ty25 : tyOf Tryz.prog 25 = some ⟨.struct [(0, 3), (1, 9), (2, 3), (3, 22), (4, 23)], 5, 80, .agg [.int .i64 0, .str [], .int .i64 0, .full [], .full []]⟩ := by kernel_rfl
theorem ty26 : tyOf Tryz.prog 26 = some ⟨.slice 3, 1, 24, .full []⟩ := by kernel_rfl
theorem ty77 : tyOf Tryz.prog 77 = some ⟨.slice 80, 1, 24, .full []⟩ := by kernel_rfl
theorem ty80 : tyOf Tryz.prog 80 = some ⟨.struct [(0, 3), (1, 4), (2, 22)], 3, 40, .agg [.int .i64 0, .bool false, .full []]⟩ := by kernel_rfl
theorem ty98 : tyOf Tryz.prog 98 = some ⟨.map 3 3, 1, 8, .nilm⟩ := by kernel_rfl
end Go.Proofs.YtdikgijfekfaoaaGreatDoor
namespace Go.Proofs.YtdikgijfekfaoaaGreatDoor
open Go.Proofs.YtdikgijfekfaoaaGreatDoor.Abs
def inB (c lo hi : UInt8) : Bool := decide (lo ≤ c) && decide (c ≤ hi)
def isSp (c : UInt8) : Bool := c == 9 || c == 10 || c == 13 || c == 32
def isDg (c : UInt8) : Bool := inB c 48 57
def isLo (c : UInt8) : Bool := inB c 97 122
def isUp (c : UInt8) : Bool := inB c 65 90
def isWd (c : UInt8) : Bool := isLo c || isDg c || c == 95
def isNm (c : UInt8) : Bool := isLo c || isUp c || isDg c
def isLn (c : UInt8) : Bool := c != 10
/-! The order of strings. -/
def kws : List (List UInt8) := [[97, 110, 100], [97, 115], [99, 104, 101, 99, 107], [100, 101, 108, 101, 116, 101], [101, 108, 115, 101], [102, 97, 108, 115, 101], [102, 117, 110], [105, 102], [105, 110], [105, 110, 115, 101, 114, 116], [107, 101, 121], [108, 101, 116], [109, 97, 116, 99, 104], [110, 111, 116], [111, 114], [112, 114, 111, 99], [114, 101, 102], [115, 101, 116], [116, 97, 98, 108, 101], [116, 104, 101, 110], [116, 111], [116, 114, 117, 101], [116, 121, 112, 101], [117, 112, 100, 97, 116, 101], [119, 104, 101, 114, 101], [119, 105, 116, 104]]
def syms : List (List UInt8) := [[61, 61], [33, 61], [60, 61], [60, 45], [45, 62], [43, 43], [60], [62], [61], [43], [45], [42], [40], [41], [123], [125], [91], [93], [44], [46], [58], [124], [59], [63]]
def isKw (s : List UInt8) : Bool := kws.contains s
def hasPre (s p : List UInt8) : Bool := s.take p.length == p
def symLen (s : List UInt8) : Nat := match syms.find? (hasPre s) with
  | some x => x.length
  | none => 0
def isQ (c : UInt8) : Bool := c == 34 || c == 10
def qIdx (s : List UInt8) : Int := match s.findIdx? isQ with
  | some n => (n : Nat)
  | none => -1
def quotedN (s : List UInt8) : Nat := if qIdx (s.drop 1) < 0 then 0 else if s.getD (1 + qIdx (s.drop 1)).toNat 0 = 10 then 0 else (qIdx (s.drop 1) + 2).toNat
def good (s : List UInt8) : Int × Nat :=
  if isSp (s.getD 0 0) then (0, (s.takeWhile isSp).length)
  else if s.getD 0 0 = 35 then (1, (s.takeWhile isLn).length)
  else if isLo (s.getD 0 0) then (if isKw (s.take (s.takeWhile isWd).length) then 7 else 2, (s.takeWhile isWd).length)
  else if isUp (s.getD 0 0) then (3, (s.takeWhile isNm).length)
  else if isDg (s.getD 0 0) then (4, (s.takeWhile isDg).length)
  else if s.getD 0 0 = 34 then (5, quotedN s)
  else (6, symLen s)
/-- From n on, the first place where a good token or a quotation mark stands. -/
def badTo (s : List UInt8) : Nat → Nat → Nat
  | 0, n => n
  | f + 1, n => if n < s.length ∧ s.getD n 0 ≠ 34 ∧ (good (s.drop n)).2 = 0 then badTo s f (n + 1) else n
def next (s : List UInt8) : Int × Nat :=
  if 0 < (good s).2 then good s
  else if s.getD 0 0 = 34 then (8, (s.takeWhile isLn).length)
  else (8, badTo s (s.length - 1) 1)
def single (s : List UInt8) : Int × Bool := if s = [] then (0, false) else ((next s).1, decide ((next s).2 = s.length))
/-! The reference's own words. -/
end Go.Proofs.YtdikgijfekfaoaaGreatDoor
namespace Go.Proofs.YtdikgijfekfaoaaGreatDoor
open Go.Proofs.YtdikgijfekfaoaaGreatDoor.Abs
/-! Symbols. -/
end Go.Proofs.YtdikgijfekfaoaaGreatDoor
