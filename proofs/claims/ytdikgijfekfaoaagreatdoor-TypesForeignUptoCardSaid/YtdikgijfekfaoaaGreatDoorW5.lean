/- The plain law of Canonical: both packages answer alike, the answer stays, and no numbering of the variables changes it. No condition. -/
import Derived.Test.YtdikgijfekfaoaaGreatDoorW4
import Derived.Test.YtdikgijfekfaoaaGreatDoorAbsc
set_option linter.all false
set_option linter.unusedSimpArgs false
set_option linter.unusedVariables false
namespace Go.Proofs.YtdikgijfekfaoaaGreatDoor
open Go.Proofs.YtdikgijfekfaoaaGreatDoor.Abs
def occN (t : Ty) : List Int := (occs t).map Occ.n
def occNL (l : List Ty) : List Int := (occsL l).map Occ.n
theorem occNL_cons (t : Ty) (l : List Ty) : occNL (t :: l) = occN t ++ occNL l := by simp only [occNL, occN, occsL, List.map_append]
theorem occN_eq (t : Ty) : occN t = ((if t.kind = 6 then [t.n] else []) ++ occNL t.kids) ++ (if t.kind = 5 ∧ t.n ≠ 0 then [t.n] else []) := by
  unfold occN occNL
  rw [occs_eq, List.map_append, List.map_append]
  congr 1
  · congr 1
    unfold occV; split <;> rfl
  · unfold occR; split <;> rfl
theorem occN_mk (k : Int) (x : List UInt8) (n : Int) (l : List (List UInt8)) (ks : List Ty) : occN (.mk k x n l ks) = ((if k = 6 then [n] else []) ++ occNL ks) ++ (if k = 5 ∧ n ≠ 0 then [n] else []) := occN_eq _
theorem mem_addN {F : List Int} {n m : Int} : m ∈ addN F n ↔ m ∈ F ∨ m = n := by
  unfold addN
  split
  · rename_i h
    rw [List.contains_iff_mem] at h
    exact ⟨.inl, fun h' => h'.elim id (fun e => e ▸ h)⟩
  · simp
theorem mem_fold {m : Int} : ∀ (xs F : List Int), m ∈ xs.foldl addN F ↔ m ∈ F ∨ m ∈ xs
  | [], F => by simp
  | x :: xs, F => by rw [List.foldl_cons, mem_fold xs, mem_addN, List.mem_cons, or_assoc]
end Go.Proofs.YtdikgijfekfaoaaGreatDoor
