/- How great an open type is. No condition. -/
import Derived.Test.YtdikgijfekfaoaaGreatDoorT11
import Derived.Test.YtdikgijfekfaoaaGreatDoorAbsc
set_option linter.all false
set_option linter.unusedSimpArgs false
set_option linter.unusedVariables false
namespace Go.Proofs.YtdikgijfekfaoaaGreatDoor
open Go.Proofs.YtdikgijfekfaoaaGreatDoor.Abs
theorem szL_set (x : Ty) : ∀ (ks : List Ty) (j : Nat), Ty.szL (ks.set j x) ≤ Ty.szL ks + x.sz
  | [], j => by simp [Ty.szL]
  | y :: ks, 0 => by simp only [List.set_cons_zero, Ty.szL]; omega
  | y :: ks, j + 1 => by have := szL_set x ks j; simp only [List.set_cons_succ, Ty.szL]; omega
theorem opF_sz (names : List (List UInt8)) (kid : Nat → Ty) (b : Nat) (hk : ∀ i, (kid i).sz ≤ b) : ∀ f i m ks, Ty.szL (opF names kid f i m ks).2 ≤ Ty.szL ks + f * b
  | 0, i, m, ks => by simp [opF]
  | f + 1, i, m, ks => by
    have e : (f + 1) * b = f * b + b := Nat.succ_mul _ _
    unfold opF
    split
    · have := opF_sz names kid b hk f (i + 1) (2 * m + 1) (ks.set (idxS names (nms.getD i [])).toNat (kid i))
      have h2 := szL_set (kid i) ks (idxS names (nms.getD i [])).toNat
      have h3 := hk i
      omega
    · have := opF_sz names kid b hk f (i + 1) (2 * m) ks
      omega
def bo : Nat → Nat
  | 0 => 30
  | n + 1 => bd (n + 1) + 4 * bo n + 30
theorem openT_sz (l : List Int) : ∀ d q, (openT l d q).sz ≤ bo d
  | 0, q => by
    unfold openT; split
    · simp only [Ty.sz, szS, Ty.szL, List.length_nil, bo]; omega
    · exact Nat.le_trans (closedT_sz l 0 q) (by decide)
  | d + 1, q => by
    have ih := openT_sz l d
    have hc := closedT_sz l (d + 1) q
    have he := sz_eq (closedT l (d + 1) q)
    unfold openT; split
    · simp only [Ty.sz, szS, Ty.szL, List.length_nil, bo]; omega
    · split
      · have := ih (q + 1)
        simp only [Ty.sz, Ty.szL, bo]; omega
      · split
        · have := opF_sz (closedT l (d + 1) q).names (fun i => openT l d (q + 3 + i)) (bo d) (fun i => ih _) 4 0 0 (closedT l (d + 1) q).kids
          simp only [Ty.sz, bo]; omega
        · simp only [bo]; omega
theorem openT_small (l : List Int) (d q : Nat) (h : d ≤ 2) : (openT l d q).sz ≤ 100000 := by
  refine Nat.le_trans (openT_sz l d q) ?_
  match d, h with
  | 0, _ => decide
  | 1, _ => decide
  | 2, _ => decide
end Go.Proofs.YtdikgijfekfaoaaGreatDoor
