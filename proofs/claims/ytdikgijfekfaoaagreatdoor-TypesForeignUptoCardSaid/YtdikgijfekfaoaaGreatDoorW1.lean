/- The numbers of the variables of a type, in both packages. Condition: sizes that can be had. -/
import Derived.Test.YtdikgijfekfaoaaGreatDoorT11
import Derived.Test.YtdikgijfekfaoaaGreatDoorAbse
import Derived.Test.YtdikgijfekfaoaaGreatDoorAbsc
set_option linter.all false
set_option linter.unusedSimpArgs false
set_option linter.unusedVariables false
namespace Go.Proofs.YtdikgijfekfaoaaGreatDoor
open Go.Proofs.YtdikgijfekfaoaaGreatDoor.Abs
set_option maxRecDepth 20000
set_option maxHeartbeats 4000000
def isV (k n : Int) : Bool := decide (k = 6) || (decide (k = 5) && decide (n ≠ 0))
noncomputable def c104 : Code := bodyOf Tryz.f104
theorem vars_any (k n : Int) (x : List UInt8)  : CallsP cx 104 [.agg [.int .i64 (k), .str x, .int .i64 (n), .any, .any]] (.bool (isV k n)) := by
 refine func_intro (cx := cx) 16 0 [(ResultVar.tmp 2)] Tryz.func104 rfl rfl rfl rfl rfl (by simp) ?_
 show wpA cx 16 0 (at_ c104 []) _ _ _
 refine qZ [(0, .agg [.int .i64 (k), .str x, .int .i64 (n), .any, .any])] [] ?_ ?_
 refine qW 2 [(1, .ptr 0 0)] [.box [.int .i64 (k), .str x, .int .i64 (n), .any, .any]] ?_ ?_
 refine qV 4 ?_ ?_
 by_cases hb1 : (k) = 6
 refine qm [5, 6] (beq_iff_eq.2 hb1) ?_ ?_
 refine qX 10 ?_ ?_
 refine leafB (b := true) (.inr rfl) (by kernel_rfl) ?_
 · simp [isV, *]
 iterate 2 kernel_rfl
 refine qm [5, 6] (beq_eq_false_iff_ne.2 hb1) ?_ ?_
 refine qr 4 ?_ ?_
 by_cases hb2 : (k) = 5
 refine qm [9, 10] (beq_iff_eq.2 hb2) ?_ ?_
 refine qX 6 ?_ ?_
 refine leafB (b := ((n) != 0)) (.inr rfl) (by kernel_rfl) ?_
 by_cases hb3 : (n) = 0
 refine Eq.trans (bne_eq_false_iff_eq.2 hb3) ?_
 · simp [isV, *]
 refine Eq.trans (bne_iff_ne.2 hb3) ?_
 · simp [isV, *]
 iterate 2 kernel_rfl
 refine qm [9, 10] (beq_eq_false_iff_ne.2 hb2) ?_ ?_
 refine qX 6 ?_ ?_
 refine leafB (b := false) (.inr rfl) (by kernel_rfl) ?_
 · simp [isV, *]
 iterate 7 kernel_rfl
theorem has_yes {l : List Int} {n : Int} {k : Nat} (hk : k < l.length) (h : l.getD k 0 = n) : l.contains n = true := by
  rw [List.contains_iff_mem, ← h, List.getD_eq_getElem?_getD, List.getElem?_eq_getElem hk]; exact List.getElem_mem hk
theorem has_no {l : List Int} {n : Int} (ha : ∀ i, i < l.length → ¬ l.getD i 0 = n) : l.contains n = false := by
  rw [Bool.eq_false_iff, Ne, List.contains_iff_mem]
  intro hm
  obtain ⟨i, hi, e⟩ := List.getElem_of_mem hm
  exact ha i hi (by rw [List.getD_eq_getElem?_getD, List.getElem?_eq_getElem hi]; exact e)
noncomputable def c79 : Code := bodyOf Tryz.f79
theorem hasR_spec (l : List Int) (n : Int) (hn : l.length < 1000000000) : CallsP cx 79 [.imm (l.map (AVal.int .i64)), .int .i64 (n)] (.bool (l.contains n)) := by
 refine func_intro (cx := cx) 18 0 [(ResultVar.tmp 4)] Tryz.func79 rfl rfl rfl rfl rfl (by simp) ?_
 show wpA cx 18 0 (at_ c79 []) _ _ _
 refine qZ [(0, .imm (l.map (AVal.int .i64))), (1, .int .i64 (n))] [] ?_ ?_
 refine qU 1 [(0, .imm (l.map (AVal.int .i64))), (1, .int .i64 (n))] ?_ ?_
 refine qSeq ?_ ?_
 refine qU 1 [(0, .imm (l.map (AVal.int .i64))), (1, .int .i64 (n)), (5, .int .i64 0)] ?_ ?_
 refine qB 0 ?_ ?_ ?_
 refine wLoop (σ := Nat) (fun k => [(0, .imm (l.map (AVal.int .i64))), (1, .int .i64 (n)), (5, .int .i64 ((k : Nat) : Int))]) (fun k => []) (fun k => k ≤ l.length ∧ ∀ i, i < k → ¬ l.getD i 0 = n) (fun k => l.length - k) 0 (by kernel_rfl) (by simp) ⟨⟨(by kernel_rfl), (by kernel_rfl), (by kernel_rfl), trivial⟩, by simp [BelL, AVal.bel], by simp, (by kernel_rfl), by simp⟩ ?_
 rintro k ⟨hk, ha⟩
 refine qSeq ?_ ?_
 refine qV 2 ?_ ?_
 refine qy (o_lenmap (l := l) (enc := (AVal.int .i64)) (by kernel_rfl) ty26) ?_ ?_ ?_
 refine qR 1 [(0, .imm (l.map (AVal.int .i64))), (1, .int .i64 (n)), (5, nI k), (9, .bool (decide (((k : Nat) : Int) < ((l.length : Nat) : Int))))] [] ?_ ?_
 by_cases hb1 : ((k : Nat) : Int) < ((l.length : Nat) : Int)
 refine qt (decide_eq_true hb1) ?_ ?_
 refine qK ?_ ?_
 refine qz [(0, .imm (l.map (AVal.int .i64))), (1, .int .i64 (n)), (5, nI k)] ?_ ?_
 refine qSeq ?_ ?_
 refine qB 1 ?_ ?_ ?_
 refine qV 2 ?_ ?_
 refine qy (o_ixmap (k := .i64) (l := l) (enc := (AVal.int .i64)) (i := ((k : Nat) : Int)) 0 (by kernel_rfl) ty26 ty3 (fun _ => rfl) (by omega) (by omega)) ?_ ?_ ?_
 refine qR 3 [(0, .imm (l.map (AVal.int .i64))), (1, .int .i64 (n)), (5, nI k), (17, .bool (((l.getD k 0)) == (n)))] [] ?_ ?_
 by_cases hb2 : ((l.getD k 0)) = (n)
 refine qt (beq_iff_eq.2 hb2) ?_ ?_
 refine qV 1 ?_ ?_
 refine qT ?_ ?_
 apply iR
 apply aR
 apply aR
 apply iR
 apply aR
 refine leafB (b := true) (.inr rfl) (by kernel_rfl) ?_
 rotate_left
 iterate 3 kernel_rfl
 refine qf (beq_eq_false_iff_ne.2 hb2) ?_ ?_
 refine qk ?_ ?_
 refine AIn_normal ?_
 refine AThen_normal ?_
 refine qz [(0, .imm (l.map (AVal.int .i64))), (1, .int .i64 (n)), (5, nI k)] ?_ ?_
 refine qo ?_ ?_
 refine qr 1 ?_ ?_
 refine qy (o_add (a := ((k : Nat) : Int)) (b := 1) (by kernel_rfl) (by omega) (by omega)) ?_ ?_ ?_
 refine qr 1 ?_ ?_
 refine qe ?_ ?_
 refine AThen_normal ⟨k + 1, ?_, ?_, ⟨⟨(by kernel_rfl), (by kernel_rfl), (by kernel_rfl), trivial⟩, by simp [BelL, AVal.bel], by simp, (by kernel_rfl), by simp⟩⟩
 · omega
 · refine ⟨by omega, fun i hi => ?_⟩
   rcases Nat.lt_succ_iff_lt_or_eq.1 hi with h | h
   · exact ha i h
   · subst h; assumption
 iterate 19 kernel_rfl
 refine qf (decide_eq_false hb1) ?_ ?_
 refine wExit 0 (by kernel_rfl) (by kernel_rfl) ?_
 refine AThen_exit ?_
 refine AThen_exit ?_
 refine AIn_exit ?_
 refine AThen_normal ?_
 refine qz [] ?_ ?_
 refine qV 1 ?_ ?_
 refine qT ?_ ?_
 refine leafB (b := false) (.inr rfl) (by kernel_rfl) ?_
 rotate_left
 iterate 15 kernel_rfl
 all_goals
  first | exact (has_yes (k := k) (by omega) (by assumption)).symm | exact (has_no (fun i hi => ha i (by omega))).symm
def addN (l : List Int) (n : Int) : List Int := if l.contains n then l else l ++ [n]
def visN (l : List Int) (t : Ty) : List Int := ((occs t).map Occ.n).foldl addN l
theorem addN_len (l : List Int) (n : Int) : (addN l n).length ≤ l.length + 1 := by unfold addN; split <;> simp
theorem foldN_len : ∀ (xs l : List Int), (xs.foldl addN l).length ≤ l.length + xs.length
  | [], l => by simp
  | x :: xs, l => by have := foldN_len xs (addN l x); have := addN_len l x; simp only [List.foldl_cons, List.length_cons]; omega
theorem visN_len (l : List Int) (t : Ty) : (visN l t).length ≤ l.length + t.sz := by
  have := foldN_len ((occs t).map Occ.n) l; have := occs_len t; rw [List.length_map] at *; unfold visN; omega
end Go.Proofs.YtdikgijfekfaoaaGreatDoor
