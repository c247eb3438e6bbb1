/- Around and Pick. No condition but a positive bound. -/
import Derived.Test.YtindpcpdkikdmaaGreatDoorCD
set_option linter.all false
namespace Go.Proofs.YtindpcpdkikdmaaGreatDoor
open Go.Proofs.YtindpcpdkikdmaaGreatDoor.Abs
set_option maxRecDepth 20000
set_option maxHeartbeats 4000000
def aroundI (x m : Int) : Int := if x < 0 then (-(x + 1)).tmod m else x.tmod m
def pickI (l : List Int) (q : Nat) (m : Int) : Int := if q < l.length then aroundI (l.getD q 0) m else 0
def i64L (l : List Int) : Prop := ∀ x ∈ l, -9223372036854775808 ≤ x ∧ x ≤ 9223372036854775807
theorem i64L_at {l : List Int} (h : i64L l) (i : Nat) : -9223372036854775808 ≤ l.getD i 0 ∧ l.getD i 0 ≤ 9223372036854775807 := by
  by_cases hi : i < l.length
  · rw [List.getD_eq_getElem?_getD, List.getElem?_eq_getElem hi]; exact h _ (List.getElem_mem hi)
  · rw [List.getD_eq_getElem?_getD, List.getElem?_eq_none (by omega)]; simp
theorem tmod_bd {x m : Int} (hx : 0 ≤ x) (hm : 0 < m) : 0 ≤ x.tmod m ∧ x.tmod m < m := by
  rw [Int.tmod_eq_emod_of_nonneg hx]; exact ⟨Int.emod_nonneg _ (by omega), Int.emod_lt_of_pos _ hm⟩
theorem aroundI_bd (x m : Int) (hm : 0 < m) : 0 ≤ aroundI x m ∧ aroundI x m < m := by
  unfold aroundI; split
  · exact tmod_bd (by omega) hm
  · exact tmod_bd (by omega) hm
theorem pickI_bd (l : List Int) (q : Nat) (m : Int) (hm : 0 < m) : 0 ≤ pickI l q m ∧ pickI l q m < m := by
  unfold pickI; split
  · exact aroundI_bd _ _ hm
  · omega
theorem pickI_in {l : List Int} {q : Nat} {m : Int} (h : q < l.length) : pickI l q m = aroundI (l.getD q 0) m := by rw [pickI, if_pos h]
theorem pickI_out {l : List Int} {q : Nat} {m : Int} (h : ¬ q < l.length) : pickI l q m = 0 := by rw [pickI, if_neg h]
noncomputable def c57 : Code := bodyOf Tryz.f57
theorem around_spec (x m : Int) (hx : -9223372036854775808 ≤ x ∧ x ≤ 9223372036854775807) (hm : 0 < m) : CallsP cx 57 [.int .i64 (x), .int .i64 (m)] (.int .i64 (aroundI x m)) := by
 refine func_intro (cx := cx) 13 0 [(ResultVar.tmp 4)] Tryz.func57 rfl rfl rfl rfl rfl (by simp) ?_
 show wpA cx 13 0 (at_ c57 []) _ _ _
 refine qZ [(0, .int .i64 (x)), (1, .int .i64 (m))] [] ?_ ?_
 refine qU 1 [(0, .int .i64 (x)), (1, .int .i64 (m))] ?_ ?_
 refine qSeq ?_ ?_
 refine qU 2 [(0, .int .i64 (x)), (1, .int .i64 (m)), (6, .bool (decide ((x) < 0)))] ?_ ?_
 by_cases hb1 : (x) < 0
 refine qt (decide_eq_true hb1) ?_ ?_
 refine qo ?_ ?_
 refine qr 1 ?_ ?_
 refine qy (o_add (a := (x)) (b := 1) (by kernel_rfl) (by omega) (by omega)) ?_ ?_ ?_
 refine qy (o_neg (a := ((x) + 1)) (by kernel_rfl) (by omega) (by omega)) ?_ ?_ ?_
 refine qR 1 [(0, .int .i64 (-((x) + 1))), (1, .int .i64 (m))] [] ?_ ?_
 refine qV 2 ?_ ?_
 refine qy (o_rem (a := (-((x) + 1))) (b := (m)) (by kernel_rfl) (by omega)) ?_ ?_ ?_
 refine qX 1 ?_ ?_
 refine leafI (n := ((-((x) + 1)).tmod (m))) (.inr rfl) (by kernel_rfl) ?_
 · simp [aroundI, *]
 iterate 12 kernel_rfl
 refine qf (decide_eq_false hb1) ?_ ?_
 refine qK ?_ ?_
 refine qz [(0, .int .i64 (x)), (1, .int .i64 (m))] ?_ ?_
 refine qV 2 ?_ ?_
 refine qy (o_rem (a := (x)) (b := (m)) (by kernel_rfl) (by omega)) ?_ ?_ ?_
 refine qX 1 ?_ ?_
 refine leafI (n := ((x).tmod (m))) (.inr rfl) (by kernel_rfl) ?_
 · simp [aroundI, *]
 iterate 11 kernel_rfl
noncomputable def c21 : Code := bodyOf Tryz.f21
theorem pick_spec (l : List Int) (q : Nat) (m : Int) (hl : i64L l) (hm : 0 < m) : CallsP cx 21 [.imm (l.map (AVal.int .i64)), .int .i64 ((q : Nat) : Int), .int .i64 (m)] (.int .i64 (pickI l q m)) := by
 refine func_intro (cx := cx) 21 0 [(ResultVar.tmp 6)] Tryz.func21 rfl rfl rfl rfl rfl (by simp) ?_
 show wpA cx 21 0 (at_ c21 []) _ _ _
 refine qZ [(0, .imm (l.map (AVal.int .i64))), (1, nI q), (2, .int .i64 (m))] [] ?_ ?_
 refine qU 1 [(0, .imm (l.map (AVal.int .i64))), (1, nI q), (2, .int .i64 (m))] ?_ ?_
 refine qSeq ?_ ?_
 refine qV 3 ?_ ?_
 by_cases hb1 : ((q : Nat) : Int) < 0
 refine qm [8, 9] (decide_eq_true hb1) ?_ ?_
 refine qR 5 [(0, .imm (l.map (AVal.int .i64))), (1, nI q), (2, .int .i64 (m)), (14, .bool true)] [] ?_ ?_
 refine wIfT (by kernel_rfl) (by kernel_rfl) ?_
 refine qV 1 ?_ ?_
 refine qT ?_ ?_
 apply aR
 refine leafI (n := 0) (.inr rfl) (by kernel_rfl) ?_
 rotate_left
 iterate 4 kernel_rfl
 refine qm [8, 9] (decide_eq_false hb1) ?_ ?_
 refine qr 2 ?_ ?_
 refine qy (o_lenmap (l := l) (enc := (AVal.int .i64)) (by kernel_rfl) ty22) ?_ ?_ ?_
 refine qR 2 [(0, .imm (l.map (AVal.int .i64))), (1, nI q), (2, .int .i64 (m)), (14, .bool (decide (((q : Nat) : Int) ≥ ((l.length : Nat) : Int))))] [] ?_ ?_
 by_cases hb2 : ((q : Nat) : Int) ≥ ((l.length : Nat) : Int)
 refine qt (decide_eq_true hb2) ?_ ?_
 refine qV 1 ?_ ?_
 refine qT ?_ ?_
 apply aR
 refine leafI (n := 0) (.inr rfl) (by kernel_rfl) ?_
 rotate_left
 iterate 3 kernel_rfl
 refine qf (decide_eq_false hb2) ?_ ?_
 refine qK ?_ ?_
 refine qz [(0, .imm (l.map (AVal.int .i64))), (1, nI q), (2, .int .i64 (m))] ?_ ?_
 refine qV 2 ?_ ?_
 refine qy (o_ixmap (k := .i64) (l := l) (enc := (AVal.int .i64)) (i := ((q : Nat) : Int)) 0 (by kernel_rfl) ty22 ty3 (fun _ => rfl) (by first | omega | exact i64L_at hl _ | assumption | decide) (by first | omega | exact i64L_at hl _ | assumption | decide)) ?_ ?_ ?_
 refine qr 2 ?_ ?_
 refine qc [.int .i64 ((l.getD q 0)), .int .i64 (m)] (around_spec ((l.getD q 0)) (m) (by first | omega | exact i64L_at hl _ | assumption | decide) (by first | omega | exact i64L_at hl _ | assumption | decide)) ?_ ?_
 refine qX 1 ?_ ?_
 refine leafI (n := (aroundI ((l.getD q 0)) (m))) (.inr rfl) (by kernel_rfl) ?_
 rotate_left
 iterate 18 kernel_rfl
 all_goals
  first | (exfalso; omega) | (rw [pickI_in (by omega)]; done) | (rw [pickI_in (by omega)]; simp; done) | (rw [pickI_out (by omega)]; done)
end Go.Proofs.YtindpcpdkikdmaaGreatDoor
