/- Choices, names and places of the reference. No condition. -/
import Derived.Test.YtdikgijfekfaoaaGreatDoorT7
import Derived.Test.YtdikgijfekfaoaaGreatDoorAbsc
set_option linter.all false
set_option linter.unusedSimpArgs false
set_option linter.unusedVariables false
namespace Go.Proofs.YtdikgijfekfaoaaGreatDoor
open Go.Proofs.YtdikgijfekfaoaaGreatDoor.Abs
set_option maxRecDepth 20000
set_option maxHeartbeats 4000000
def aroundI (x m : Int) : Int := if x < 0 then (-(x + 1)).tmod m else x.tmod m
def pickI (l : List Int) (q : Nat) (m : Int) : Int := if q < l.length then aroundI (l.getD q 0) m else 0
def i64L (l : List Int) : Prop := ∀ x ∈ l, -9223372036854775808 ≤ x ∧ x ≤ 9223372036854775807
theorem i64L_at {l : List Int} (h : i64L l) (i : Nat) : -9223372036854775808 ≤ l.getD i 0 ∧ l.getD i 0 ≤ 9223372036854775807 := by
  by_cases hi : i < l.length
  · rw [List.getD_eq_getElem?_getD, List.getElem?_eq_getElem hi]; exact h _ (List.getElem_mem hi)
  · rw [List.getD_eq_getElem?_getD, List.getElem?_eq_none (by omega)]; simp
theorem tmod_bd {x m : Int} (hx : 0 ≤ x) (hm : 0 < m) : 0 ≤ x.tmod m ∧ x.tmod m < m := by
  rw [Int.tmod_eq_emod_of_nonneg hx]; exact ⟨Int.emod_nonneg _ (by omega), Int.emod_lt_of_pos _ hm⟩
theorem aroundI_bd (x m : Int) (hm : 0 < m) : 0 ≤ aroundI x m ∧ aroundI x m < m := by
  unfold aroundI; split
  · exact tmod_bd (by omega) hm
  · exact tmod_bd (by omega) hm
theorem pickI_bd (l : List Int) (q : Nat) (m : Int) (hm : 0 < m) : 0 ≤ pickI l q m ∧ pickI l q m < m := by
  unfold pickI; split
  · exact aroundI_bd _ _ hm
  · omega
theorem pickI_in {l : List Int} {q : Nat} {m : Int} (h : q < l.length) : pickI l q m = aroundI (l.getD q 0) m := by rw [pickI, if_pos h]
theorem pickI_out {l : List Int} {q : Nat} {m : Int} (h : ¬ q < l.length) : pickI l q m = 0 := by rw [pickI, if_neg h]
noncomputable def c43 : Code := bodyOf Tryz.f43
theorem names_spec   : CallsP cx 43 [] (.imm [.str [97], .str [98], .str [99], .str [105, 100]]) := by
 refine func_intro (cx := cx) 2 0 [(ResultVar.tmp 0)] Tryz.func43 rfl rfl rfl rfl rfl (by simp) ?_
 show wpA cx 2 0 (at_ c43 []) _ _ _
 refine wZ [] [] (by kernel_rfl) ?_
 refine wU 1 [] (by kernel_rfl) ?_
 refine wU 2 [(0, .full [.str [97], .str [98], .str [99], .str [105, 100]])] (by kernel_rfl) ?_
 refine wRet (by kernel_rfl) ?_
 refine leafP (l := [.full [.str [97], .str [98], .str [99], .str [105, 100]]]) (.inr rfl) (by kernel_rfl) ?_
 · exact ⟨rfl, rfl⟩
noncomputable def c31 : Code := bodyOf Tryz.f31
theorem around_spec (x m : Int) (hx : -9223372036854775808 ≤ x ∧ x ≤ 9223372036854775807) (hm : 0 < m) : CallsP cx 31 [.int .i64 (x), .int .i64 (m)] (.int .i64 (aroundI x m)) := by
 refine func_intro (cx := cx) 13 0 [(ResultVar.tmp 4)] Tryz.func31 rfl rfl rfl rfl rfl (by simp) ?_
 show wpA cx 13 0 (at_ c31 []) _ _ _
 refine wZ [(0, .int .i64 (x)), (1, .int .i64 (m))] [] (by kernel_rfl) ?_
 refine wU 1 [(0, .int .i64 (x)), (1, .int .i64 (m))] (by kernel_rfl) ?_
 refine wSeq (by kernel_rfl) ?_
 refine wU 2 [(0, .int .i64 (x)), (1, .int .i64 (m)), (6, .bool (decide ((x) < 0)))] (by kernel_rfl) ?_
 by_cases hb1 : (x) < 0
 refine wT (decide_eq_true hb1) (by kernel_rfl) ?_
 refine wOrd (by kernel_rfl) (vstart ?_)
 refine vrun 1 (by kernel_rfl) ?_
 refine vsym (by kernel_rfl) (by kernel_rfl) (o_add (a := (x)) (b := 1) (by kernel_rfl) (by omega) (by omega)) ?_
 refine vsym (by kernel_rfl) (by kernel_rfl) (o_neg (a := ((x) + 1)) (by kernel_rfl) (by omega) (by omega)) ?_
 refine vR 1 [(0, .int .i64 (-((x) + 1))), (1, .int .i64 (m))] [] (by kernel_rfl) ?_
 refine wV 2 (by kernel_rfl) ?_
 refine vsym (by kernel_rfl) (by kernel_rfl) (o_rem (a := (-((x) + 1))) (b := (m)) (by kernel_rfl) (by omega)) ?_
 refine vX 1 (by kernel_rfl) ?_
 refine leafI (n := ((-((x) + 1)).tmod (m))) (.inr rfl) (by kernel_rfl) ?_
 · simp [aroundI, *]
 refine wF (decide_eq_false hb1) (by kernel_rfl) ?_
 refine wK (by kernel_rfl) ?_
 refine wZs [(0, .int .i64 (x)), (1, .int .i64 (m))] (by kernel_rfl) ?_
 refine wV 2 (by kernel_rfl) ?_
 refine vsym (by kernel_rfl) (by kernel_rfl) (o_rem (a := (x)) (b := (m)) (by kernel_rfl) (by omega)) ?_
 refine vX 1 (by kernel_rfl) ?_
 refine leafI (n := ((x).tmod (m))) (.inr rfl) (by kernel_rfl) ?_
 · simp [aroundI, *]
noncomputable def c51 : Code := bodyOf Tryz.f51
theorem pick_spec (l : List Int) (q : Nat) (m : Int) (hl : i64L l) (hm : 0 < m) : CallsP cx 51 [.imm (l.map (AVal.int .i64)), .int .i64 ((q : Nat) : Int), .int .i64 (m)] (.int .i64 (pickI l q m)) := by
 refine func_intro (cx := cx) 21 0 [(ResultVar.tmp 6)] Tryz.func51 rfl rfl rfl rfl rfl (by simp) ?_
 show wpA cx 21 0 (at_ c51 []) _ _ _
 refine wZ [(0, .imm (l.map (AVal.int .i64))), (1, .int .i64 ((q : Nat) : Int)), (2, .int .i64 (m))] [] (by kernel_rfl) ?_
 refine wU 1 [(0, .imm (l.map (AVal.int .i64))), (1, .int .i64 ((q : Nat) : Int)), (2, .int .i64 (m))] (by kernel_rfl) ?_
 refine wSeq (by kernel_rfl) ?_
 refine wV 3 (by kernel_rfl) ?_
 by_cases hb1 : ((q : Nat) : Int) < 0
 refine vs 8 (decide_eq_true hb1) (by kernel_rfl) ?_
 refine vs 9 (decide_eq_true hb1) (by kernel_rfl) ?_
 refine vR 5 [(0, .imm (l.map (AVal.int .i64))), (1, .int .i64 ((q : Nat) : Int)), (2, .int .i64 (m)), (14, .bool true)] [] (by kernel_rfl) ?_
 refine wIfT (by kernel_rfl) (by kernel_rfl) ?_
 refine wV 1 (by kernel_rfl) ?_
 refine vT (by kernel_rfl) ?_
 apply aR
 refine leafI (n := 0) (.inr rfl) (by kernel_rfl) ?_
 rotate_left
 refine vs 8 (decide_eq_false hb1) (by kernel_rfl) ?_
 refine vs 9 (decide_eq_false hb1) (by kernel_rfl) ?_
 refine vrun 2 (by kernel_rfl) ?_
 refine vsym (by kernel_rfl) (by kernel_rfl) (o_lenmap (l := l) (enc := (AVal.int .i64)) (by kernel_rfl) ty26) ?_
 refine vR 2 [(0, .imm (l.map (AVal.int .i64))), (1, .int .i64 ((q : Nat) : Int)), (2, .int .i64 (m)), (14, .bool (decide (((q : Nat) : Int) ≥ ((l.length : Nat) : Int))))] [] (by kernel_rfl) ?_
 by_cases hb2 : ((q : Nat) : Int) ≥ ((l.length : Nat) : Int)
 refine wT (decide_eq_true hb2) (by kernel_rfl) ?_
 refine wV 1 (by kernel_rfl) ?_
 refine vT (by kernel_rfl) ?_
 apply aR
 refine leafI (n := 0) (.inr rfl) (by kernel_rfl) ?_
 rotate_left
 refine wF (decide_eq_false hb2) (by kernel_rfl) ?_
 refine wK (by kernel_rfl) ?_
 refine wZs [(0, .imm (l.map (AVal.int .i64))), (1, .int .i64 ((q : Nat) : Int)), (2, .int .i64 (m))] (by kernel_rfl) ?_
 refine wV 2 (by kernel_rfl) ?_
 refine vsym (by kernel_rfl) (by kernel_rfl) (o_ixmap (k := .i64) (l := l) (enc := (AVal.int .i64)) (i := ((q : Nat) : Int)) 0 (by kernel_rfl) ty26 ty3 (fun _ => rfl) (by first | omega | exact i64L_at hl _ | assumption | decide) (by first | omega | exact i64L_at hl _ | assumption | decide)) ?_
 refine vrun 2 (by kernel_rfl) ?_
 refine vc [.int .i64 ((l.getD q 0)), .int .i64 (m)] (around_spec ((l.getD q 0)) (m) (by first | omega | exact i64L_at hl _ | assumption | decide) (by first | omega | exact i64L_at hl _ | assumption | decide)) (by kernel_rfl) ?_
 refine vX 1 (by kernel_rfl) ?_
 refine leafI (n := (aroundI ((l.getD q 0)) (m))) (.inr rfl) (by kernel_rfl) ?_
 rotate_left
 all_goals
  first | (exfalso; omega) | (rw [pickI_in (by omega)]; done) | (rw [pickI_in (by omega)]; simp; done) | (rw [pickI_out (by omega)]; done)
theorem idxS_le (l : List (List UInt8)) (s : List UInt8) : -1 ≤ idxS l s ∧ idxS l s < (l.length : Nat) ∨ l = [] ∧ idxS l s = -1 := by
  unfold idxS
  split
  · rename_i i hi
    obtain ⟨h1, _⟩ := List.findIdx?_eq_some_iff_getElem.1 hi
    left; omega
  · cases l with
    | nil => right; exact ⟨rfl, rfl⟩
    | cons => left; simp; omega
noncomputable def c52 : Code := bodyOf Tryz.f52
theorem rindex_spec (l : List (List UInt8)) (s : List UInt8) (hn : l.length < 1000000000) : CallsP cx 52 [.imm (l.map AVal.str), .str s] (.int .i64 (idxS l s)) := by
 refine func_intro (cx := cx) 19 0 [(ResultVar.tmp 4)] Tryz.func52 rfl rfl rfl rfl rfl (by simp) ?_
 show wpA cx 19 0 (at_ c52 []) _ _ _
 refine wZ [(0, .imm (l.map AVal.str)), (1, .str s)] [] (by kernel_rfl) ?_
 refine wU 1 [(0, .imm (l.map AVal.str)), (1, .str s)] (by kernel_rfl) ?_
 refine wSeq (by kernel_rfl) ?_
 refine wU 1 [(0, .imm (l.map AVal.str)), (1, .str s), (5, .int .i64 0)] (by kernel_rfl) ?_
 refine wBlock 0 (by kernel_rfl) (by kernel_rfl) ?_
 refine wLoop (σ := Nat) (fun k => [(0, .imm (l.map AVal.str)), (1, .str s), (5, .int .i64 ((k : Nat) : Int))]) (fun k => []) (fun k => k ≤ l.length ∧ ∀ i, i < k → ¬ s = l.getD i []) (fun k => l.length - k) 0 (by kernel_rfl) (by simp) ⟨⟨(by kernel_rfl), (by kernel_rfl), (by kernel_rfl), trivial⟩, by simp [BelL, AVal.bel], by simp, (by kernel_rfl), by simp⟩ ?_
 rintro k ⟨hk, ha⟩
 refine wSeq (by kernel_rfl) ?_
 refine wV 2 (by kernel_rfl) ?_
 refine vsym (by kernel_rfl) (by kernel_rfl) (o_lenmap (l := l) (enc := AVal.str) (by kernel_rfl) ty22) ?_
 refine vR 1 [(0, .imm (l.map AVal.str)), (1, .str s), (5, .int .i64 ((k : Nat) : Int)), (9, .bool (decide (((k : Nat) : Int) < ((l.length : Nat) : Int))))] [] (by kernel_rfl) ?_
 by_cases hb1 : ((k : Nat) : Int) < ((l.length : Nat) : Int)
 refine wT (decide_eq_true hb1) (by kernel_rfl) ?_
 refine wK (by kernel_rfl) ?_
 refine wZs [(0, .imm (l.map AVal.str)), (1, .str s), (5, .int .i64 ((k : Nat) : Int))] (by kernel_rfl) ?_
 refine wSeq (by kernel_rfl) ?_
 refine wBlock 1 (by kernel_rfl) (by kernel_rfl) ?_
 refine wV 2 (by kernel_rfl) ?_
 refine vsym (by kernel_rfl) (by kernel_rfl) (o_ixmap (k := .i64) (l := l) (enc := AVal.str) (i := ((k : Nat) : Int)) [] (by kernel_rfl) ty22 ty9 (fun _ => rfl) (by omega) (by omega)) ?_
 refine vR 3 [(0, .imm (l.map AVal.str)), (1, .str s), (5, .int .i64 ((k : Nat) : Int)), (17, .bool ((l.getD k []) == s))] [] (by kernel_rfl) ?_
 by_cases hb2 : (l.getD k []) = s
 refine wT (beq_iff_eq.2 hb2) (by kernel_rfl) ?_
 refine wV 2 (by kernel_rfl) ?_
 refine vT (by kernel_rfl) ?_
 apply iR
 apply aR
 apply aR
 apply iR
 apply aR
 refine leafI (n := ((k : Nat) : Int)) (.inr rfl) (by kernel_rfl) ?_
 rotate_left
 refine wF (beq_eq_false_iff_ne.2 hb2) (by kernel_rfl) ?_
 refine wSkip (by kernel_rfl) ?_
 refine AIn_normal ?_
 refine AThen_normal ?_
 refine wZs [(0, .imm (l.map AVal.str)), (1, .str s), (5, .int .i64 ((k : Nat) : Int))] (by kernel_rfl) ?_
 refine wOrd (by kernel_rfl) (vstart ?_)
 refine vrun 1 (by kernel_rfl) ?_
 refine vsym (by kernel_rfl) (by kernel_rfl) (o_add (a := ((k : Nat) : Int)) (b := 1) (by kernel_rfl) (by omega) (by omega)) ?_
 refine vrun 1 (by kernel_rfl) ?_
 refine vend (by kernel_rfl) ?_
 refine AThen_normal ⟨k + 1, ?_, ?_, ⟨⟨(by kernel_rfl), (by kernel_rfl), (by kernel_rfl), trivial⟩, by simp [BelL, AVal.bel], by simp, (by kernel_rfl), by simp⟩⟩
 · omega
 · refine ⟨by omega, fun i hi => ?_⟩
   rcases Nat.lt_succ_iff_lt_or_eq.1 hi with h | h
   · exact ha i h
   · subst h; intro hc; exact absurd hc.symm (by assumption)
 refine wF (decide_eq_false hb1) (by kernel_rfl) ?_
 refine wExit 0 (by kernel_rfl) (by kernel_rfl) ?_
 refine AThen_exit ?_
 refine AThen_exit ?_
 refine AIn_exit ?_
 refine AThen_normal ?_
 refine wZs [] (by kernel_rfl) ?_
 refine wV 1 (by kernel_rfl) ?_
 refine vT (by kernel_rfl) ?_
 refine leafI (n := (-1)) (.inr rfl) (by kernel_rfl) ?_
 rotate_left
 all_goals
  first | exact idxS_some (by omega) ha (Eq.symm (by assumption)) | exact idxS_none (fun i hi => ha i (by omega))
end Go.Proofs.YtdikgijfekfaoaaGreatDoor
