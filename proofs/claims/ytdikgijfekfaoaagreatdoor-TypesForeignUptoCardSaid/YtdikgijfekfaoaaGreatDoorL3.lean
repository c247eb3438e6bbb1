/- The reference's lexer: the walk. No condition. -/
import Derived.Test.YtdikgijfekfaoaaGreatDoorL2
import Derived.Test.YtdikgijfekfaoaaGreatDoorTy
import Derived.Test.YtdikgijfekfaoaaGreatDoorAbsc
set_option linter.all false
set_option linter.unusedSimpArgs false
set_option linter.unusedVariables false
namespace Go.Proofs.YtdikgijfekfaoaaGreatDoor
open Go.Proofs.YtdikgijfekfaoaaGreatDoor.Abs
set_option maxRecDepth 20000
set_option maxHeartbeats 4000000
noncomputable def c208 : Code := bodyOf Tryz.f208
theorem tw_drop (p : UInt8 → Bool) (s : List UInt8) (q : Nat) (h : q ≤ s.length) : q + ((s.drop q).takeWhile p).length ≤ s.length := by
  have := tw_le p (s.drop q)
  simp only [List.length_drop] at this
  omega
theorem rkeywords_spec   : CallsP cx 208 [] (.imm (rkws.map AVal.str)) := by
 refine func_intro (cx := cx) 2 0 [(ResultVar.tmp 0)] Tryz.func208 rfl rfl rfl rfl rfl (by simp) ?_
 show wpA cx 2 0 (at_ c208 []) _ _ _
 refine qZ [] [] ?_ ?_
 refine qU 1 [] ?_ ?_
 refine qU 2 [(0, .full [.str [116, 121, 112, 101], .str [116, 97, 98, 108, 101], .str [107, 101, 121], .str [114, 101, 102], .str [116, 111], .str [99, 104, 101, 99, 107], .str [102, 117, 110], .str [112, 114, 111, 99], .str [108, 101, 116], .str [105, 110], .str [105, 102], .str [116, 104, 101, 110], .str [101, 108, 115, 101], .str [109, 97, 116, 99, 104], .str [105, 110, 115, 101, 114, 116], .str [100, 101, 108, 101, 116, 101], .str [97, 115], .str [119, 104, 101, 114, 101], .str [117, 112, 100, 97, 116, 101], .str [115, 101, 116], .str [119, 105, 116, 104], .str [97, 110, 100], .str [111, 114], .str [110, 111, 116], .str [116, 114, 117, 101], .str [102, 97, 108, 115, 101]])] ?_ ?_
 refine wRet (by kernel_rfl) ?_
 refine leafP (l := [.full [.str [116, 121, 112, 101], .str [116, 97, 98, 108, 101], .str [107, 101, 121], .str [114, 101, 102], .str [116, 111], .str [99, 104, 101, 99, 107], .str [102, 117, 110], .str [112, 114, 111, 99], .str [108, 101, 116], .str [105, 110], .str [105, 102], .str [116, 104, 101, 110], .str [101, 108, 115, 101], .str [109, 97, 116, 99, 104], .str [105, 110, 115, 101, 114, 116], .str [100, 101, 108, 101, 116, 101], .str [97, 115], .str [119, 104, 101, 114, 101], .str [117, 112, 100, 97, 116, 101], .str [115, 101, 116], .str [119, 105, 116, 104], .str [97, 110, 100], .str [111, 114], .str [110, 111, 116], .str [116, 114, 117, 101], .str [102, 97, 108, 115, 101]]]) (.inr rfl) (by kernel_rfl) ?_
 · exact ⟨by kernel_rfl, by kernel_rfl⟩
 iterate 3 kernel_rfl
noncomputable def c209 : Code := bodyOf Tryz.f209
theorem rsymbols_spec   : CallsP cx 209 [] (.imm (syms.map AVal.str)) := by
 refine func_intro (cx := cx) 2 0 [(ResultVar.tmp 0)] Tryz.func209 rfl rfl rfl rfl rfl (by simp) ?_
 show wpA cx 2 0 (at_ c209 []) _ _ _
 refine qZ [] [] ?_ ?_
 refine qU 1 [] ?_ ?_
 refine qU 2 [(0, .full syCells)] ?_ ?_
 refine wRet (by kernel_rfl) ?_
 refine leafP (l := [.full syCells]) (.inr rfl) (by kernel_rfl) ?_
 · exact ⟨by kernel_rfl, by kernel_rfl⟩
 iterate 3 kernel_rfl
theorem contains_at {l : List (List UInt8)} {s : List UInt8} {k : Nat} (hk : k < l.length) (h : l.getD k [] = s) : true = l.contains s := by
  symm; rw [List.contains_iff_mem, ← h, List.getD_eq_getElem?_getD, List.getElem?_eq_getElem hk]; exact List.getElem_mem hk
theorem contains_not {l : List (List UInt8)} {s : List UInt8} (h : ∀ i, i < l.length → ¬ l.getD i [] = s) : false = l.contains s := by
  symm
  rw [Bool.eq_false_iff]
  intro hc
  rw [List.contains_iff_mem] at hc
  obtain ⟨i, hi, rfl⟩ := List.getElem_of_mem hc
  exact h i hi (by rw [List.getD_eq_getElem?_getD, List.getElem?_eq_getElem hi]; rfl)
noncomputable def c207 : Code := bodyOf Tryz.f207
theorem has_spec (l : List (List UInt8)) (s : List UInt8) (hn : l.length < 1000000) : CallsP cx 207 [.imm (l.map AVal.str), .str s] (.bool (l.contains s)) := by
 refine func_intro (cx := cx) 18 0 [(ResultVar.tmp 4)] Tryz.func207 rfl rfl rfl rfl rfl (by simp) ?_
 show wpA cx 18 0 (at_ c207 []) _ _ _
 refine qZ [(0, .imm (l.map AVal.str)), (1, .str s)] [] ?_ ?_
 refine qU 1 [(0, .imm (l.map AVal.str)), (1, .str s)] ?_ ?_
 refine qSeq ?_ ?_
 refine qU 1 [(0, .imm (l.map AVal.str)), (1, .str s), (5, .int .i64 0)] ?_ ?_
 refine qB 0 ?_ ?_ ?_
 refine wLoop (σ := Nat) (fun k => [(0, .imm (l.map AVal.str)), (1, .str s), (5, .int .i64 ((k : Nat) : Int))]) (fun k => []) (fun k => k ≤ l.length ∧ ∀ i, i < k → ¬ l.getD i [] = s) (fun k => l.length - k) 0 (by kernel_rfl) (by simp) ⟨⟨(by kernel_rfl), (by kernel_rfl), (by kernel_rfl), trivial⟩, by simp [BelL, AVal.bel], by simp, (by kernel_rfl), by simp⟩ ?_
 rintro k ⟨hk, ha⟩
 refine qSeq ?_ ?_
 refine qV 2 ?_ ?_
 refine qy (o_lenmap (l := l) (enc := AVal.str) (by kernel_rfl) ty22) ?_ ?_ ?_
 refine qR 1 [(0, .imm (l.map AVal.str)), (1, .str s), (5, nI k), (9, .bool (decide (((k : Nat) : Int) < ((l.length : Nat) : Int))))] [] ?_ ?_
 by_cases hb1 : ((k : Nat) : Int) < ((l.length : Nat) : Int)
 refine qt (decide_eq_true hb1) ?_ ?_
 refine qK ?_ ?_
 refine qz [(0, .imm (l.map AVal.str)), (1, .str s), (5, nI k)] ?_ ?_
 refine qSeq ?_ ?_
 refine qB 1 ?_ ?_ ?_
 refine qV 2 ?_ ?_
 refine qy (o_ixmap (k := .i64) (l := l) (enc := AVal.str) (i := ((k : Nat) : Int)) [] (by kernel_rfl) ty22 ty9 (fun _ => rfl) (by omega) (by omega)) ?_ ?_ ?_
 refine qR 3 [(0, .imm (l.map AVal.str)), (1, .str s), (5, nI k), (17, .bool ((l.getD k []) == s))] [] ?_ ?_
 by_cases hb2 : (l.getD k []) = s
 refine qt (beq_iff_eq.2 hb2) ?_ ?_
 refine qV 1 ?_ ?_
 refine qT ?_ ?_
 apply iR
 apply aR
 apply aR
 apply iR
 apply aR
 refine leafB (b := true) (.inr rfl) (by kernel_rfl) ?_
 rotate_left
 iterate 3 kernel_rfl
 refine qf (beq_eq_false_iff_ne.2 hb2) ?_ ?_
 refine qk ?_ ?_
 refine AIn_normal ?_
 refine AThen_normal ?_
 refine qz [(0, .imm (l.map AVal.str)), (1, .str s), (5, nI k)] ?_ ?_
 refine qo ?_ ?_
 refine qr 1 ?_ ?_
 refine qy (o_add (a := ((k : Nat) : Int)) (b := 1) (by kernel_rfl) (by omega) (by omega)) ?_ ?_ ?_
 refine qr 1 ?_ ?_
 refine qe ?_ ?_
 refine AThen_normal ⟨k + 1, ?_, ?_, ⟨⟨(by kernel_rfl), (by kernel_rfl), (by kernel_rfl), trivial⟩, by simp [BelL, AVal.bel], by simp, (by kernel_rfl), by simp⟩⟩
 · omega
 · refine ⟨by omega, fun i hi => ?_⟩
   rcases Nat.lt_succ_iff_lt_or_eq.1 hi with h | h
   · exact ha i h
   · subst h; assumption
 iterate 19 kernel_rfl
 refine qf (decide_eq_false hb1) ?_ ?_
 refine wExit 0 (by kernel_rfl) (by kernel_rfl) ?_
 refine AThen_exit ?_
 refine AThen_exit ?_
 refine AIn_exit ?_
 refine AThen_normal ?_
 refine qz [] ?_ ?_
 refine qV 1 ?_ ?_
 refine qT ?_ ?_
 refine leafB (b := false) (.inr rfl) (by kernel_rfl) ?_
 rotate_left
 iterate 15 kernel_rfl
 all_goals
  first | exact contains_at (k := k) (by omega) (by assumption) | exact contains_not (fun i hi => ha i (by omega))
noncomputable def c192 : Code := bodyOf Tryz.f192
theorem rkeyword_spec (s : List UInt8)  : CallsP cx 192 [.str s] (.bool (isKw s)) := by
 refine func_intro (cx := cx) 6 0 [(ResultVar.tmp 2)] Tryz.func192 rfl rfl rfl rfl rfl (by simp) ?_
 show wpA cx 6 0 (at_ c192 []) _ _ _
 refine qZ [(0, .str s)] [] ?_ ?_
 refine qU 1 [(0, .str s)] ?_ ?_
 refine qO ?_ ?_
 refine qc [] (rkeywords_spec) ?_ ?_
 refine qr 1 ?_ ?_
 refine vcallP (args := [.imm (rkws.map AVal.str), .str s]) (by kernel_rfl) (by kernel_rfl) (by kernel_rfl) (by kernel_rfl) (has_spec rkws s ((by decide))) (by simp) (by simp) (by simp) ?_
 refine qX 1 ?_ ?_
 refine leafB (b := (rkws.contains s)) (.inr rfl) (by kernel_rfl) ?_
 · exact rkws_contains s
 iterate 6 kernel_rfl
noncomputable def c191 : Code := bodyOf Tryz.f191
theorem class_spec (c : UInt8)  : CallsP cx 191 [.int .u8 (((c : UInt8).toNat : Nat) : Int)] (.int .i64 (cls c)) := by
 refine func_intro (cx := cx) 37 0 [(ResultVar.tmp 2)] Tryz.func191 rfl rfl rfl rfl rfl (by simp) ?_
 show wpA cx 37 0 (at_ c191 []) _ _ _
 refine qZ [(0, .int .u8 (((c : UInt8).toNat : Nat) : Int))] [] ?_ ?_
 refine qU 1 [(0, .int .u8 (((c : UInt8).toNat : Nat) : Int))] ?_ ?_
 refine qSeq ?_ ?_
 refine qV 3 ?_ ?_
 by_cases hb1 : c = (9 : UInt8)
 refine qm [4, 5] (x := ((((c : UInt8).toNat : Nat) : Int) == 9)) (u8t_eql (a := c) (b := (9 : UInt8)) (by kernel_rfl) (by kernel_rfl) hb1) ?_ ?_
 refine qR 11 [(0, .int .u8 (((c : UInt8).toNat : Nat) : Int)), (16, .bool true)] [] ?_ ?_
 refine wIfT (by kernel_rfl) (by kernel_rfl) ?_
 refine qV 1 ?_ ?_
 refine qT ?_ ?_
 apply aR
 refine leafI (n := 0) (.inr rfl) (by kernel_rfl) ?_
 rotate_left
 iterate 4 kernel_rfl
 refine qm [4, 5] (x := ((((c : UInt8).toNat : Nat) : Int) == 9)) (u8f_eql (a := c) (b := (9 : UInt8)) (by kernel_rfl) (by kernel_rfl) hb1) ?_ ?_
 refine qr 4 ?_ ?_
 by_cases hb2 : c = (10 : UInt8)
 refine qm [7, 8, 9] (x := ((((c : UInt8).toNat : Nat) : Int) == 10)) (u8t_eql (a := c) (b := (10 : UInt8)) (by kernel_rfl) (by kernel_rfl) hb2) ?_ ?_
 refine qR 7 [(0, .int .u8 (((c : UInt8).toNat : Nat) : Int)), (16, .bool true)] [] ?_ ?_
 refine wIfT (by kernel_rfl) (by kernel_rfl) ?_
 refine qV 1 ?_ ?_
 refine qT ?_ ?_
 apply aR
 refine leafI (n := 0) (.inr rfl) (by kernel_rfl) ?_
 rotate_left
 iterate 4 kernel_rfl
 refine qm [7, 8, 9] (x := ((((c : UInt8).toNat : Nat) : Int) == 10)) (u8f_eql (a := c) (b := (10 : UInt8)) (by kernel_rfl) (by kernel_rfl) hb2) ?_ ?_
 refine qr 4 ?_ ?_
 by_cases hb3 : c = (13 : UInt8)
 refine qm [11, 12, 13] (x := ((((c : UInt8).toNat : Nat) : Int) == 13)) (u8t_eql (a := c) (b := (13 : UInt8)) (by kernel_rfl) (by kernel_rfl) hb3) ?_ ?_
 refine qR 3 [(0, .int .u8 (((c : UInt8).toNat : Nat) : Int)), (16, .bool true)] [] ?_ ?_
 refine wIfT (by kernel_rfl) (by kernel_rfl) ?_
 refine qV 1 ?_ ?_
 refine qT ?_ ?_
 apply aR
 refine leafI (n := 0) (.inr rfl) (by kernel_rfl) ?_
 rotate_left
 iterate 4 kernel_rfl
 refine qm [11, 12, 13] (x := ((((c : UInt8).toNat : Nat) : Int) == 13)) (u8f_eql (a := c) (b := (13 : UInt8)) (by kernel_rfl) (by kernel_rfl) hb3) ?_ ?_
 refine qR 3 [(0, .int .u8 (((c : UInt8).toNat : Nat) : Int)), (16, .bool ((((c : UInt8).toNat : Nat) : Int) == 32))] [] ?_ ?_
 by_cases hb4 : c = (32 : UInt8)
 refine qt (x := ((((c : UInt8).toNat : Nat) : Int) == 32)) (u8t_eql (a := c) (b := (32 : UInt8)) (by kernel_rfl) (by kernel_rfl) hb4) ?_ ?_
 refine qV 1 ?_ ?_
 refine qT ?_ ?_
 apply aR
 refine leafI (n := 0) (.inr rfl) (by kernel_rfl) ?_
 rotate_left
 iterate 3 kernel_rfl
 refine qf (x := ((((c : UInt8).toNat : Nat) : Int) == 32)) (u8f_eql (a := c) (b := (32 : UInt8)) (by kernel_rfl) (by kernel_rfl) hb4) ?_ ?_
 refine qK ?_ ?_
 refine qz [(0, .int .u8 (((c : UInt8).toNat : Nat) : Int))] ?_ ?_
 refine qSeq ?_ ?_
 refine qV 3 ?_ ?_
 by_cases hb5 : (97 : UInt8) ≤ c
 refine qm [18, 19] (x := (decide ((((c : UInt8).toNat : Nat) : Int) ≥ 97))) (u8t_geq (a := c) (b := (97 : UInt8)) (by kernel_rfl) (by kernel_rfl) hb5) ?_ ?_
 refine qR 3 [(0, .int .u8 (((c : UInt8).toNat : Nat) : Int)), (22, .bool (decide ((((c : UInt8).toNat : Nat) : Int) ≤ 122)))] [] ?_ ?_
 by_cases hb6 : c ≤ (122 : UInt8)
 refine qt (x := (decide ((((c : UInt8).toNat : Nat) : Int) ≤ 122))) (u8t_leq (a := c) (b := (122 : UInt8)) (by kernel_rfl) (by kernel_rfl) hb6) ?_ ?_
 refine qV 1 ?_ ?_
 refine qT ?_ ?_
 apply aR
 refine leafI (n := 1) (.inr rfl) (by kernel_rfl) ?_
 rotate_left
 iterate 3 kernel_rfl
 refine qf (x := (decide ((((c : UInt8).toNat : Nat) : Int) ≤ 122))) (u8f_leq (a := c) (b := (122 : UInt8)) (by kernel_rfl) (by kernel_rfl) hb6) ?_ ?_
 refine qK ?_ ?_
 refine qz [(0, .int .u8 (((c : UInt8).toNat : Nat) : Int))] ?_ ?_
 refine qSeq ?_ ?_
 refine qV 3 ?_ ?_
 by_cases hb7 : (65 : UInt8) ≤ c
 refine qm [24, 25] (x := (decide ((((c : UInt8).toNat : Nat) : Int) ≥ 65))) (u8t_geq (a := c) (b := (65 : UInt8)) (by kernel_rfl) (by kernel_rfl) hb7) ?_ ?_
 refine qR 3 [(0, .int .u8 (((c : UInt8).toNat : Nat) : Int)), (28, .bool (decide ((((c : UInt8).toNat : Nat) : Int) ≤ 90)))] [] ?_ ?_
 by_cases hb8 : c ≤ (90 : UInt8)
 refine qt (x := (decide ((((c : UInt8).toNat : Nat) : Int) ≤ 90))) (u8t_leq (a := c) (b := (90 : UInt8)) (by kernel_rfl) (by kernel_rfl) hb8) ?_ ?_
 refine qV 1 ?_ ?_
 refine qT ?_ ?_
 apply aR
 refine leafI (n := 2) (.inr rfl) (by kernel_rfl) ?_
 rotate_left
 iterate 3 kernel_rfl
 refine qf (x := (decide ((((c : UInt8).toNat : Nat) : Int) ≤ 90))) (u8f_leq (a := c) (b := (90 : UInt8)) (by kernel_rfl) (by kernel_rfl) hb8) ?_ ?_
 refine qK ?_ ?_
 refine qz [(0, .int .u8 (((c : UInt8).toNat : Nat) : Int))] ?_ ?_
 refine qSeq ?_ ?_
 refine qV 3 ?_ ?_
 by_cases hb9 : (48 : UInt8) ≤ c
 refine qm [30, 31] (x := (decide ((((c : UInt8).toNat : Nat) : Int) ≥ 48))) (u8t_geq (a := c) (b := (48 : UInt8)) (by kernel_rfl) (by kernel_rfl) hb9) ?_ ?_
 refine qR 3 [(0, .int .u8 (((c : UInt8).toNat : Nat) : Int)), (34, .bool (decide ((((c : UInt8).toNat : Nat) : Int) ≤ 57)))] [] ?_ ?_
 by_cases hb10 : c ≤ (57 : UInt8)
 refine qt (x := (decide ((((c : UInt8).toNat : Nat) : Int) ≤ 57))) (u8t_leq (a := c) (b := (57 : UInt8)) (by kernel_rfl) (by kernel_rfl) hb10) ?_ ?_
 refine qV 1 ?_ ?_
 refine qT ?_ ?_
 apply aR
 refine leafI (n := 3) (.inr rfl) (by kernel_rfl) ?_
 rotate_left
 iterate 3 kernel_rfl
 refine qf (x := (decide ((((c : UInt8).toNat : Nat) : Int) ≤ 57))) (u8f_leq (a := c) (b := (57 : UInt8)) (by kernel_rfl) (by kernel_rfl) hb10) ?_ ?_
 refine qK ?_ ?_
 refine qz [(0, .int .u8 (((c : UInt8).toNat : Nat) : Int))] ?_ ?_
 refine qSeq ?_ ?_
 refine qU 2 [(36, .bool ((((c : UInt8).toNat : Nat) : Int) == 95))] ?_ ?_
 by_cases hb11 : c = (95 : UInt8)
 refine qt (x := ((((c : UInt8).toNat : Nat) : Int) == 95)) (u8t_eql (a := c) (b := (95 : UInt8)) (by kernel_rfl) (by kernel_rfl) hb11) ?_ ?_
 refine qV 1 ?_ ?_
 refine qT ?_ ?_
 apply aR
 refine leafI (n := 4) (.inr rfl) (by kernel_rfl) ?_
 rotate_left
 iterate 3 kernel_rfl
 refine qf (x := ((((c : UInt8).toNat : Nat) : Int) == 95)) (u8f_eql (a := c) (b := (95 : UInt8)) (by kernel_rfl) (by kernel_rfl) hb11) ?_ ?_
 refine qK ?_ ?_
 refine qz [] ?_ ?_
 refine qV 1 ?_ ?_
 refine qT ?_ ?_
 refine leafI (n := 5) (.inr rfl) (by kernel_rfl) ?_
 rotate_left
 iterate 12 kernel_rfl
 refine qm [30, 31] (x := (decide ((((c : UInt8).toNat : Nat) : Int) ≥ 48))) (u8f_geq (a := c) (b := (48 : UInt8)) (by kernel_rfl) (by kernel_rfl) hb9) ?_ ?_
 refine qR 3 [(0, .int .u8 (((c : UInt8).toNat : Nat) : Int)), (34, .bool false)] [] ?_ ?_
 refine wIfF (by kernel_rfl) (by kernel_rfl) ?_
 refine qK ?_ ?_
 refine qz [(0, .int .u8 (((c : UInt8).toNat : Nat) : Int))] ?_ ?_
 refine qSeq ?_ ?_
 refine qU 2 [(36, .bool ((((c : UInt8).toNat : Nat) : Int) == 95))] ?_ ?_
 by_cases hb12 : c = (95 : UInt8)
 refine qt (x := ((((c : UInt8).toNat : Nat) : Int) == 95)) (u8t_eql (a := c) (b := (95 : UInt8)) (by kernel_rfl) (by kernel_rfl) hb12) ?_ ?_
 refine qV 1 ?_ ?_
 refine qT ?_ ?_
 apply aR
 refine leafI (n := 4) (.inr rfl) (by kernel_rfl) ?_
 rotate_left
 iterate 3 kernel_rfl
 refine qf (x := ((((c : UInt8).toNat : Nat) : Int) == 95)) (u8f_eql (a := c) (b := (95 : UInt8)) (by kernel_rfl) (by kernel_rfl) hb12) ?_ ?_
 refine qK ?_ ?_
 refine qz [] ?_ ?_
 refine qV 1 ?_ ?_
 refine qT ?_ ?_
 refine leafI (n := 5) (.inr rfl) (by kernel_rfl) ?_
 rotate_left
 iterate 18 kernel_rfl
 refine qm [24, 25] (x := (decide ((((c : UInt8).toNat : Nat) : Int) ≥ 65))) (u8f_geq (a := c) (b := (65 : UInt8)) (by kernel_rfl) (by kernel_rfl) hb7) ?_ ?_
 refine qR 3 [(0, .int .u8 (((c : UInt8).toNat : Nat) : Int)), (28, .bool false)] [] ?_ ?_
 refine wIfF (by kernel_rfl) (by kernel_rfl) ?_
 refine qK ?_ ?_
 refine qz [(0, .int .u8 (((c : UInt8).toNat : Nat) : Int))] ?_ ?_
 refine qSeq ?_ ?_
 refine qV 3 ?_ ?_
 by_cases hb13 : (48 : UInt8) ≤ c
 refine qm [30, 31] (x := (decide ((((c : UInt8).toNat : Nat) : Int) ≥ 48))) (u8t_geq (a := c) (b := (48 : UInt8)) (by kernel_rfl) (by kernel_rfl) hb13) ?_ ?_
 refine qR 3 [(0, .int .u8 (((c : UInt8).toNat : Nat) : Int)), (34, .bool (decide ((((c : UInt8).toNat : Nat) : Int) ≤ 57)))] [] ?_ ?_
 by_cases hb14 : c ≤ (57 : UInt8)
 refine qt (x := (decide ((((c : UInt8).toNat : Nat) : Int) ≤ 57))) (u8t_leq (a := c) (b := (57 : UInt8)) (by kernel_rfl) (by kernel_rfl) hb14) ?_ ?_
 refine qV 1 ?_ ?_
 refine qT ?_ ?_
 apply aR
 refine leafI (n := 3) (.inr rfl) (by kernel_rfl) ?_
 rotate_left
 iterate 3 kernel_rfl
 refine qf (x := (decide ((((c : UInt8).toNat : Nat) : Int) ≤ 57))) (u8f_leq (a := c) (b := (57 : UInt8)) (by kernel_rfl) (by kernel_rfl) hb14) ?_ ?_
 refine qK ?_ ?_
 refine qz [(0, .int .u8 (((c : UInt8).toNat : Nat) : Int))] ?_ ?_
 refine qSeq ?_ ?_
 refine qU 2 [(36, .bool ((((c : UInt8).toNat : Nat) : Int) == 95))] ?_ ?_
 by_cases hb15 : c = (95 : UInt8)
 refine qt (x := ((((c : UInt8).toNat : Nat) : Int) == 95)) (u8t_eql (a := c) (b := (95 : UInt8)) (by kernel_rfl) (by kernel_rfl) hb15) ?_ ?_
 refine qV 1 ?_ ?_
 refine qT ?_ ?_
 apply aR
 refine leafI (n := 4) (.inr rfl) (by kernel_rfl) ?_
 rotate_left
 iterate 3 kernel_rfl
 refine qf (x := ((((c : UInt8).toNat : Nat) : Int) == 95)) (u8f_eql (a := c) (b := (95 : UInt8)) (by kernel_rfl) (by kernel_rfl) hb15) ?_ ?_
 refine qK ?_ ?_
 refine qz [] ?_ ?_
 refine qV 1 ?_ ?_
 refine qT ?_ ?_
 refine leafI (n := 5) (.inr rfl) (by kernel_rfl) ?_
 rotate_left
 iterate 12 kernel_rfl
 refine qm [30, 31] (x := (decide ((((c : UInt8).toNat : Nat) : Int) ≥ 48))) (u8f_geq (a := c) (b := (48 : UInt8)) (by kernel_rfl) (by kernel_rfl) hb13) ?_ ?_
 refine qR 3 [(0, .int .u8 (((c : UInt8).toNat : Nat) : Int)), (34, .bool false)] [] ?_ ?_
 refine wIfF (by kernel_rfl) (by kernel_rfl) ?_
 refine qK ?_ ?_
 refine qz [(0, .int .u8 (((c : UInt8).toNat : Nat) : Int))] ?_ ?_
 refine qSeq ?_ ?_
 refine qU 2 [(36, .bool ((((c : UInt8).toNat : Nat) : Int) == 95))] ?_ ?_
 by_cases hb16 : c = (95 : UInt8)
 refine qt (x := ((((c : UInt8).toNat : Nat) : Int) == 95)) (u8t_eql (a := c) (b := (95 : UInt8)) (by kernel_rfl) (by kernel_rfl) hb16) ?_ ?_
 refine qV 1 ?_ ?_
 refine qT ?_ ?_
 apply aR
 refine leafI (n := 4) (.inr rfl) (by kernel_rfl) ?_
 rotate_left
 iterate 3 kernel_rfl
 refine qf (x := ((((c : UInt8).toNat : Nat) : Int) == 95)) (u8f_eql (a := c) (b := (95 : UInt8)) (by kernel_rfl) (by kernel_rfl) hb16) ?_ ?_
 refine qK ?_ ?_
 refine qz [] ?_ ?_
 refine qV 1 ?_ ?_
 refine qT ?_ ?_
 refine leafI (n := 5) (.inr rfl) (by kernel_rfl) ?_
 rotate_left
 iterate 24 kernel_rfl
 refine qm [18, 19] (x := (decide ((((c : UInt8).toNat : Nat) : Int) ≥ 97))) (u8f_geq (a := c) (b := (97 : UInt8)) (by kernel_rfl) (by kernel_rfl) hb5) ?_ ?_
 refine qR 3 [(0, .int .u8 (((c : UInt8).toNat : Nat) : Int)), (22, .bool false)] [] ?_ ?_
 refine wIfF (by kernel_rfl) (by kernel_rfl) ?_
 refine qK ?_ ?_
 refine qz [(0, .int .u8 (((c : UInt8).toNat : Nat) : Int))] ?_ ?_
 refine qSeq ?_ ?_
 refine qV 3 ?_ ?_
 by_cases hb17 : (65 : UInt8) ≤ c
 refine qm [24, 25] (x := (decide ((((c : UInt8).toNat : Nat) : Int) ≥ 65))) (u8t_geq (a := c) (b := (65 : UInt8)) (by kernel_rfl) (by kernel_rfl) hb17) ?_ ?_
 refine qR 3 [(0, .int .u8 (((c : UInt8).toNat : Nat) : Int)), (28, .bool (decide ((((c : UInt8).toNat : Nat) : Int) ≤ 90)))] [] ?_ ?_
 by_cases hb18 : c ≤ (90 : UInt8)
 refine qt (x := (decide ((((c : UInt8).toNat : Nat) : Int) ≤ 90))) (u8t_leq (a := c) (b := (90 : UInt8)) (by kernel_rfl) (by kernel_rfl) hb18) ?_ ?_
 refine qV 1 ?_ ?_
 refine qT ?_ ?_
 apply aR
 refine leafI (n := 2) (.inr rfl) (by kernel_rfl) ?_
 rotate_left
 iterate 3 kernel_rfl
 refine qf (x := (decide ((((c : UInt8).toNat : Nat) : Int) ≤ 90))) (u8f_leq (a := c) (b := (90 : UInt8)) (by kernel_rfl) (by kernel_rfl) hb18) ?_ ?_
 refine qK ?_ ?_
 refine qz [(0, .int .u8 (((c : UInt8).toNat : Nat) : Int))] ?_ ?_
 refine qSeq ?_ ?_
 refine qV 3 ?_ ?_
 by_cases hb19 : (48 : UInt8) ≤ c
 refine qm [30, 31] (x := (decide ((((c : UInt8).toNat : Nat) : Int) ≥ 48))) (u8t_geq (a := c) (b := (48 : UInt8)) (by kernel_rfl) (by kernel_rfl) hb19) ?_ ?_
 refine qR 3 [(0, .int .u8 (((c : UInt8).toNat : Nat) : Int)), (34, .bool (decide ((((c : UInt8).toNat : Nat) : Int) ≤ 57)))] [] ?_ ?_
 by_cases hb20 : c ≤ (57 : UInt8)
 refine qt (x := (decide ((((c : UInt8).toNat : Nat) : Int) ≤ 57))) (u8t_leq (a := c) (b := (57 : UInt8)) (by kernel_rfl) (by kernel_rfl) hb20) ?_ ?_
 refine qV 1 ?_ ?_
 refine qT ?_ ?_
 apply aR
 refine leafI (n := 3) (.inr rfl) (by kernel_rfl) ?_
 rotate_left
 iterate 3 kernel_rfl
 refine qf (x := (decide ((((c : UInt8).toNat : Nat) : Int) ≤ 57))) (u8f_leq (a := c) (b := (57 : UInt8)) (by kernel_rfl) (by kernel_rfl) hb20) ?_ ?_
 refine qK ?_ ?_
 refine qz [(0, .int .u8 (((c : UInt8).toNat : Nat) : Int))] ?_ ?_
 refine qSeq ?_ ?_
 refine qU 2 [(36, .bool ((((c : UInt8).toNat : Nat) : Int) == 95))] ?_ ?_
 by_cases hb21 : c = (95 : UInt8)
 refine qt (x := ((((c : UInt8).toNat : Nat) : Int) == 95)) (u8t_eql (a := c) (b := (95 : UInt8)) (by kernel_rfl) (by kernel_rfl) hb21) ?_ ?_
 refine qV 1 ?_ ?_
 refine qT ?_ ?_
 apply aR
 refine leafI (n := 4) (.inr rfl) (by kernel_rfl) ?_
 rotate_left
 iterate 3 kernel_rfl
 refine qf (x := ((((c : UInt8).toNat : Nat) : Int) == 95)) (u8f_eql (a := c) (b := (95 : UInt8)) (by kernel_rfl) (by kernel_rfl) hb21) ?_ ?_
 refine qK ?_ ?_
 refine qz [] ?_ ?_
 refine qV 1 ?_ ?_
 refine qT ?_ ?_
 refine leafI (n := 5) (.inr rfl) (by kernel_rfl) ?_
 rotate_left
 iterate 12 kernel_rfl
 refine qm [30, 31] (x := (decide ((((c : UInt8).toNat : Nat) : Int) ≥ 48))) (u8f_geq (a := c) (b := (48 : UInt8)) (by kernel_rfl) (by kernel_rfl) hb19) ?_ ?_
 refine qR 3 [(0, .int .u8 (((c : UInt8).toNat : Nat) : Int)), (34, .bool false)] [] ?_ ?_
 refine wIfF (by kernel_rfl) (by kernel_rfl) ?_
 refine qK ?_ ?_
 refine qz [(0, .int .u8 (((c : UInt8).toNat : Nat) : Int))] ?_ ?_
 refine qSeq ?_ ?_
 refine qU 2 [(36, .bool ((((c : UInt8).toNat : Nat) : Int) == 95))] ?_ ?_
 by_cases hb22 : c = (95 : UInt8)
 refine qt (x := ((((c : UInt8).toNat : Nat) : Int) == 95)) (u8t_eql (a := c) (b := (95 : UInt8)) (by kernel_rfl) (by kernel_rfl) hb22) ?_ ?_
 refine qV 1 ?_ ?_
 refine qT ?_ ?_
 apply aR
 refine leafI (n := 4) (.inr rfl) (by kernel_rfl) ?_
 rotate_left
 iterate 3 kernel_rfl
 refine qf (x := ((((c : UInt8).toNat : Nat) : Int) == 95)) (u8f_eql (a := c) (b := (95 : UInt8)) (by kernel_rfl) (by kernel_rfl) hb22) ?_ ?_
 refine qK ?_ ?_
 refine qz [] ?_ ?_
 refine qV 1 ?_ ?_
 refine qT ?_ ?_
 refine leafI (n := 5) (.inr rfl) (by kernel_rfl) ?_
 rotate_left
 iterate 18 kernel_rfl
 refine qm [24, 25] (x := (decide ((((c : UInt8).toNat : Nat) : Int) ≥ 65))) (u8f_geq (a := c) (b := (65 : UInt8)) (by kernel_rfl) (by kernel_rfl) hb17) ?_ ?_
 refine qR 3 [(0, .int .u8 (((c : UInt8).toNat : Nat) : Int)), (28, .bool false)] [] ?_ ?_
 refine wIfF (by kernel_rfl) (by kernel_rfl) ?_
 refine qK ?_ ?_
 refine qz [(0, .int .u8 (((c : UInt8).toNat : Nat) : Int))] ?_ ?_
 refine qSeq ?_ ?_
 refine qV 3 ?_ ?_
 by_cases hb23 : (48 : UInt8) ≤ c
 refine qm [30, 31] (x := (decide ((((c : UInt8).toNat : Nat) : Int) ≥ 48))) (u8t_geq (a := c) (b := (48 : UInt8)) (by kernel_rfl) (by kernel_rfl) hb23) ?_ ?_
 refine qR 3 [(0, .int .u8 (((c : UInt8).toNat : Nat) : Int)), (34, .bool (decide ((((c : UInt8).toNat : Nat) : Int) ≤ 57)))] [] ?_ ?_
 by_cases hb24 : c ≤ (57 : UInt8)
 refine qt (x := (decide ((((c : UInt8).toNat : Nat) : Int) ≤ 57))) (u8t_leq (a := c) (b := (57 : UInt8)) (by kernel_rfl) (by kernel_rfl) hb24) ?_ ?_
 refine qV 1 ?_ ?_
 refine qT ?_ ?_
 apply aR
 refine leafI (n := 3) (.inr rfl) (by kernel_rfl) ?_
 rotate_left
 iterate 3 kernel_rfl
 refine qf (x := (decide ((((c : UInt8).toNat : Nat) : Int) ≤ 57))) (u8f_leq (a := c) (b := (57 : UInt8)) (by kernel_rfl) (by kernel_rfl) hb24) ?_ ?_
 refine qK ?_ ?_
 refine qz [(0, .int .u8 (((c : UInt8).toNat : Nat) : Int))] ?_ ?_
 refine qSeq ?_ ?_
 refine qU 2 [(36, .bool ((((c : UInt8).toNat : Nat) : Int) == 95))] ?_ ?_
 by_cases hb25 : c = (95 : UInt8)
 refine qt (x := ((((c : UInt8).toNat : Nat) : Int) == 95)) (u8t_eql (a := c) (b := (95 : UInt8)) (by kernel_rfl) (by kernel_rfl) hb25) ?_ ?_
 refine qV 1 ?_ ?_
 refine qT ?_ ?_
 apply aR
 refine leafI (n := 4) (.inr rfl) (by kernel_rfl) ?_
 rotate_left
 iterate 3 kernel_rfl
 refine qf (x := ((((c : UInt8).toNat : Nat) : Int) == 95)) (u8f_eql (a := c) (b := (95 : UInt8)) (by kernel_rfl) (by kernel_rfl) hb25) ?_ ?_
 refine qK ?_ ?_
 refine qz [] ?_ ?_
 refine qV 1 ?_ ?_
 refine qT ?_ ?_
 refine leafI (n := 5) (.inr rfl) (by kernel_rfl) ?_
 rotate_left
 iterate 12 kernel_rfl
 refine qm [30, 31] (x := (decide ((((c : UInt8).toNat : Nat) : Int) ≥ 48))) (u8f_geq (a := c) (b := (48 : UInt8)) (by kernel_rfl) (by kernel_rfl) hb23) ?_ ?_
 refine qR 3 [(0, .int .u8 (((c : UInt8).toNat : Nat) : Int)), (34, .bool false)] [] ?_ ?_
 refine wIfF (by kernel_rfl) (by kernel_rfl) ?_
 refine qK ?_ ?_
 refine qz [(0, .int .u8 (((c : UInt8).toNat : Nat) : Int))] ?_ ?_
 refine qSeq ?_ ?_
 refine qU 2 [(36, .bool ((((c : UInt8).toNat : Nat) : Int) == 95))] ?_ ?_
 by_cases hb26 : c = (95 : UInt8)
 refine qt (x := ((((c : UInt8).toNat : Nat) : Int) == 95)) (u8t_eql (a := c) (b := (95 : UInt8)) (by kernel_rfl) (by kernel_rfl) hb26) ?_ ?_
 refine qV 1 ?_ ?_
 refine qT ?_ ?_
 apply aR
 refine leafI (n := 4) (.inr rfl) (by kernel_rfl) ?_
 rotate_left
 iterate 3 kernel_rfl
 refine qf (x := ((((c : UInt8).toNat : Nat) : Int) == 95)) (u8f_eql (a := c) (b := (95 : UInt8)) (by kernel_rfl) (by kernel_rfl) hb26) ?_ ?_
 refine qK ?_ ?_
 refine qz [] ?_ ?_
 refine qV 1 ?_ ?_
 refine qT ?_ ?_
 refine leafI (n := 5) (.inr rfl) (by kernel_rfl) ?_
 rotate_left
 iterate 38 kernel_rfl
 all_goals
  simp [cls, isSp, isLo, isUp, isDg, inB, *]
noncomputable def c166 : Code := bodyOf Tryz.f166
theorem rline_spec (s : List UInt8) (q : Nat) (hq : q < s.length) (hs : s.length < 1000000000) : CallsP cx 166 [.str s, .int .i64 ((q : Nat) : Int)] (.int .i64 (((q + ((s.drop q).takeWhile isLn).length) : Nat) : Int)) := by
 refine func_intro (cx := cx) 18 0 [(ResultVar.tmp 4)] Tryz.func166 rfl rfl rfl rfl rfl (by simp) ?_
 show wpA cx 18 0 (at_ c166 []) _ _ _
 refine qZ [(0, .str s), (1, nI q)] [] ?_ ?_
 refine qU 1 [(0, .str s), (1, nI q)] ?_ ?_
 refine qSeq ?_ ?_
 refine qB 0 ?_ ?_ ?_
 refine wLoop (σ := Nat) (fun k => [(0, .str s), (1, .int .i64 ((k : Nat) : Int))]) (fun k => []) (fun k => (q ≤ k ∧ k ≤ s.length) ∧ ∀ i, q ≤ i → i < k → isLn (s.getD i 0) = true) (fun k => s.length - k) q (by kernel_rfl) (by exact ⟨⟨Nat.le_refl _, by omega⟩, fun i h1 h2 => by omega⟩) ⟨⟨(by kernel_rfl), (by kernel_rfl), trivial⟩, by simp [BelL, AVal.bel], by simp, (by kernel_rfl), by simp⟩ ?_
 rintro k ⟨⟨hk, hk2⟩, ha⟩
 refine qSeq ?_ ?_
 refine qV 5 ?_ ?_
 by_cases hb1 : ((k : Nat) : Int) < ((s.length : Nat) : Int)
 refine qm [8, 9] (decide_eq_true hb1) ?_ ?_
 refine qr 2 ?_ ?_
 refine qy (o_index (k := .i64) (s := s) (i := ((k : Nat) : Int)) (by kernel_rfl) ty9 (by omega) (by omega)) ?_ ?_ ?_
 refine qR 2 [(0, .str s), (1, nI k), (10, .str s), (11, nI k), (12, .int .u8 ((((s.getD k 0) : UInt8).toNat : Nat) : Int)), (13, .bool (((((s.getD k 0) : UInt8).toNat : Nat) : Int) != 10)), (14, .bool (((((s.getD k 0) : UInt8).toNat : Nat) : Int) != 10))] [] ?_ ?_
 by_cases hb2 : (s.getD k 0) = (10 : UInt8)
 refine qf (x := (((((s.getD k 0) : UInt8).toNat : Nat) : Int) != 10)) (u8t_neq (a := (s.getD k 0)) (b := (10 : UInt8)) (by kernel_rfl) (by kernel_rfl) hb2) ?_ ?_
 refine wExit 0 (by kernel_rfl) (by kernel_rfl) ?_
 refine AThen_exit ?_
 refine AThen_exit ?_
 refine AIn_exit ?_
 refine AThen_normal ?_
 refine qz [(1, nI k)] ?_ ?_
 refine qV 2 ?_ ?_
 refine qT ?_ ?_
 refine leafI (n := ((k : Nat) : Int)) (.inr rfl) (by kernel_rfl) ?_
 rotate_left
 iterate 4 kernel_rfl
 refine qt (x := (((((s.getD k 0) : UInt8).toNat : Nat) : Int) != 10)) (u8f_neq (a := (s.getD k 0)) (b := (10 : UInt8)) (by kernel_rfl) (by kernel_rfl) hb2) ?_ ?_
 refine qK ?_ ?_
 refine qz [(0, .str s), (1, nI k), (10, .str s), (11, nI k), (12, .int .u8 ((((s.getD k 0) : UInt8).toNat : Nat) : Int)), (13, .bool (((((s.getD k 0) : UInt8).toNat : Nat) : Int) != 10))] ?_ ?_
 refine qB 1 ?_ ?_ ?_
 refine qo ?_ ?_
 refine qr 1 ?_ ?_
 refine qy (o_add (a := ((k : Nat) : Int)) (b := 1) (by kernel_rfl) (by omega) (by omega)) ?_ ?_ ?_
 refine qr 1 ?_ ?_
 refine qe ?_ ?_
 refine AIn_normal ?_
 refine AThen_normal ⟨k + 1, ?_, ?_, ⟨⟨(by kernel_rfl), (by kernel_rfl), trivial⟩, by simp [BelL, AVal.bel], by simp, (by kernel_rfl), by simp⟩⟩
 · omega
 · refine ⟨⟨by omega, by omega⟩, fun i h1 hi => ?_⟩
   rcases Nat.lt_succ_iff_lt_or_eq.1 hi with h | h
   · exact ha i h1 h
   · subst h; simp [isLn]; assumption
 iterate 16 kernel_rfl
 refine qm [8, 9] (decide_eq_false hb1) ?_ ?_
 refine qR 5 [(0, .str s), (1, nI k), (10, .tup []), (11, .tup []), (12, .tup []), (13, .tup []), (14, .bool false)] [] ?_ ?_
 refine wIfF (by kernel_rfl) (by kernel_rfl) ?_
 refine wExit 0 (by kernel_rfl) (by kernel_rfl) ?_
 refine AThen_exit ?_
 refine AThen_exit ?_
 refine AIn_exit ?_
 refine AThen_normal ?_
 refine qz [(1, nI k)] ?_ ?_
 refine qV 2 ?_ ?_
 refine qT ?_ ?_
 refine leafI (n := ((k : Nat) : Int)) (.inr rfl) (by kernel_rfl) ?_
 rotate_left
 iterate 12 kernel_rfl
 all_goals
  refine congrArg _ (tw_at isLn s q k hk hk2 ha ?_).symm
  first | (left; omega) | (right; simp only [isLn, *]; decide)
theorem slc1 (s : List UInt8) (q n : Nat) : (s.take (q + n)).drop q = (s.drop q).take n := by rw [List.drop_take]; congr 1; omega
theorem has2_le (u : List UInt8) : has2 u ≤ 2 := by unfold has2; split; omega; split <;> omega
noncomputable def c193 : Code := bodyOf Tryz.f193
theorem rsymbol_spec (s : List UInt8) (q : Nat) (hq : q < s.length) (hs : s.length < 1000000000) : CallsP cx 193 [.str s, .int .i64 ((q : Nat) : Int)] (.int .i64 ((has2 (s.drop q) : Nat) : Int)) := by
 refine func_intro (cx := cx) 26 0 [(ResultVar.tmp 4)] Tryz.func193 rfl rfl rfl rfl rfl (by simp) ?_
 show wpA cx 26 0 (at_ c193 []) _ _ _
 refine qZ [(0, .str s), (1, nI q)] [] ?_ ?_
 refine qU 1 [(0, .str s), (1, nI q)] ?_ ?_
 refine qSeq ?_ ?_
 refine qSeq ?_ ?_
 refine wDrw cxM (by kernel_rfl) extThen (dstart ?_)
 refine qu 1 ?_ ?_
 refine qd (o_add (a := ((q : Nat) : Int)) (b := 2) (by kernel_rfl) (by omega) (by omega)) ?_ ?_ ?_ ?_
 refine qu 4 ?_ ?_
 by_cases hb1 : (((q + 2) : Nat) : Int) ≤ ((s.length : Nat) : Int)
 refine dset 9 (.bool (decide ((((q + 2) : Nat) : Int) ≤ ((s.length : Nat) : Int)))) (.bool true) (extD extThen) (by kernel_rfl) (congrArg AVal.bool (decide_eq_true hb1)) ?_
 refine dset 10 (.bool (decide ((((q + 2) : Nat) : Int) ≤ ((s.length : Nat) : Int)))) (.bool true) (extD extThen) (by kernel_rfl) (congrArg AVal.bool (decide_eq_true hb1)) ?_
 refine dcallP (args := []) (by kernel_rfl) (by kernel_rfl) (by kernel_rfl) (by kernel_rfl) (by kernel_rfl) (rsymbols_spec) (fun _ => (by kernel_rfl)) (by kernel_rfl) (by kernel_rfl) ?_
 refine qu 3 ?_ ?_
 refine qd (o_add (a := ((q : Nat) : Int)) (b := 2) (by kernel_rfl) (by omega) (by omega)) ?_ ?_ ?_ ?_
 refine qd (o_slcstr (lo := (some (.int .i64 ((q : Nat) : Int)))) (hi := (some (.int .i64 (((q + 2) : Nat) : Int)))) (s := s) (x := ((q : Nat) : Int)) (y := (((q + 2) : Nat) : Int)) (by kernel_rfl) ty9 (by kernel_rfl) (by kernel_rfl) (by omega) (by omega) (by omega)) ?_ ?_ ?_ ?_
 refine dcallP (args := [.imm (syms.map AVal.str), .str ((s.take (q + 2)).drop q)]) (by kernel_rfl) (by kernel_rfl) (by kernel_rfl) (by kernel_rfl) (by kernel_rfl) (has_spec syms ((s.take (q + 2)).drop q) ((by decide))) (by intro _; simp) (by simp) (by simp) ?_
 refine qu 1 ?_ ?_
 refine dend (by kernel_rfl) ⟨(by kernel_rfl), ?_⟩
 refine AThen_normal ?_
 refine qZ [(0, .str s), (1, nI q), (18, .bool (syms.contains ((s.take (q + 2)).drop q)))] [] ?_ ?_
 by_cases hb2 : (syms.contains ((s.take (q + 2)).drop q)) = true
 refine qt (hb2) ?_ ?_
 refine qV 1 ?_ ?_
 refine qT ?_ ?_
 apply aR
 refine leafI (n := 2) (.inr rfl) (by kernel_rfl) ?_
 rotate_left
 iterate 3 kernel_rfl
 refine qf (Bool.eq_false_iff.2 hb2) ?_ ?_
 refine qK ?_ ?_
 refine qz [(0, .str s), (1, nI q)] ?_ ?_
 refine qSeq ?_ ?_
 refine qSeq ?_ ?_
 refine wDrw cxM (by kernel_rfl) extThen (dstart ?_)
 refine dcallP (args := []) (by kernel_rfl) (by kernel_rfl) (by kernel_rfl) (by kernel_rfl) (by kernel_rfl) (rsymbols_spec) (fun _ => (by kernel_rfl)) (by kernel_rfl) (by kernel_rfl) ?_
 refine qu 3 ?_ ?_
 refine qd (o_add (a := ((q : Nat) : Int)) (b := 1) (by kernel_rfl) (by omega) (by omega)) ?_ ?_ ?_ ?_
 refine qd (o_slcstr (lo := (some (.int .i64 ((q : Nat) : Int)))) (hi := (some (.int .i64 (((q + 1) : Nat) : Int)))) (s := s) (x := ((q : Nat) : Int)) (y := (((q + 1) : Nat) : Int)) (by kernel_rfl) ty9 (by kernel_rfl) (by kernel_rfl) (by omega) (by omega) (by omega)) ?_ ?_ ?_ ?_
 refine dcallP (args := [.imm (syms.map AVal.str), .str ((s.take (q + 1)).drop q)]) (by kernel_rfl) (by kernel_rfl) (by kernel_rfl) (by kernel_rfl) (by kernel_rfl) (has_spec syms ((s.take (q + 1)).drop q) ((by decide))) (by intro _; simp) (by simp) (by simp) ?_
 refine dend (by kernel_rfl) ⟨(by kernel_rfl), ?_⟩
 refine AThen_normal ?_
 refine qZ [(25, .bool (syms.contains ((s.take (q + 1)).drop q)))] [] ?_ ?_
 by_cases hb3 : (syms.contains ((s.take (q + 1)).drop q)) = true
 refine qt (hb3) ?_ ?_
 refine qV 1 ?_ ?_
 refine qT ?_ ?_
 apply aR
 refine leafI (n := 1) (.inr rfl) (by kernel_rfl) ?_
 rotate_left
 iterate 3 kernel_rfl
 refine qf (Bool.eq_false_iff.2 hb3) ?_ ?_
 refine qK ?_ ?_
 refine qz [] ?_ ?_
 refine qV 1 ?_ ?_
 refine qT ?_ ?_
 refine leafI (n := 0) (.inr rfl) (by kernel_rfl) ?_
 rotate_left
 iterate 27 kernel_rfl
 refine dset 9 (.bool (decide ((((q + 2) : Nat) : Int) ≤ ((s.length : Nat) : Int)))) (.bool false) (extD extThen) (by kernel_rfl) (congrArg AVal.bool (decide_eq_false hb1)) ?_
 refine dset 10 (.bool (decide ((((q + 2) : Nat) : Int) ≤ ((s.length : Nat) : Int)))) (.bool false) (extD extThen) (by kernel_rfl) (congrArg AVal.bool (decide_eq_false hb1)) ?_
 refine qu 8 ?_ ?_
 refine dend (by kernel_rfl) ⟨(by kernel_rfl), ?_⟩
 refine AThen_normal ?_
 refine qZ [(0, .str s), (1, nI q), (18, .bool false)] [] ?_ ?_
 refine wIfF (by kernel_rfl) (by kernel_rfl) ?_
 refine qK ?_ ?_
 refine qz [(0, .str s), (1, nI q)] ?_ ?_
 refine qSeq ?_ ?_
 refine qSeq ?_ ?_
 refine wDrw cxM (by kernel_rfl) extThen (dstart ?_)
 refine dcallP (args := []) (by kernel_rfl) (by kernel_rfl) (by kernel_rfl) (by kernel_rfl) (by kernel_rfl) (rsymbols_spec) (fun _ => (by kernel_rfl)) (by kernel_rfl) (by kernel_rfl) ?_
 refine qu 3 ?_ ?_
 refine qd (o_add (a := ((q : Nat) : Int)) (b := 1) (by kernel_rfl) (by omega) (by omega)) ?_ ?_ ?_ ?_
 refine qd (o_slcstr (lo := (some (.int .i64 ((q : Nat) : Int)))) (hi := (some (.int .i64 (((q + 1) : Nat) : Int)))) (s := s) (x := ((q : Nat) : Int)) (y := (((q + 1) : Nat) : Int)) (by kernel_rfl) ty9 (by kernel_rfl) (by kernel_rfl) (by omega) (by omega) (by omega)) ?_ ?_ ?_ ?_
 refine dcallP (args := [.imm (syms.map AVal.str), .str ((s.take (q + 1)).drop q)]) (by kernel_rfl) (by kernel_rfl) (by kernel_rfl) (by kernel_rfl) (by kernel_rfl) (has_spec syms ((s.take (q + 1)).drop q) ((by decide))) (by intro _; simp) (by simp) (by simp) ?_
 refine dend (by kernel_rfl) ⟨(by kernel_rfl), ?_⟩
 refine AThen_normal ?_
 refine qZ [(25, .bool (syms.contains ((s.take (q + 1)).drop q)))] [] ?_ ?_
 by_cases hb4 : (syms.contains ((s.take (q + 1)).drop q)) = true
 refine qt (hb4) ?_ ?_
 refine qV 1 ?_ ?_
 refine qT ?_ ?_
 apply aR
 refine leafI (n := 1) (.inr rfl) (by kernel_rfl) ?_
 rotate_left
 iterate 3 kernel_rfl
 refine qf (Bool.eq_false_iff.2 hb4) ?_ ?_
 refine qK ?_ ?_
 refine qz [] ?_ ?_
 refine qV 1 ?_ ?_
 refine qT ?_ ?_
 refine leafI (n := 0) (.inr rfl) (by kernel_rfl) ?_
 rotate_left
 iterate 28 kernel_rfl
 all_goals
  simp only [slc1] at *
  simp only [has2, List.length_drop]
  repeat (first | rw [if_pos (by first | assumption | exact ⟨by omega, by assumption⟩)] | rw [if_neg (by first | assumption | (rintro ⟨h1, h2⟩; first | omega | contradiction))])
  try rfl
theorem rtok_good {u : List UInt8} (h : u.getD 0 0 ≠ 34) : rtok u = good u := by unfold rtok; rw [if_neg (fun h' => h h'.1)]
theorem n34 : ∀ c : UInt8, isSp c = true ∨ isLo c = true ∨ isUp c = true ∨ isDg c = true ∨ c = 35 → c ≠ 34 := u8_all (by decide +kernel)
theorem rtok_sp {u : List UInt8} (h : isSp (u.getD 0 0) = true) : rtok u = (0, (u.takeWhile isSp).length) := by
  rw [rtok_good (n34 _ (.inl h)), good, if_pos h]
theorem rtok_lo {u : List UInt8} (h : isLo (u.getD 0 0) = true) : rtok u = (if isKw (u.take (u.takeWhile isWd).length) then 7 else 2, (u.takeWhile isWd).length) := by
  have h1 : ∀ c : UInt8, isLo c = true → ¬ isSp c = true ∧ c ≠ 35 := u8_all (by decide +kernel)
  rw [rtok_good (n34 _ (.inr (.inl h))), good, if_neg (h1 _ h).1, if_neg (h1 _ h).2, if_pos h]
theorem rtok_up {u : List UInt8} (h : isUp (u.getD 0 0) = true) : rtok u = (3, (u.takeWhile isNm).length) := by
  have h1 : ∀ c : UInt8, isUp c = true → ¬ isSp c = true ∧ c ≠ 35 ∧ ¬ isLo c = true := u8_all (by decide +kernel)
  rw [rtok_good (n34 _ (.inr (.inr (.inl h)))), good, if_neg (h1 _ h).1, if_neg (h1 _ h).2.1, if_neg (h1 _ h).2.2, if_pos h]
theorem rtok_dg {u : List UInt8} (h : isDg (u.getD 0 0) = true) : rtok u = (4, (u.takeWhile isDg).length) := by
  have h1 : ∀ c : UInt8, isDg c = true → ¬ isSp c = true ∧ c ≠ 35 ∧ ¬ isLo c = true ∧ ¬ isUp c = true := u8_all (by decide +kernel)
  rw [rtok_good (n34 _ (.inr (.inr (.inr (.inl h))))), good, if_neg (h1 _ h).1, if_neg (h1 _ h).2.1, if_neg (h1 _ h).2.2.1, if_neg (h1 _ h).2.2.2, if_pos h]
theorem rtok_cm {u : List UInt8} (h : u.getD 0 0 = 35) : rtok u = (1, (u.takeWhile isLn).length) := by
  rw [rtok_good (by rw [h]; decide), good, if_neg (by rw [h]; decide), if_pos h]
theorem good_qt {u : List UInt8} (h : u.getD 0 0 = 34) : good u = (5, quotedN u) := by
  rw [good, if_neg (by rw [h]; decide), if_neg (by rw [h]; decide), if_neg (by rw [h]; decide), if_neg (by rw [h]; decide), if_neg (by rw [h]; decide), if_pos h]
theorem rtok_q0 {u : List UInt8} (h : u.getD 0 0 = 34) (h0 : quotedN u = 0) : rtok u = (8, 0) := by rw [rtok, if_pos ⟨h, h0⟩]
theorem rtok_q1 {u : List UInt8} {n : Nat} (h : u.getD 0 0 = 34) (h0 : quotedN u = n + 1) : rtok u = (5, n + 1) := by rw [rtok, if_neg (fun h' => by omega), good_qt h, h0]
theorem rtok_sy {u : List UInt8} (hu : 0 < u.length) (c : UInt8) (hc : u.getD 0 0 = c) (h0 : ¬ cls c = 0) (h1 : ¬ cls c = 1) (h2 : ¬ cls c = 2) (h3 : ¬ cls c = 3) (h4 : ¬ c = 35) (h5 : ¬ c = 34) : rtok u = (6, has2 u) := by
  rw [cls_sp] at h0; rw [cls_lo] at h1; rw [cls_up] at h2; rw [cls_dg] at h3
  rw [rtok_good (by rw [hc]; exact h5), good, hc, if_neg h0, if_neg h4, if_neg h1, if_neg h2, if_neg h3, if_neg h5, symLen_has2 u hu]
end Go.Proofs.YtdikgijfekfaoaaGreatDoor
