/- The lexer's walk. No condition. -/
import Derived.Test.YtdikgijfekfaoaaGreatDoorTy
import Derived.Test.YtdikgijfekfaoaaGreatDoorAbsc
set_option linter.all false
set_option linter.unusedSimpArgs false
set_option linter.unusedVariables false
namespace Go.Proofs.YtdikgijfekfaoaaGreatDoor
open Go.Proofs.YtdikgijfekfaoaaGreatDoor.Abs
set_option maxRecDepth 20000
set_option maxHeartbeats 4000000
def bodyOf (f : Func) : Code := match f.body with
  | some c => c
  | none => .skip
def kwCells : List AVal := [.str [97, 110, 100], .str [97, 115], .str [99, 104, 101, 99, 107], .str [100, 101, 108, 101, 116, 101], .str [101, 108, 115, 101], .str [102, 97, 108, 115, 101], .str [102, 117, 110], .str [105, 102], .str [105, 110], .str [105, 110, 115, 101, 114, 116], .str [107, 101, 121], .str [108, 101, 116], .str [109, 97, 116, 99, 104], .str [110, 111, 116], .str [111, 114], .str [112, 114, 111, 99], .str [114, 101, 102], .str [115, 101, 116], .str [116, 97, 98, 108, 101], .str [116, 104, 101, 110], .str [116, 111], .str [116, 114, 117, 101], .str [116, 121, 112, 101], .str [117, 112, 100, 97, 116, 101], .str [119, 104, 101, 114, 101], .str [119, 105, 116, 104]]
def syCells : List AVal := [.str [61, 61], .str [33, 61], .str [60, 61], .str [60, 45], .str [45, 62], .str [43, 43], .str [60], .str [62], .str [61], .str [43], .str [45], .str [42], .str [40], .str [41], .str [123], .str [125], .str [91], .str [93], .str [44], .str [46], .str [58], .str [124], .str [59], .str [63]]
noncomputable def cx : Cx := ⟨Tryz.prog, fun g => bif Nat.beq g 4 then some kwCells else bif Nat.beq g 5 then some syCells else none⟩
theorem cxM : cx.P.follows .mixedOrders = true := by kernel_rfl
noncomputable def c196 : Code := bodyOf Tryz.f196
theorem in_spec (c lo hi : UInt8)  : CallsP cx 196 [.int .u8 (((c : UInt8).toNat : Nat) : Int), .int .u8 (((lo : UInt8).toNat : Nat) : Int), .int .u8 (((hi : UInt8).toNat : Nat) : Int)] (.bool (inB c lo hi)) := by
 refine func_intro (cx := cx) 15 0 [(ResultVar.tmp 6)] Tryz.func196 rfl rfl rfl rfl rfl (by simp) ?_
 show wpA cx 15 0 (at_ c196 []) _ _ _
 refine qZ [(0, .int .u8 (((c : UInt8).toNat : Nat) : Int)), (1, .int .u8 (((lo : UInt8).toNat : Nat) : Int)), (2, .int .u8 (((hi : UInt8).toNat : Nat) : Int))] [] ?_ ?_
 refine qU 1 [(0, .int .u8 (((c : UInt8).toNat : Nat) : Int)), (1, .int .u8 (((lo : UInt8).toNat : Nat) : Int)), (2, .int .u8 (((hi : UInt8).toNat : Nat) : Int))] ?_ ?_
 refine qV 4 ?_ ?_
 by_cases hb1 : lo ≤ c
 refine qm [9, 10] (x := (decide ((((c : UInt8).toNat : Nat) : Int) ≥ (((lo : UInt8).toNat : Nat) : Int)))) (u8t_geq (a := c) (b := lo) (by kernel_rfl) (by kernel_rfl) hb1) ?_ ?_
 refine qX 5 ?_ ?_
 refine leafB (b := (decide ((((c : UInt8).toNat : Nat) : Int) ≤ (((hi : UInt8).toNat : Nat) : Int)))) (.inr rfl) (by kernel_rfl) ?_
 by_cases hb2 : c ≤ hi
 refine Eq.trans (u8t_leq (a := c) (b := hi) (by kernel_rfl) (by kernel_rfl) hb2) ?_
 · simp [inB, *]
 refine Eq.trans (u8f_leq (a := c) (b := hi) (by kernel_rfl) (by kernel_rfl) hb2) ?_
 · simp [inB, *]
 iterate 2 kernel_rfl
 refine qm [9, 10] (x := (decide ((((c : UInt8).toNat : Nat) : Int) ≥ (((lo : UInt8).toNat : Nat) : Int)))) (u8f_geq (a := c) (b := lo) (by kernel_rfl) (by kernel_rfl) hb1) ?_ ?_
 refine qX 5 ?_ ?_
 refine leafB (b := false) (.inr rfl) (by kernel_rfl) ?_
 · simp [inB, *]
 iterate 5 kernel_rfl
noncomputable def c174 : Code := bodyOf Tryz.f174
theorem digit_spec (c : UInt8)  : CallsP cx 174 [.int .u8 (((c : UInt8).toNat : Nat) : Int)] (.bool (isDg c)) := by
 refine func_intro (cx := cx) 5 0 [(ResultVar.tmp 2)] Tryz.func174 rfl rfl rfl rfl rfl (by simp) ?_
 show wpA cx 5 0 (at_ c174 []) _ _ _
 refine qZ [(0, .int .u8 (((c : UInt8).toNat : Nat) : Int))] [] ?_ ?_
 refine qU 1 [(0, .int .u8 (((c : UInt8).toNat : Nat) : Int))] ?_ ?_
 refine qV 1 ?_ ?_
 refine qc [.int .u8 (((c : UInt8).toNat : Nat) : Int), .int .u8 48, .int .u8 57] (in_spec c (48 : UInt8) (57 : UInt8)) ?_ ?_
 refine qX 1 ?_ ?_
 refine leafB (b := (inB c (48 : UInt8) (57 : UInt8))) (.inr rfl) (by kernel_rfl) ?_
 · rfl
 iterate 5 kernel_rfl
noncomputable def c169 : Code := bodyOf Tryz.f169
theorem lower_spec (c : UInt8)  : CallsP cx 169 [.int .u8 (((c : UInt8).toNat : Nat) : Int)] (.bool (isLo c)) := by
 refine func_intro (cx := cx) 5 0 [(ResultVar.tmp 2)] Tryz.func169 rfl rfl rfl rfl rfl (by simp) ?_
 show wpA cx 5 0 (at_ c169 []) _ _ _
 refine qZ [(0, .int .u8 (((c : UInt8).toNat : Nat) : Int))] [] ?_ ?_
 refine qU 1 [(0, .int .u8 (((c : UInt8).toNat : Nat) : Int))] ?_ ?_
 refine qV 1 ?_ ?_
 refine qc [.int .u8 (((c : UInt8).toNat : Nat) : Int), .int .u8 97, .int .u8 122] (in_spec c (97 : UInt8) (122 : UInt8)) ?_ ?_
 refine qX 1 ?_ ?_
 refine leafB (b := (inB c (97 : UInt8) (122 : UInt8))) (.inr rfl) (by kernel_rfl) ?_
 · rfl
 iterate 5 kernel_rfl
noncomputable def c172 : Code := bodyOf Tryz.f172
theorem upper_spec (c : UInt8)  : CallsP cx 172 [.int .u8 (((c : UInt8).toNat : Nat) : Int)] (.bool (isUp c)) := by
 refine func_intro (cx := cx) 5 0 [(ResultVar.tmp 2)] Tryz.func172 rfl rfl rfl rfl rfl (by simp) ?_
 show wpA cx 5 0 (at_ c172 []) _ _ _
 refine qZ [(0, .int .u8 (((c : UInt8).toNat : Nat) : Int))] [] ?_ ?_
 refine qU 1 [(0, .int .u8 (((c : UInt8).toNat : Nat) : Int))] ?_ ?_
 refine qV 1 ?_ ?_
 refine qc [.int .u8 (((c : UInt8).toNat : Nat) : Int), .int .u8 65, .int .u8 90] (in_spec c (65 : UInt8) (90 : UInt8)) ?_ ?_
 refine qX 1 ?_ ?_
 refine leafB (b := (inB c (65 : UInt8) (90 : UInt8))) (.inr rfl) (by kernel_rfl) ?_
 · rfl
 iterate 5 kernel_rfl
noncomputable def c168 : Code := bodyOf Tryz.f168
theorem space_spec (c : UInt8)  : CallsP cx 168 [.int .u8 (((c : UInt8).toNat : Nat) : Int)] (.bool (isSp c)) := by
 refine func_intro (cx := cx) 17 0 [(ResultVar.tmp 2)] Tryz.func168 rfl rfl rfl rfl rfl (by simp) ?_
 show wpA cx 17 0 (at_ c168 []) _ _ _
 refine qZ [(0, .int .u8 (((c : UInt8).toNat : Nat) : Int))] [] ?_ ?_
 refine qU 1 [(0, .int .u8 (((c : UInt8).toNat : Nat) : Int))] ?_ ?_
 refine qV 3 ?_ ?_
 by_cases hb1 : c = (9 : UInt8)
 refine qm [4, 5] (x := ((((c : UInt8).toNat : Nat) : Int) == 9)) (u8t_eql (a := c) (b := (9 : UInt8)) (by kernel_rfl) (by kernel_rfl) hb1) ?_ ?_
 refine qX 12 ?_ ?_
 refine leafB (b := true) (.inr rfl) (by kernel_rfl) ?_
 · simp [isSp, *]
 iterate 2 kernel_rfl
 refine qm [4, 5] (x := ((((c : UInt8).toNat : Nat) : Int) == 9)) (u8f_eql (a := c) (b := (9 : UInt8)) (by kernel_rfl) (by kernel_rfl) hb1) ?_ ?_
 refine qr 4 ?_ ?_
 by_cases hb2 : c = (10 : UInt8)
 refine qm [7, 8, 9] (x := ((((c : UInt8).toNat : Nat) : Int) == 10)) (u8t_eql (a := c) (b := (10 : UInt8)) (by kernel_rfl) (by kernel_rfl) hb2) ?_ ?_
 refine qX 8 ?_ ?_
 refine leafB (b := true) (.inr rfl) (by kernel_rfl) ?_
 · simp [isSp, *]
 iterate 2 kernel_rfl
 refine qm [7, 8, 9] (x := ((((c : UInt8).toNat : Nat) : Int) == 10)) (u8f_eql (a := c) (b := (10 : UInt8)) (by kernel_rfl) (by kernel_rfl) hb2) ?_ ?_
 refine qr 4 ?_ ?_
 by_cases hb3 : c = (13 : UInt8)
 refine qm [11, 12, 13] (x := ((((c : UInt8).toNat : Nat) : Int) == 13)) (u8t_eql (a := c) (b := (13 : UInt8)) (by kernel_rfl) (by kernel_rfl) hb3) ?_ ?_
 refine qX 4 ?_ ?_
 refine leafB (b := true) (.inr rfl) (by kernel_rfl) ?_
 · simp [isSp, *]
 iterate 2 kernel_rfl
 refine qm [11, 12, 13] (x := ((((c : UInt8).toNat : Nat) : Int) == 13)) (u8f_eql (a := c) (b := (13 : UInt8)) (by kernel_rfl) (by kernel_rfl) hb3) ?_ ?_
 refine qX 4 ?_ ?_
 refine leafB (b := ((((c : UInt8).toNat : Nat) : Int) == 32)) (.inr rfl) (by kernel_rfl) ?_
 by_cases hb4 : c = (32 : UInt8)
 refine Eq.trans (u8t_eql (a := c) (b := (32 : UInt8)) (by kernel_rfl) (by kernel_rfl) hb4) ?_
 · simp [isSp, *]
 refine Eq.trans (u8f_eql (a := c) (b := (32 : UInt8)) (by kernel_rfl) (by kernel_rfl) hb4) ?_
 · simp [isSp, *]
 iterate 9 kernel_rfl
noncomputable def c170 : Code := bodyOf Tryz.f170
theorem word_spec (c : UInt8)  : CallsP cx 170 [.int .u8 (((c : UInt8).toNat : Nat) : Int)] (.bool (isWd c)) := by
 refine func_intro (cx := cx) 13 0 [(ResultVar.tmp 2)] Tryz.func170 rfl rfl rfl rfl rfl (by simp) ?_
 show wpA cx 13 0 (at_ c170 []) _ _ _
 refine qZ [(0, .int .u8 (((c : UInt8).toNat : Nat) : Int))] [] ?_ ?_
 refine qU 1 [(0, .int .u8 (((c : UInt8).toNat : Nat) : Int))] ?_ ?_
 refine qV 1 ?_ ?_
 refine qc [.int .u8 (((c : UInt8).toNat : Nat) : Int)] (lower_spec c) ?_ ?_
 refine qr 1 ?_ ?_
 by_cases hb1 : (isLo c) = true
 refine qm [4, 5] (hb1) ?_ ?_
 refine qX 8 ?_ ?_
 refine leafB (b := true) (.inr rfl) (by kernel_rfl) ?_
 · simp [isWd, *]
 iterate 2 kernel_rfl
 refine qm [4, 5] (Bool.eq_false_iff.2 hb1) ?_ ?_
 refine qr 1 ?_ ?_
 refine qc [.int .u8 (((c : UInt8).toNat : Nat) : Int)] (digit_spec c) ?_ ?_
 refine qr 2 ?_ ?_
 by_cases hb2 : (isDg c) = true
 refine qm [7, 8, 9] (hb2) ?_ ?_
 refine qX 4 ?_ ?_
 refine leafB (b := true) (.inr rfl) (by kernel_rfl) ?_
 · simp [isWd, *]
 iterate 2 kernel_rfl
 refine qm [7, 8, 9] (Bool.eq_false_iff.2 hb2) ?_ ?_
 refine qX 4 ?_ ?_
 refine leafB (b := ((((c : UInt8).toNat : Nat) : Int) == 95)) (.inr rfl) (by kernel_rfl) ?_
 by_cases hb3 : c = (95 : UInt8)
 refine Eq.trans (u8t_eql (a := c) (b := (95 : UInt8)) (by kernel_rfl) (by kernel_rfl) hb3) ?_
 · simp [isWd, *]
 refine Eq.trans (u8f_eql (a := c) (b := (95 : UInt8)) (by kernel_rfl) (by kernel_rfl) hb3) ?_
 · simp [isWd, *]
 iterate 11 kernel_rfl
noncomputable def c173 : Code := bodyOf Tryz.f173
theorem name_spec (c : UInt8)  : CallsP cx 173 [.int .u8 (((c : UInt8).toNat : Nat) : Int)] (.bool (isNm c)) := by
 refine func_intro (cx := cx) 13 0 [(ResultVar.tmp 2)] Tryz.func173 rfl rfl rfl rfl rfl (by simp) ?_
 show wpA cx 13 0 (at_ c173 []) _ _ _
 refine qZ [(0, .int .u8 (((c : UInt8).toNat : Nat) : Int))] [] ?_ ?_
 refine qU 1 [(0, .int .u8 (((c : UInt8).toNat : Nat) : Int))] ?_ ?_
 refine qV 1 ?_ ?_
 refine qc [.int .u8 (((c : UInt8).toNat : Nat) : Int)] (lower_spec c) ?_ ?_
 refine qr 1 ?_ ?_
 by_cases hb1 : (isLo c) = true
 refine qm [4, 5] (hb1) ?_ ?_
 refine qX 8 ?_ ?_
 refine leafB (b := true) (.inr rfl) (by kernel_rfl) ?_
 · simp [isNm, *]
 iterate 2 kernel_rfl
 refine qm [4, 5] (Bool.eq_false_iff.2 hb1) ?_ ?_
 refine qr 1 ?_ ?_
 refine qc [.int .u8 (((c : UInt8).toNat : Nat) : Int)] (upper_spec c) ?_ ?_
 refine qr 2 ?_ ?_
 by_cases hb2 : (isUp c) = true
 refine qm [7, 8, 9] (hb2) ?_ ?_
 refine qX 4 ?_ ?_
 refine leafB (b := true) (.inr rfl) (by kernel_rfl) ?_
 · simp [isNm, *]
 iterate 2 kernel_rfl
 refine qm [7, 8, 9] (Bool.eq_false_iff.2 hb2) ?_ ?_
 refine qr 1 ?_ ?_
 refine qc [.int .u8 (((c : UInt8).toNat : Nat) : Int)] (digit_spec c) ?_ ?_
 refine qX 2 ?_ ?_
 refine leafB (b := (isDg c)) (.inr rfl) (by kernel_rfl) ?_
 · simp [isNm, *]
 iterate 13 kernel_rfl
noncomputable def c146 : Code := bodyOf Tryz.f146
theorem line_spec (c : UInt8)  : CallsP cx 146 [.int .u8 (((c : UInt8).toNat : Nat) : Int)] (.bool (isLn c)) := by
 refine func_intro (cx := cx) 5 0 [(ResultVar.tmp 2)] Tryz.func146 rfl rfl rfl rfl rfl (by simp) ?_
 show wpA cx 5 0 (at_ c146 []) _ _ _
 refine qZ [(0, .int .u8 (((c : UInt8).toNat : Nat) : Int))] [] ?_ ?_
 refine qU 1 [(0, .int .u8 (((c : UInt8).toNat : Nat) : Int))] ?_ ?_
 refine qV 3 ?_ ?_
 refine qT ?_ ?_
 refine leafB (b := ((((c : UInt8).toNat : Nat) : Int) != 10)) (.inr rfl) (by kernel_rfl) ?_
 by_cases hb1 : c = (10 : UInt8)
 refine Eq.trans (u8t_neq (a := c) (b := (10 : UInt8)) (by kernel_rfl) (by kernel_rfl) hb1) ?_
 · simp [isLn, *]
 refine Eq.trans (u8f_neq (a := c) (b := (10 : UInt8)) (by kernel_rfl) (by kernel_rfl) hb1) ?_
 · simp [isLn, *]
 iterate 4 kernel_rfl
noncomputable def c145 : Code := bodyOf Tryz.f145
theorem run_spec (s : List UInt8) (cls : Nat) (p : UInt8 → Bool) (hc : ∀ c : UInt8, CallsP cx cls [.int .u8 ((c.toNat : Nat) : Int)] (.bool (p c))) (hs : s.length < 1000000000) : CallsP cx 145 [.str s, .fn (.func cls) [] []] (.int .i64 (((s.takeWhile p).length : Nat) : Int)) := by
 refine func_intro (cx := cx) 20 0 [(ResultVar.tmp 4)] Tryz.func145 rfl rfl rfl rfl rfl (by simp) ?_
 show wpA cx 20 0 (at_ c145 []) _ _ _
 refine qZ [(0, .str s), (1, .fn (.func cls) [] [])] [] ?_ ?_
 refine qU 1 [(0, .str s), (1, .fn (.func cls) [] [])] ?_ ?_
 refine qU 1 [(0, .str s), (1, .fn (.func cls) [] []), (5, .int .i64 0)] ?_ ?_
 refine qSeq ?_ ?_
 refine qB 0 ?_ ?_ ?_
 refine wLoop (σ := Nat) (fun k => [(0, .str s), (1, .fn (.func cls) [] []), (5, .int .i64 ((k : Nat) : Int))]) (fun k => []) (fun k => k ≤ s.length ∧ ∀ i, i < k → p (s.getD i 0) = true) (fun k => s.length - k) 0 (by kernel_rfl) (by simp) ⟨⟨(by kernel_rfl), (by kernel_rfl), (by kernel_rfl), trivial⟩, by simp [BelL, AVal.bel], by simp, (by kernel_rfl), by simp⟩ ?_
 rintro k ⟨hk, ha⟩
 refine qSeq ?_ ?_
 refine qV 5 ?_ ?_
 by_cases hb1 : ((k : Nat) : Int) < ((s.length : Nat) : Int)
 refine qm [9, 10] (decide_eq_true hb1) ?_ ?_
 refine qr 3 ?_ ?_
 refine qy (o_index (k := .i64) (s := s) (i := ((k : Nat) : Int)) (by kernel_rfl) ty9 (by omega) (by omega)) ?_ ?_ ?_
 refine qc [.int .u8 ((((s.getD k 0) : UInt8).toNat : Nat) : Int)] (hc (s.getD k 0)) ?_ ?_
 refine qR 1 [(0, .str s), (1, .fn (.func cls) [] []), (5, nI k), (11, .fn (.func cls) [] []), (12, .str s), (13, nI k), (14, .int .u8 ((((s.getD k 0) : UInt8).toNat : Nat) : Int)), (15, .bool (p (s.getD k 0))), (16, .bool (p (s.getD k 0)))] [] ?_ ?_
 by_cases hb2 : (p (s.getD k 0)) = true
 refine qt (hb2) ?_ ?_
 refine qK ?_ ?_
 refine qz [(0, .str s), (1, .fn (.func cls) [] []), (5, nI k), (11, .fn (.func cls) [] []), (12, .str s), (13, nI k), (14, .int .u8 ((((s.getD k 0) : UInt8).toNat : Nat) : Int)), (15, .bool (p (s.getD k 0)))] ?_ ?_
 refine qB 1 ?_ ?_ ?_
 refine qo ?_ ?_
 refine qr 1 ?_ ?_
 refine qy (o_add (a := ((k : Nat) : Int)) (b := 1) (by kernel_rfl) (by omega) (by omega)) ?_ ?_ ?_
 refine qr 1 ?_ ?_
 refine qe ?_ ?_
 refine AIn_normal ?_
 refine AThen_normal ⟨k + 1, ?_, ?_, ⟨⟨(by kernel_rfl), (by kernel_rfl), (by kernel_rfl), trivial⟩, by simp [BelL, AVal.bel], by simp, (by kernel_rfl), by simp⟩⟩
 · omega
 · refine ⟨by omega, fun i hi => ?_⟩
   rcases Nat.lt_succ_iff_lt_or_eq.1 hi with h | h
   · exact ha i h
   · subst h; assumption
 iterate 11 kernel_rfl
 refine qf (Bool.eq_false_iff.2 hb2) ?_ ?_
 refine wExit 0 (by kernel_rfl) (by kernel_rfl) ?_
 refine AThen_exit ?_
 refine AThen_exit ?_
 refine AIn_exit ?_
 refine AThen_normal ?_
 refine qz [(5, nI k)] ?_ ?_
 refine qV 2 ?_ ?_
 refine qT ?_ ?_
 refine leafI (n := ((k : Nat) : Int)) (.inr rfl) (by kernel_rfl) ?_
 rotate_left
 iterate 10 kernel_rfl
 refine qm [9, 10] (decide_eq_false hb1) ?_ ?_
 refine qR 6 [(0, .str s), (1, .fn (.func cls) [] []), (5, nI k), (11, .tup []), (12, .tup []), (13, .tup []), (14, .tup []), (15, .tup []), (16, .bool false)] [] ?_ ?_
 refine wIfF (by kernel_rfl) (by kernel_rfl) ?_
 refine wExit 0 (by kernel_rfl) (by kernel_rfl) ?_
 refine AThen_exit ?_
 refine AThen_exit ?_
 refine AIn_exit ?_
 refine AThen_normal ?_
 refine qz [(5, nI k)] ?_ ?_
 refine qV 2 ?_ ?_
 refine qT ?_ ?_
 refine leafI (n := ((k : Nat) : Int)) (.inr rfl) (by kernel_rfl) ?_
 rotate_left
 iterate 13 kernel_rfl
 all_goals
  refine congrArg _ (tw_len p s k hk ha ?_).symm
  first | (right; simp_all; done) | (left; omega)
noncomputable def c190 : Code := bodyOf Tryz.f190
theorem nan_spec (s : List UInt8)  : CallsP cx 190 [.str s] (.bool false) := by
 refine func_intro (cx := cx) 6 0 [(ResultVar.tmp 2)] Tryz.func190 rfl rfl rfl rfl rfl (by simp) ?_
 show wpA cx 6 0 (at_ c190 []) _ _ _
 refine qZ [(0, .str s)] [] ?_ ?_
 refine qU 1 [(0, .str s)] ?_ ?_
 refine qV 4 ?_ ?_
 refine qT ?_ ?_
 refine leafB (b := (!(s == s))) (.inr rfl) (by kernel_rfl) ?_
 by_cases hb1 : s = s
 refine Eq.trans (congrArg not (beq_iff_eq.2 hb1)) ?_
 · simp_all
 refine Eq.trans (congrArg not (beq_eq_false_iff_ne.2 hb1)) ?_
 · simp_all
 iterate 4 kernel_rfl
noncomputable def c210 : Code := bodyOf Tryz.f210
theorem nan2_spec (s : List UInt8)  : CallsP cx 210 [.str s] (.bool false) := by
 refine func_intro (cx := cx) 6 0 [(ResultVar.tmp 2)] Tryz.func210 rfl rfl rfl rfl rfl (by simp) ?_
 show wpA cx 6 0 (at_ c210 []) _ _ _
 refine qZ [(0, .str s)] [] ?_ ?_
 refine qU 1 [(0, .str s)] ?_ ?_
 refine qV 4 ?_ ?_
 refine qT ?_ ?_
 refine leafB (b := (!(s == s))) (.inr rfl) (by kernel_rfl) ?_
 by_cases hb1 : s = s
 refine Eq.trans (congrArg not (beq_iff_eq.2 hb1)) ?_
 · simp_all
 refine Eq.trans (congrArg not (beq_eq_false_iff_ne.2 hb1)) ?_
 · simp_all
 iterate 4 kernel_rfl
noncomputable def c160 : Code := bodyOf Tryz.f160
theorem less_spec (a b : List UInt8)  : CallsP cx 160 [.str a, .str b] (.bool (sLess a b)) := by
 refine func_intro (cx := cx) 17 0 [(ResultVar.tmp 4)] Tryz.func160 rfl rfl rfl rfl rfl (by simp) ?_
 show wpA cx 17 0 (at_ c160 []) _ _ _
 refine qZ [(0, .str a), (1, .str b)] [] ?_ ?_
 refine qU 1 [(0, .str a), (1, .str b)] ?_ ?_
 refine qV 1 ?_ ?_
 refine qc [.str a] (nan_spec a) ?_ ?_
 refine qX 11 ?_ ?_
 refine leafB (b := (sLess a b)) (.inr rfl) (by kernel_rfl) ?_
 · rfl
 iterate 5 kernel_rfl
noncomputable def c211 : Code := bodyOf Tryz.f211
theorem pre1_spec (a b : List UInt8)  : CallsP cx 211 [.str a, .str b] (.bool (hasPre a b)) := by
 refine func_intro (cx := cx) 18 0 [(ResultVar.tmp 4)] Tryz.func211 rfl rfl rfl rfl rfl (by simp) ?_
 show wpA cx 18 0 (at_ c211 []) _ _ _
 refine qZ [(0, .str a), (1, .str b)] [] ?_ ?_
 refine qU 1 [(0, .str a), (1, .str b)] ?_ ?_
 refine qV 6 ?_ ?_
 by_cases hb1 : ((a.length : Nat) : Int) ≥ ((b.length : Nat) : Int)
 refine qm [9, 10] (decide_eq_true hb1) ?_ ?_
 refine qr 3 ?_ ?_
 refine qy (o_slcto (hi := (some (.int .i64 ((b.length : Nat) : Int)))) (s := a) (y := ((b.length : Nat) : Int)) (by kernel_rfl) ty9 (by kernel_rfl) (by omega) (by omega)) ?_ ?_ ?_
 refine qX 4 ?_ ?_
 refine leafB (b := ((a.take b.length) == b)) (.inr rfl) (by kernel_rfl) ?_
 rotate_left
 iterate 5 kernel_rfl
 refine qm [9, 10] (decide_eq_false hb1) ?_ ?_
 refine qX 8 ?_ ?_
 refine leafB (b := false) (.inr rfl) (by kernel_rfl) ?_
 rotate_left
 iterate 5 kernel_rfl
 all_goals
  first | (simp_all [hasPre]; done) | (simp only [hasPre]; symm; rw [beq_eq_false_iff_ne]; intro e; have := congrArg List.length e; simp at this; omega)
noncomputable def c198 : Code := bodyOf Tryz.f198
theorem pre_spec (a b : List UInt8)  : CallsP cx 198 [.str a, .str b] (.bool (hasPre a b)) := by
 refine func_intro (cx := cx) 8 0 [(ResultVar.tmp 4)] Tryz.func198 rfl rfl rfl rfl rfl (by simp) ?_
 show wpA cx 8 0 (at_ c198 []) _ _ _
 refine qZ [(0, .str a), (1, .str b)] [] ?_ ?_
 refine qU 1 [(0, .str a), (1, .str b)] ?_ ?_
 refine qV 2 ?_ ?_
 refine qc [.str a, .str b] (pre1_spec a b) ?_ ?_
 refine qX 1 ?_ ?_
 refine leafB (b := (hasPre a b)) (.inr rfl) (by kernel_rfl) ?_
 · rfl
 iterate 5 kernel_rfl
noncomputable def c176 : Code := bodyOf Tryz.f176
theorem symbol_spec (s : List UInt8)  : CallsP cx 176 [.str s] (.int .i64 ((symLen s : Nat) : Int)) := by
 refine func_intro (cx := cx) 15 0 [(ResultVar.tmp 2)] Tryz.func176 rfl rfl rfl rfl rfl (by simp) ?_
 show wpA cx 15 0 (at_ c176 []) _ _ _
 refine qZ [(0, .str s)] [] ?_ ?_
 refine qU 1 [(0, .str s)] ?_ ?_
 refine qSeq ?_ ?_
 refine qU 2 [(0, .str s), (5, .agg syCells), (6, .int .i64 0)] ?_ ?_
 refine qB 0 ?_ ?_ ?_
 refine wUnr 25 (by kernel_rfl) ?_
 refine rndS ?_
 refine qW 1 [(0, .str s), (5, .agg syCells), (6, .int .i64 0), (7, .bool true)] [] ?_ ?_
 refine qSeq ?_ ?_
 refine wIfT (by kernel_rfl) (by kernel_rfl) ?_
 refine qK ?_ ?_
 refine qz [(0, .str s), (5, .agg syCells), (6, .int .i64 0)] ?_ ?_
 refine qSeq ?_ ?_
 refine qB 1 ?_ ?_ ?_
 refine qU 2 [(0, .str s), (4, .str [61, 61]), (5, .agg syCells), (6, .int .i64 0)] ?_ ?_
 refine qV 2 ?_ ?_
 refine qc [.str s, .str [61, 61]] (pre_spec s [61, 61]) ?_ ?_
 refine qN [(0, .str s), (4, .str [61, 61]), (5, .agg syCells), (6, .int .i64 0), (11, .bool (hasPre s [61, 61]))] [] ?_ ?_
 by_cases hb1 : (hasPre s [61, 61]) = true
 refine qt (hb1) ?_ ?_
 refine qV 3 ?_ ?_
 refine qT ?_ ?_
 apply iR
 apply aR
 apply aR
 apply iR
 apply aR
 refine leafI (n := 2) (.inr rfl) (by kernel_rfl) ?_
 rotate_left
 iterate 3 kernel_rfl
 refine qf (Bool.eq_false_iff.2 hb1) ?_ ?_
 refine qk ?_ ?_
 refine AIn_normal ?_
 refine AThen_normal ?_
 refine qz [(0, .str s), (5, .agg syCells), (6, .int .i64 0)] ?_ ?_
 refine qo ?_ ?_
 refine qr 2 ?_ ?_
 refine qe ?_ ?_
 refine AThen_normal ?_
 refine rSt [0, 5, 6] [(0, .str s), (5, .agg syCells), (6, .int .i64 1)] [] (by kernel_rfl) (by kernel_rfl) ?_
 refine rndS ?_
 refine qW 1 [(0, .str s), (5, .agg syCells), (6, .int .i64 1), (7, .bool true)] [] ?_ ?_
 refine qSeq ?_ ?_
 refine wIfT (by kernel_rfl) (by kernel_rfl) ?_
 refine qK ?_ ?_
 refine qz [(0, .str s), (5, .agg syCells), (6, .int .i64 1)] ?_ ?_
 refine qSeq ?_ ?_
 refine qB 1 ?_ ?_ ?_
 refine qU 2 [(0, .str s), (4, .str [33, 61]), (5, .agg syCells), (6, .int .i64 1)] ?_ ?_
 refine qV 2 ?_ ?_
 refine qc [.str s, .str [33, 61]] (pre_spec s [33, 61]) ?_ ?_
 refine qN [(0, .str s), (4, .str [33, 61]), (5, .agg syCells), (6, .int .i64 1), (11, .bool (hasPre s [33, 61]))] [] ?_ ?_
 by_cases hb2 : (hasPre s [33, 61]) = true
 refine qt (hb2) ?_ ?_
 refine qV 3 ?_ ?_
 refine qT ?_ ?_
 apply iR
 apply aR
 apply aR
 apply iR
 apply aR
 refine leafI (n := 2) (.inr rfl) (by kernel_rfl) ?_
 rotate_left
 iterate 3 kernel_rfl
 refine qf (Bool.eq_false_iff.2 hb2) ?_ ?_
 refine qk ?_ ?_
 refine AIn_normal ?_
 refine AThen_normal ?_
 refine qz [(0, .str s), (5, .agg syCells), (6, .int .i64 1)] ?_ ?_
 refine qo ?_ ?_
 refine qr 2 ?_ ?_
 refine qe ?_ ?_
 refine AThen_normal ?_
 refine rSt [0, 5, 6] [(0, .str s), (5, .agg syCells), (6, .int .i64 2)] [] (by kernel_rfl) (by kernel_rfl) ?_
 refine rndS ?_
 refine qW 1 [(0, .str s), (5, .agg syCells), (6, .int .i64 2), (7, .bool true)] [] ?_ ?_
 refine qSeq ?_ ?_
 refine wIfT (by kernel_rfl) (by kernel_rfl) ?_
 refine qK ?_ ?_
 refine qz [(0, .str s), (5, .agg syCells), (6, .int .i64 2)] ?_ ?_
 refine qSeq ?_ ?_
 refine qB 1 ?_ ?_ ?_
 refine qU 2 [(0, .str s), (4, .str [60, 61]), (5, .agg syCells), (6, .int .i64 2)] ?_ ?_
 refine qV 2 ?_ ?_
 refine qc [.str s, .str [60, 61]] (pre_spec s [60, 61]) ?_ ?_
 refine qN [(0, .str s), (4, .str [60, 61]), (5, .agg syCells), (6, .int .i64 2), (11, .bool (hasPre s [60, 61]))] [] ?_ ?_
 by_cases hb3 : (hasPre s [60, 61]) = true
 refine qt (hb3) ?_ ?_
 refine qV 3 ?_ ?_
 refine qT ?_ ?_
 apply iR
 apply aR
 apply aR
 apply iR
 apply aR
 refine leafI (n := 2) (.inr rfl) (by kernel_rfl) ?_
 rotate_left
 iterate 3 kernel_rfl
 refine qf (Bool.eq_false_iff.2 hb3) ?_ ?_
 refine qk ?_ ?_
 refine AIn_normal ?_
 refine AThen_normal ?_
 refine qz [(0, .str s), (5, .agg syCells), (6, .int .i64 2)] ?_ ?_
 refine qo ?_ ?_
 refine qr 2 ?_ ?_
 refine qe ?_ ?_
 refine AThen_normal ?_
 refine rSt [0, 5, 6] [(0, .str s), (5, .agg syCells), (6, .int .i64 3)] [] (by kernel_rfl) (by kernel_rfl) ?_
 refine rndS ?_
 refine qW 1 [(0, .str s), (5, .agg syCells), (6, .int .i64 3), (7, .bool true)] [] ?_ ?_
 refine qSeq ?_ ?_
 refine wIfT (by kernel_rfl) (by kernel_rfl) ?_
 refine qK ?_ ?_
 refine qz [(0, .str s), (5, .agg syCells), (6, .int .i64 3)] ?_ ?_
 refine qSeq ?_ ?_
 refine qB 1 ?_ ?_ ?_
 refine qU 2 [(0, .str s), (4, .str [60, 45]), (5, .agg syCells), (6, .int .i64 3)] ?_ ?_
 refine qV 2 ?_ ?_
 refine qc [.str s, .str [60, 45]] (pre_spec s [60, 45]) ?_ ?_
 refine qN [(0, .str s), (4, .str [60, 45]), (5, .agg syCells), (6, .int .i64 3), (11, .bool (hasPre s [60, 45]))] [] ?_ ?_
 by_cases hb4 : (hasPre s [60, 45]) = true
 refine qt (hb4) ?_ ?_
 refine qV 3 ?_ ?_
 refine qT ?_ ?_
 apply iR
 apply aR
 apply aR
 apply iR
 apply aR
 refine leafI (n := 2) (.inr rfl) (by kernel_rfl) ?_
 rotate_left
 iterate 3 kernel_rfl
 refine qf (Bool.eq_false_iff.2 hb4) ?_ ?_
 refine qk ?_ ?_
 refine AIn_normal ?_
 refine AThen_normal ?_
 refine qz [(0, .str s), (5, .agg syCells), (6, .int .i64 3)] ?_ ?_
 refine qo ?_ ?_
 refine qr 2 ?_ ?_
 refine qe ?_ ?_
 refine AThen_normal ?_
 refine rSt [0, 5, 6] [(0, .str s), (5, .agg syCells), (6, .int .i64 4)] [] (by kernel_rfl) (by kernel_rfl) ?_
 refine rndS ?_
 refine qW 1 [(0, .str s), (5, .agg syCells), (6, .int .i64 4), (7, .bool true)] [] ?_ ?_
 refine qSeq ?_ ?_
 refine wIfT (by kernel_rfl) (by kernel_rfl) ?_
 refine qK ?_ ?_
 refine qz [(0, .str s), (5, .agg syCells), (6, .int .i64 4)] ?_ ?_
 refine qSeq ?_ ?_
 refine qB 1 ?_ ?_ ?_
 refine qU 2 [(0, .str s), (4, .str [45, 62]), (5, .agg syCells), (6, .int .i64 4)] ?_ ?_
 refine qV 2 ?_ ?_
 refine qc [.str s, .str [45, 62]] (pre_spec s [45, 62]) ?_ ?_
 refine qN [(0, .str s), (4, .str [45, 62]), (5, .agg syCells), (6, .int .i64 4), (11, .bool (hasPre s [45, 62]))] [] ?_ ?_
 by_cases hb5 : (hasPre s [45, 62]) = true
 refine qt (hb5) ?_ ?_
 refine qV 3 ?_ ?_
 refine qT ?_ ?_
 apply iR
 apply aR
 apply aR
 apply iR
 apply aR
 refine leafI (n := 2) (.inr rfl) (by kernel_rfl) ?_
 rotate_left
 iterate 3 kernel_rfl
 refine qf (Bool.eq_false_iff.2 hb5) ?_ ?_
 refine qk ?_ ?_
 refine AIn_normal ?_
 refine AThen_normal ?_
 refine qz [(0, .str s), (5, .agg syCells), (6, .int .i64 4)] ?_ ?_
 refine qo ?_ ?_
 refine qr 2 ?_ ?_
 refine qe ?_ ?_
 refine AThen_normal ?_
 refine rSt [0, 5, 6] [(0, .str s), (5, .agg syCells), (6, .int .i64 5)] [] (by kernel_rfl) (by kernel_rfl) ?_
 refine rndS ?_
 refine qW 1 [(0, .str s), (5, .agg syCells), (6, .int .i64 5), (7, .bool true)] [] ?_ ?_
 refine qSeq ?_ ?_
 refine wIfT (by kernel_rfl) (by kernel_rfl) ?_
 refine qK ?_ ?_
 refine qz [(0, .str s), (5, .agg syCells), (6, .int .i64 5)] ?_ ?_
 refine qSeq ?_ ?_
 refine qB 1 ?_ ?_ ?_
 refine qU 2 [(0, .str s), (4, .str [43, 43]), (5, .agg syCells), (6, .int .i64 5)] ?_ ?_
 refine qV 2 ?_ ?_
 refine qc [.str s, .str [43, 43]] (pre_spec s [43, 43]) ?_ ?_
 refine qN [(0, .str s), (4, .str [43, 43]), (5, .agg syCells), (6, .int .i64 5), (11, .bool (hasPre s [43, 43]))] [] ?_ ?_
 by_cases hb6 : (hasPre s [43, 43]) = true
 refine qt (hb6) ?_ ?_
 refine qV 3 ?_ ?_
 refine qT ?_ ?_
 apply iR
 apply aR
 apply aR
 apply iR
 apply aR
 refine leafI (n := 2) (.inr rfl) (by kernel_rfl) ?_
 rotate_left
 iterate 3 kernel_rfl
 refine qf (Bool.eq_false_iff.2 hb6) ?_ ?_
 refine qk ?_ ?_
 refine AIn_normal ?_
 refine AThen_normal ?_
 refine qz [(0, .str s), (5, .agg syCells), (6, .int .i64 5)] ?_ ?_
 refine qo ?_ ?_
 refine qr 2 ?_ ?_
 refine qe ?_ ?_
 refine AThen_normal ?_
 refine rSt [0, 5, 6] [(0, .str s), (5, .agg syCells), (6, .int .i64 6)] [] (by kernel_rfl) (by kernel_rfl) ?_
 refine rndS ?_
 refine qW 1 [(0, .str s), (5, .agg syCells), (6, .int .i64 6), (7, .bool true)] [] ?_ ?_
 refine qSeq ?_ ?_
 refine wIfT (by kernel_rfl) (by kernel_rfl) ?_
 refine qK ?_ ?_
 refine qz [(0, .str s), (5, .agg syCells), (6, .int .i64 6)] ?_ ?_
 refine qSeq ?_ ?_
 refine qB 1 ?_ ?_ ?_
 refine qU 2 [(0, .str s), (4, .str [60]), (5, .agg syCells), (6, .int .i64 6)] ?_ ?_
 refine qV 2 ?_ ?_
 refine qc [.str s, .str [60]] (pre_spec s [60]) ?_ ?_
 refine qN [(0, .str s), (4, .str [60]), (5, .agg syCells), (6, .int .i64 6), (11, .bool (hasPre s [60]))] [] ?_ ?_
 by_cases hb7 : (hasPre s [60]) = true
 refine qt (hb7) ?_ ?_
 refine qV 3 ?_ ?_
 refine qT ?_ ?_
 apply iR
 apply aR
 apply aR
 apply iR
 apply aR
 refine leafI (n := 1) (.inr rfl) (by kernel_rfl) ?_
 rotate_left
 iterate 3 kernel_rfl
 refine qf (Bool.eq_false_iff.2 hb7) ?_ ?_
 refine qk ?_ ?_
 refine AIn_normal ?_
 refine AThen_normal ?_
 refine qz [(0, .str s), (5, .agg syCells), (6, .int .i64 6)] ?_ ?_
 refine qo ?_ ?_
 refine qr 2 ?_ ?_
 refine qe ?_ ?_
 refine AThen_normal ?_
 refine rSt [0, 5, 6] [(0, .str s), (5, .agg syCells), (6, .int .i64 7)] [] (by kernel_rfl) (by kernel_rfl) ?_
 refine rndS ?_
 refine qW 1 [(0, .str s), (5, .agg syCells), (6, .int .i64 7), (7, .bool true)] [] ?_ ?_
 refine qSeq ?_ ?_
 refine wIfT (by kernel_rfl) (by kernel_rfl) ?_
 refine qK ?_ ?_
 refine qz [(0, .str s), (5, .agg syCells), (6, .int .i64 7)] ?_ ?_
 refine qSeq ?_ ?_
 refine qB 1 ?_ ?_ ?_
 refine qU 2 [(0, .str s), (4, .str [62]), (5, .agg syCells), (6, .int .i64 7)] ?_ ?_
 refine qV 2 ?_ ?_
 refine qc [.str s, .str [62]] (pre_spec s [62]) ?_ ?_
 refine qN [(0, .str s), (4, .str [62]), (5, .agg syCells), (6, .int .i64 7), (11, .bool (hasPre s [62]))] [] ?_ ?_
 by_cases hb8 : (hasPre s [62]) = true
 refine qt (hb8) ?_ ?_
 refine qV 3 ?_ ?_
 refine qT ?_ ?_
 apply iR
 apply aR
 apply aR
 apply iR
 apply aR
 refine leafI (n := 1) (.inr rfl) (by kernel_rfl) ?_
 rotate_left
 iterate 3 kernel_rfl
 refine qf (Bool.eq_false_iff.2 hb8) ?_ ?_
 refine qk ?_ ?_
 refine AIn_normal ?_
 refine AThen_normal ?_
 refine qz [(0, .str s), (5, .agg syCells), (6, .int .i64 7)] ?_ ?_
 refine qo ?_ ?_
 refine qr 2 ?_ ?_
 refine qe ?_ ?_
 refine AThen_normal ?_
 refine rSt [0, 5, 6] [(0, .str s), (5, .agg syCells), (6, .int .i64 8)] [] (by kernel_rfl) (by kernel_rfl) ?_
 refine rndS ?_
 refine qW 1 [(0, .str s), (5, .agg syCells), (6, .int .i64 8), (7, .bool true)] [] ?_ ?_
 refine qSeq ?_ ?_
 refine wIfT (by kernel_rfl) (by kernel_rfl) ?_
 refine qK ?_ ?_
 refine qz [(0, .str s), (5, .agg syCells), (6, .int .i64 8)] ?_ ?_
 refine qSeq ?_ ?_
 refine qB 1 ?_ ?_ ?_
 refine qU 2 [(0, .str s), (4, .str [61]), (5, .agg syCells), (6, .int .i64 8)] ?_ ?_
 refine qV 2 ?_ ?_
 refine qc [.str s, .str [61]] (pre_spec s [61]) ?_ ?_
 refine qN [(0, .str s), (4, .str [61]), (5, .agg syCells), (6, .int .i64 8), (11, .bool (hasPre s [61]))] [] ?_ ?_
 by_cases hb9 : (hasPre s [61]) = true
 refine qt (hb9) ?_ ?_
 refine qV 3 ?_ ?_
 refine qT ?_ ?_
 apply iR
 apply aR
 apply aR
 apply iR
 apply aR
 refine leafI (n := 1) (.inr rfl) (by kernel_rfl) ?_
 rotate_left
 iterate 3 kernel_rfl
 refine qf (Bool.eq_false_iff.2 hb9) ?_ ?_
 refine qk ?_ ?_
 refine AIn_normal ?_
 refine AThen_normal ?_
 refine qz [(0, .str s), (5, .agg syCells), (6, .int .i64 8)] ?_ ?_
 refine qo ?_ ?_
 refine qr 2 ?_ ?_
 refine qe ?_ ?_
 refine AThen_normal ?_
 refine rSt [0, 5, 6] [(0, .str s), (5, .agg syCells), (6, .int .i64 9)] [] (by kernel_rfl) (by kernel_rfl) ?_
 refine rndS ?_
 refine qW 1 [(0, .str s), (5, .agg syCells), (6, .int .i64 9), (7, .bool true)] [] ?_ ?_
 refine qSeq ?_ ?_
 refine wIfT (by kernel_rfl) (by kernel_rfl) ?_
 refine qK ?_ ?_
 refine qz [(0, .str s), (5, .agg syCells), (6, .int .i64 9)] ?_ ?_
 refine qSeq ?_ ?_
 refine qB 1 ?_ ?_ ?_
 refine qU 2 [(0, .str s), (4, .str [43]), (5, .agg syCells), (6, .int .i64 9)] ?_ ?_
 refine qV 2 ?_ ?_
 refine qc [.str s, .str [43]] (pre_spec s [43]) ?_ ?_
 refine qN [(0, .str s), (4, .str [43]), (5, .agg syCells), (6, .int .i64 9), (11, .bool (hasPre s [43]))] [] ?_ ?_
 by_cases hb10 : (hasPre s [43]) = true
 refine qt (hb10) ?_ ?_
 refine qV 3 ?_ ?_
 refine qT ?_ ?_
 apply iR
 apply aR
 apply aR
 apply iR
 apply aR
 refine leafI (n := 1) (.inr rfl) (by kernel_rfl) ?_
 rotate_left
 iterate 3 kernel_rfl
 refine qf (Bool.eq_false_iff.2 hb10) ?_ ?_
 refine qk ?_ ?_
 refine AIn_normal ?_
 refine AThen_normal ?_
 refine qz [(0, .str s), (5, .agg syCells), (6, .int .i64 9)] ?_ ?_
 refine qo ?_ ?_
 refine qr 2 ?_ ?_
 refine qe ?_ ?_
 refine AThen_normal ?_
 refine rSt [0, 5, 6] [(0, .str s), (5, .agg syCells), (6, .int .i64 10)] [] (by kernel_rfl) (by kernel_rfl) ?_
 refine rndS ?_
 refine qW 1 [(0, .str s), (5, .agg syCells), (6, .int .i64 10), (7, .bool true)] [] ?_ ?_
 refine qSeq ?_ ?_
 refine wIfT (by kernel_rfl) (by kernel_rfl) ?_
 refine qK ?_ ?_
 refine qz [(0, .str s), (5, .agg syCells), (6, .int .i64 10)] ?_ ?_
 refine qSeq ?_ ?_
 refine qB 1 ?_ ?_ ?_
 refine qU 2 [(0, .str s), (4, .str [45]), (5, .agg syCells), (6, .int .i64 10)] ?_ ?_
 refine qV 2 ?_ ?_
 refine qc [.str s, .str [45]] (pre_spec s [45]) ?_ ?_
 refine qN [(0, .str s), (4, .str [45]), (5, .agg syCells), (6, .int .i64 10), (11, .bool (hasPre s [45]))] [] ?_ ?_
 by_cases hb11 : (hasPre s [45]) = true
 refine qt (hb11) ?_ ?_
 refine qV 3 ?_ ?_
 refine qT ?_ ?_
 apply iR
 apply aR
 apply aR
 apply iR
 apply aR
 refine leafI (n := 1) (.inr rfl) (by kernel_rfl) ?_
 rotate_left
 iterate 3 kernel_rfl
 refine qf (Bool.eq_false_iff.2 hb11) ?_ ?_
 refine qk ?_ ?_
 refine AIn_normal ?_
 refine AThen_normal ?_
 refine qz [(0, .str s), (5, .agg syCells), (6, .int .i64 10)] ?_ ?_
 refine qo ?_ ?_
 refine qr 2 ?_ ?_
 refine qe ?_ ?_
 refine AThen_normal ?_
 refine rSt [0, 5, 6] [(0, .str s), (5, .agg syCells), (6, .int .i64 11)] [] (by kernel_rfl) (by kernel_rfl) ?_
 refine rndS ?_
 refine qW 1 [(0, .str s), (5, .agg syCells), (6, .int .i64 11), (7, .bool true)] [] ?_ ?_
 refine qSeq ?_ ?_
 refine wIfT (by kernel_rfl) (by kernel_rfl) ?_
 refine qK ?_ ?_
 refine qz [(0, .str s), (5, .agg syCells), (6, .int .i64 11)] ?_ ?_
 refine qSeq ?_ ?_
 refine qB 1 ?_ ?_ ?_
 refine qU 2 [(0, .str s), (4, .str [42]), (5, .agg syCells), (6, .int .i64 11)] ?_ ?_
 refine qV 2 ?_ ?_
 refine qc [.str s, .str [42]] (pre_spec s [42]) ?_ ?_
 refine qN [(0, .str s), (4, .str [42]), (5, .agg syCells), (6, .int .i64 11), (11, .bool (hasPre s [42]))] [] ?_ ?_
 by_cases hb12 : (hasPre s [42]) = true
 refine qt (hb12) ?_ ?_
 refine qV 3 ?_ ?_
 refine qT ?_ ?_
 apply iR
 apply aR
 apply aR
 apply iR
 apply aR
 refine leafI (n := 1) (.inr rfl) (by kernel_rfl) ?_
 rotate_left
 iterate 3 kernel_rfl
 refine qf (Bool.eq_false_iff.2 hb12) ?_ ?_
 refine qk ?_ ?_
 refine AIn_normal ?_
 refine AThen_normal ?_
 refine qz [(0, .str s), (5, .agg syCells), (6, .int .i64 11)] ?_ ?_
 refine qo ?_ ?_
 refine qr 2 ?_ ?_
 refine qe ?_ ?_
 refine AThen_normal ?_
 refine rSt [0, 5, 6] [(0, .str s), (5, .agg syCells), (6, .int .i64 12)] [] (by kernel_rfl) (by kernel_rfl) ?_
 refine rndS ?_
 refine qW 1 [(0, .str s), (5, .agg syCells), (6, .int .i64 12), (7, .bool true)] [] ?_ ?_
 refine qSeq ?_ ?_
 refine wIfT (by kernel_rfl) (by kernel_rfl) ?_
 refine qK ?_ ?_
 refine qz [(0, .str s), (5, .agg syCells), (6, .int .i64 12)] ?_ ?_
 refine qSeq ?_ ?_
 refine qB 1 ?_ ?_ ?_
 refine qU 2 [(0, .str s), (4, .str [40]), (5, .agg syCells), (6, .int .i64 12)] ?_ ?_
 refine qV 2 ?_ ?_
 refine qc [.str s, .str [40]] (pre_spec s [40]) ?_ ?_
 refine qN [(0, .str s), (4, .str [40]), (5, .agg syCells), (6, .int .i64 12), (11, .bool (hasPre s [40]))] [] ?_ ?_
 by_cases hb13 : (hasPre s [40]) = true
 refine qt (hb13) ?_ ?_
 refine qV 3 ?_ ?_
 refine qT ?_ ?_
 apply iR
 apply aR
 apply aR
 apply iR
 apply aR
 refine leafI (n := 1) (.inr rfl) (by kernel_rfl) ?_
 rotate_left
 iterate 3 kernel_rfl
 refine qf (Bool.eq_false_iff.2 hb13) ?_ ?_
 refine qk ?_ ?_
 refine AIn_normal ?_
 refine AThen_normal ?_
 refine qz [(0, .str s), (5, .agg syCells), (6, .int .i64 12)] ?_ ?_
 refine qo ?_ ?_
 refine qr 2 ?_ ?_
 refine qe ?_ ?_
 refine AThen_normal ?_
 refine rSt [0, 5, 6] [(0, .str s), (5, .agg syCells), (6, .int .i64 13)] [] (by kernel_rfl) (by kernel_rfl) ?_
 refine rndS ?_
 refine qW 1 [(0, .str s), (5, .agg syCells), (6, .int .i64 13), (7, .bool true)] [] ?_ ?_
 refine qSeq ?_ ?_
 refine wIfT (by kernel_rfl) (by kernel_rfl) ?_
 refine qK ?_ ?_
 refine qz [(0, .str s), (5, .agg syCells), (6, .int .i64 13)] ?_ ?_
 refine qSeq ?_ ?_
 refine qB 1 ?_ ?_ ?_
 refine qU 2 [(0, .str s), (4, .str [41]), (5, .agg syCells), (6, .int .i64 13)] ?_ ?_
 refine qV 2 ?_ ?_
 refine qc [.str s, .str [41]] (pre_spec s [41]) ?_ ?_
 refine qN [(0, .str s), (4, .str [41]), (5, .agg syCells), (6, .int .i64 13), (11, .bool (hasPre s [41]))] [] ?_ ?_
 by_cases hb14 : (hasPre s [41]) = true
 refine qt (hb14) ?_ ?_
 refine qV 3 ?_ ?_
 refine qT ?_ ?_
 apply iR
 apply aR
 apply aR
 apply iR
 apply aR
 refine leafI (n := 1) (.inr rfl) (by kernel_rfl) ?_
 rotate_left
 iterate 3 kernel_rfl
 refine qf (Bool.eq_false_iff.2 hb14) ?_ ?_
 refine qk ?_ ?_
 refine AIn_normal ?_
 refine AThen_normal ?_
 refine qz [(0, .str s), (5, .agg syCells), (6, .int .i64 13)] ?_ ?_
 refine qo ?_ ?_
 refine qr 2 ?_ ?_
 refine qe ?_ ?_
 refine AThen_normal ?_
 refine rSt [0, 5, 6] [(0, .str s), (5, .agg syCells), (6, .int .i64 14)] [] (by kernel_rfl) (by kernel_rfl) ?_
 refine rndS ?_
 refine qW 1 [(0, .str s), (5, .agg syCells), (6, .int .i64 14), (7, .bool true)] [] ?_ ?_
 refine qSeq ?_ ?_
 refine wIfT (by kernel_rfl) (by kernel_rfl) ?_
 refine qK ?_ ?_
 refine qz [(0, .str s), (5, .agg syCells), (6, .int .i64 14)] ?_ ?_
 refine qSeq ?_ ?_
 refine qB 1 ?_ ?_ ?_
 refine qU 2 [(0, .str s), (4, .str [123]), (5, .agg syCells), (6, .int .i64 14)] ?_ ?_
 refine qV 2 ?_ ?_
 refine qc [.str s, .str [123]] (pre_spec s [123]) ?_ ?_
 refine qN [(0, .str s), (4, .str [123]), (5, .agg syCells), (6, .int .i64 14), (11, .bool (hasPre s [123]))] [] ?_ ?_
 by_cases hb15 : (hasPre s [123]) = true
 refine qt (hb15) ?_ ?_
 refine qV 3 ?_ ?_
 refine qT ?_ ?_
 apply iR
 apply aR
 apply aR
 apply iR
 apply aR
 refine leafI (n := 1) (.inr rfl) (by kernel_rfl) ?_
 rotate_left
 iterate 3 kernel_rfl
 refine qf (Bool.eq_false_iff.2 hb15) ?_ ?_
 refine qk ?_ ?_
 refine AIn_normal ?_
 refine AThen_normal ?_
 refine qz [(0, .str s), (5, .agg syCells), (6, .int .i64 14)] ?_ ?_
 refine qo ?_ ?_
 refine qr 2 ?_ ?_
 refine qe ?_ ?_
 refine AThen_normal ?_
 refine rSt [0, 5, 6] [(0, .str s), (5, .agg syCells), (6, .int .i64 15)] [] (by kernel_rfl) (by kernel_rfl) ?_
 refine rndS ?_
 refine qW 1 [(0, .str s), (5, .agg syCells), (6, .int .i64 15), (7, .bool true)] [] ?_ ?_
 refine qSeq ?_ ?_
 refine wIfT (by kernel_rfl) (by kernel_rfl) ?_
 refine qK ?_ ?_
 refine qz [(0, .str s), (5, .agg syCells), (6, .int .i64 15)] ?_ ?_
 refine qSeq ?_ ?_
 refine qB 1 ?_ ?_ ?_
 refine qU 2 [(0, .str s), (4, .str [125]), (5, .agg syCells), (6, .int .i64 15)] ?_ ?_
 refine qV 2 ?_ ?_
 refine qc [.str s, .str [125]] (pre_spec s [125]) ?_ ?_
 refine qN [(0, .str s), (4, .str [125]), (5, .agg syCells), (6, .int .i64 15), (11, .bool (hasPre s [125]))] [] ?_ ?_
 by_cases hb16 : (hasPre s [125]) = true
 refine qt (hb16) ?_ ?_
 refine qV 3 ?_ ?_
 refine qT ?_ ?_
 apply iR
 apply aR
 apply aR
 apply iR
 apply aR
 refine leafI (n := 1) (.inr rfl) (by kernel_rfl) ?_
 rotate_left
 iterate 3 kernel_rfl
 refine qf (Bool.eq_false_iff.2 hb16) ?_ ?_
 refine qk ?_ ?_
 refine AIn_normal ?_
 refine AThen_normal ?_
 refine qz [(0, .str s), (5, .agg syCells), (6, .int .i64 15)] ?_ ?_
 refine qo ?_ ?_
 refine qr 2 ?_ ?_
 refine qe ?_ ?_
 refine AThen_normal ?_
 refine rSt [0, 5, 6] [(0, .str s), (5, .agg syCells), (6, .int .i64 16)] [] (by kernel_rfl) (by kernel_rfl) ?_
 refine rndS ?_
 refine qW 1 [(0, .str s), (5, .agg syCells), (6, .int .i64 16), (7, .bool true)] [] ?_ ?_
 refine qSeq ?_ ?_
 refine wIfT (by kernel_rfl) (by kernel_rfl) ?_
 refine qK ?_ ?_
 refine qz [(0, .str s), (5, .agg syCells), (6, .int .i64 16)] ?_ ?_
 refine qSeq ?_ ?_
 refine qB 1 ?_ ?_ ?_
 refine qU 2 [(0, .str s), (4, .str [91]), (5, .agg syCells), (6, .int .i64 16)] ?_ ?_
 refine qV 2 ?_ ?_
 refine qc [.str s, .str [91]] (pre_spec s [91]) ?_ ?_
 refine qN [(0, .str s), (4, .str [91]), (5, .agg syCells), (6, .int .i64 16), (11, .bool (hasPre s [91]))] [] ?_ ?_
 by_cases hb17 : (hasPre s [91]) = true
 refine qt (hb17) ?_ ?_
 refine qV 3 ?_ ?_
 refine qT ?_ ?_
 apply iR
 apply aR
 apply aR
 apply iR
 apply aR
 refine leafI (n := 1) (.inr rfl) (by kernel_rfl) ?_
 rotate_left
 iterate 3 kernel_rfl
 refine qf (Bool.eq_false_iff.2 hb17) ?_ ?_
 refine qk ?_ ?_
 refine AIn_normal ?_
 refine AThen_normal ?_
 refine qz [(0, .str s), (5, .agg syCells), (6, .int .i64 16)] ?_ ?_
 refine qo ?_ ?_
 refine qr 2 ?_ ?_
 refine qe ?_ ?_
 refine AThen_normal ?_
 refine rSt [0, 5, 6] [(0, .str s), (5, .agg syCells), (6, .int .i64 17)] [] (by kernel_rfl) (by kernel_rfl) ?_
 refine rndS ?_
 refine qW 1 [(0, .str s), (5, .agg syCells), (6, .int .i64 17), (7, .bool true)] [] ?_ ?_
 refine qSeq ?_ ?_
 refine wIfT (by kernel_rfl) (by kernel_rfl) ?_
 refine qK ?_ ?_
 refine qz [(0, .str s), (5, .agg syCells), (6, .int .i64 17)] ?_ ?_
 refine qSeq ?_ ?_
 refine qB 1 ?_ ?_ ?_
 refine qU 2 [(0, .str s), (4, .str [93]), (5, .agg syCells), (6, .int .i64 17)] ?_ ?_
 refine qV 2 ?_ ?_
 refine qc [.str s, .str [93]] (pre_spec s [93]) ?_ ?_
 refine qN [(0, .str s), (4, .str [93]), (5, .agg syCells), (6, .int .i64 17), (11, .bool (hasPre s [93]))] [] ?_ ?_
 by_cases hb18 : (hasPre s [93]) = true
 refine qt (hb18) ?_ ?_
 refine qV 3 ?_ ?_
 refine qT ?_ ?_
 apply iR
 apply aR
 apply aR
 apply iR
 apply aR
 refine leafI (n := 1) (.inr rfl) (by kernel_rfl) ?_
 rotate_left
 iterate 3 kernel_rfl
 refine qf (Bool.eq_false_iff.2 hb18) ?_ ?_
 refine qk ?_ ?_
 refine AIn_normal ?_
 refine AThen_normal ?_
 refine qz [(0, .str s), (5, .agg syCells), (6, .int .i64 17)] ?_ ?_
 refine qo ?_ ?_
 refine qr 2 ?_ ?_
 refine qe ?_ ?_
 refine AThen_normal ?_
 refine rSt [0, 5, 6] [(0, .str s), (5, .agg syCells), (6, .int .i64 18)] [] (by kernel_rfl) (by kernel_rfl) ?_
 refine rndS ?_
 refine qW 1 [(0, .str s), (5, .agg syCells), (6, .int .i64 18), (7, .bool true)] [] ?_ ?_
 refine qSeq ?_ ?_
 refine wIfT (by kernel_rfl) (by kernel_rfl) ?_
 refine qK ?_ ?_
 refine qz [(0, .str s), (5, .agg syCells), (6, .int .i64 18)] ?_ ?_
 refine qSeq ?_ ?_
 refine qB 1 ?_ ?_ ?_
 refine qU 2 [(0, .str s), (4, .str [44]), (5, .agg syCells), (6, .int .i64 18)] ?_ ?_
 refine qV 2 ?_ ?_
 refine qc [.str s, .str [44]] (pre_spec s [44]) ?_ ?_
 refine qN [(0, .str s), (4, .str [44]), (5, .agg syCells), (6, .int .i64 18), (11, .bool (hasPre s [44]))] [] ?_ ?_
 by_cases hb19 : (hasPre s [44]) = true
 refine qt (hb19) ?_ ?_
 refine qV 3 ?_ ?_
 refine qT ?_ ?_
 apply iR
 apply aR
 apply aR
 apply iR
 apply aR
 refine leafI (n := 1) (.inr rfl) (by kernel_rfl) ?_
 rotate_left
 iterate 3 kernel_rfl
 refine qf (Bool.eq_false_iff.2 hb19) ?_ ?_
 refine qk ?_ ?_
 refine AIn_normal ?_
 refine AThen_normal ?_
 refine qz [(0, .str s), (5, .agg syCells), (6, .int .i64 18)] ?_ ?_
 refine qo ?_ ?_
 refine qr 2 ?_ ?_
 refine qe ?_ ?_
 refine AThen_normal ?_
 refine rSt [0, 5, 6] [(0, .str s), (5, .agg syCells), (6, .int .i64 19)] [] (by kernel_rfl) (by kernel_rfl) ?_
 refine rndS ?_
 refine qW 1 [(0, .str s), (5, .agg syCells), (6, .int .i64 19), (7, .bool true)] [] ?_ ?_
 refine qSeq ?_ ?_
 refine wIfT (by kernel_rfl) (by kernel_rfl) ?_
 refine qK ?_ ?_
 refine qz [(0, .str s), (5, .agg syCells), (6, .int .i64 19)] ?_ ?_
 refine qSeq ?_ ?_
 refine qB 1 ?_ ?_ ?_
 refine qU 2 [(0, .str s), (4, .str [46]), (5, .agg syCells), (6, .int .i64 19)] ?_ ?_
 refine qV 2 ?_ ?_
 refine qc [.str s, .str [46]] (pre_spec s [46]) ?_ ?_
 refine qN [(0, .str s), (4, .str [46]), (5, .agg syCells), (6, .int .i64 19), (11, .bool (hasPre s [46]))] [] ?_ ?_
 by_cases hb20 : (hasPre s [46]) = true
 refine qt (hb20) ?_ ?_
 refine qV 3 ?_ ?_
 refine qT ?_ ?_
 apply iR
 apply aR
 apply aR
 apply iR
 apply aR
 refine leafI (n := 1) (.inr rfl) (by kernel_rfl) ?_
 rotate_left
 iterate 3 kernel_rfl
 refine qf (Bool.eq_false_iff.2 hb20) ?_ ?_
 refine qk ?_ ?_
 refine AIn_normal ?_
 refine AThen_normal ?_
 refine qz [(0, .str s), (5, .agg syCells), (6, .int .i64 19)] ?_ ?_
 refine qo ?_ ?_
 refine qr 2 ?_ ?_
 refine qe ?_ ?_
 refine AThen_normal ?_
 refine rSt [0, 5, 6] [(0, .str s), (5, .agg syCells), (6, .int .i64 20)] [] (by kernel_rfl) (by kernel_rfl) ?_
 refine rndS ?_
 refine qW 1 [(0, .str s), (5, .agg syCells), (6, .int .i64 20), (7, .bool true)] [] ?_ ?_
 refine qSeq ?_ ?_
 refine wIfT (by kernel_rfl) (by kernel_rfl) ?_
 refine qK ?_ ?_
 refine qz [(0, .str s), (5, .agg syCells), (6, .int .i64 20)] ?_ ?_
 refine qSeq ?_ ?_
 refine qB 1 ?_ ?_ ?_
 refine qU 2 [(0, .str s), (4, .str [58]), (5, .agg syCells), (6, .int .i64 20)] ?_ ?_
 refine qV 2 ?_ ?_
 refine qc [.str s, .str [58]] (pre_spec s [58]) ?_ ?_
 refine qN [(0, .str s), (4, .str [58]), (5, .agg syCells), (6, .int .i64 20), (11, .bool (hasPre s [58]))] [] ?_ ?_
 by_cases hb21 : (hasPre s [58]) = true
 refine qt (hb21) ?_ ?_
 refine qV 3 ?_ ?_
 refine qT ?_ ?_
 apply iR
 apply aR
 apply aR
 apply iR
 apply aR
 refine leafI (n := 1) (.inr rfl) (by kernel_rfl) ?_
 rotate_left
 iterate 3 kernel_rfl
 refine qf (Bool.eq_false_iff.2 hb21) ?_ ?_
 refine qk ?_ ?_
 refine AIn_normal ?_
 refine AThen_normal ?_
 refine qz [(0, .str s), (5, .agg syCells), (6, .int .i64 20)] ?_ ?_
 refine qo ?_ ?_
 refine qr 2 ?_ ?_
 refine qe ?_ ?_
 refine AThen_normal ?_
 refine rSt [0, 5, 6] [(0, .str s), (5, .agg syCells), (6, .int .i64 21)] [] (by kernel_rfl) (by kernel_rfl) ?_
 refine rndS ?_
 refine qW 1 [(0, .str s), (5, .agg syCells), (6, .int .i64 21), (7, .bool true)] [] ?_ ?_
 refine qSeq ?_ ?_
 refine wIfT (by kernel_rfl) (by kernel_rfl) ?_
 refine qK ?_ ?_
 refine qz [(0, .str s), (5, .agg syCells), (6, .int .i64 21)] ?_ ?_
 refine qSeq ?_ ?_
 refine qB 1 ?_ ?_ ?_
 refine qU 2 [(0, .str s), (4, .str [124]), (5, .agg syCells), (6, .int .i64 21)] ?_ ?_
 refine qV 2 ?_ ?_
 refine qc [.str s, .str [124]] (pre_spec s [124]) ?_ ?_
 refine qN [(0, .str s), (4, .str [124]), (5, .agg syCells), (6, .int .i64 21), (11, .bool (hasPre s [124]))] [] ?_ ?_
 by_cases hb22 : (hasPre s [124]) = true
 refine qt (hb22) ?_ ?_
 refine qV 3 ?_ ?_
 refine qT ?_ ?_
 apply iR
 apply aR
 apply aR
 apply iR
 apply aR
 refine leafI (n := 1) (.inr rfl) (by kernel_rfl) ?_
 rotate_left
 iterate 3 kernel_rfl
 refine qf (Bool.eq_false_iff.2 hb22) ?_ ?_
 refine qk ?_ ?_
 refine AIn_normal ?_
 refine AThen_normal ?_
 refine qz [(0, .str s), (5, .agg syCells), (6, .int .i64 21)] ?_ ?_
 refine qo ?_ ?_
 refine qr 2 ?_ ?_
 refine qe ?_ ?_
 refine AThen_normal ?_
 refine rSt [0, 5, 6] [(0, .str s), (5, .agg syCells), (6, .int .i64 22)] [] (by kernel_rfl) (by kernel_rfl) ?_
 refine rndS ?_
 refine qW 1 [(0, .str s), (5, .agg syCells), (6, .int .i64 22), (7, .bool true)] [] ?_ ?_
 refine qSeq ?_ ?_
 refine wIfT (by kernel_rfl) (by kernel_rfl) ?_
 refine qK ?_ ?_
 refine qz [(0, .str s), (5, .agg syCells), (6, .int .i64 22)] ?_ ?_
 refine qSeq ?_ ?_
 refine qB 1 ?_ ?_ ?_
 refine qU 2 [(0, .str s), (4, .str [59]), (5, .agg syCells), (6, .int .i64 22)] ?_ ?_
 refine qV 2 ?_ ?_
 refine qc [.str s, .str [59]] (pre_spec s [59]) ?_ ?_
 refine qN [(0, .str s), (4, .str [59]), (5, .agg syCells), (6, .int .i64 22), (11, .bool (hasPre s [59]))] [] ?_ ?_
 by_cases hb23 : (hasPre s [59]) = true
 refine qt (hb23) ?_ ?_
 refine qV 3 ?_ ?_
 refine qT ?_ ?_
 apply iR
 apply aR
 apply aR
 apply iR
 apply aR
 refine leafI (n := 1) (.inr rfl) (by kernel_rfl) ?_
 rotate_left
 iterate 3 kernel_rfl
 refine qf (Bool.eq_false_iff.2 hb23) ?_ ?_
 refine qk ?_ ?_
 refine AIn_normal ?_
 refine AThen_normal ?_
 refine qz [(0, .str s), (5, .agg syCells), (6, .int .i64 22)] ?_ ?_
 refine qo ?_ ?_
 refine qr 2 ?_ ?_
 refine qe ?_ ?_
 refine AThen_normal ?_
 refine rSt [0, 5, 6] [(0, .str s), (5, .agg syCells), (6, .int .i64 23)] [] (by kernel_rfl) (by kernel_rfl) ?_
 refine rndS ?_
 refine qW 1 [(0, .str s), (5, .agg syCells), (6, .int .i64 23), (7, .bool true)] [] ?_ ?_
 refine qSeq ?_ ?_
 refine wIfT (by kernel_rfl) (by kernel_rfl) ?_
 refine qK ?_ ?_
 refine qz [(0, .str s), (5, .agg syCells), (6, .int .i64 23)] ?_ ?_
 refine qSeq ?_ ?_
 refine qB 1 ?_ ?_ ?_
 refine qU 2 [(0, .str s), (4, .str [63]), (5, .agg syCells), (6, .int .i64 23)] ?_ ?_
 refine qV 2 ?_ ?_
 refine qc [.str s, .str [63]] (pre_spec s [63]) ?_ ?_
 refine qN [(0, .str s), (4, .str [63]), (5, .agg syCells), (6, .int .i64 23), (11, .bool (hasPre s [63]))] [] ?_ ?_
 by_cases hb24 : (hasPre s [63]) = true
 refine qt (hb24) ?_ ?_
 refine qV 3 ?_ ?_
 refine qT ?_ ?_
 apply iR
 apply aR
 apply aR
 apply iR
 apply aR
 refine leafI (n := 1) (.inr rfl) (by kernel_rfl) ?_
 rotate_left
 iterate 3 kernel_rfl
 refine qf (Bool.eq_false_iff.2 hb24) ?_ ?_
 refine qk ?_ ?_
 refine AIn_normal ?_
 refine AThen_normal ?_
 refine qz [(0, .str s), (5, .agg syCells), (6, .int .i64 23)] ?_ ?_
 refine qo ?_ ?_
 refine qr 2 ?_ ?_
 refine qe ?_ ?_
 refine AThen_normal ?_
 refine rSt [0, 5, 6] [(0, .str s), (5, .agg syCells), (6, .int .i64 24)] [] (by kernel_rfl) (by kernel_rfl) ?_
 refine rndS ?_
 refine qW 1 [(0, .str s), (5, .agg syCells), (6, .int .i64 24), (7, .bool false)] [] ?_ ?_
 refine qSeq ?_ ?_
 refine wIfF (by kernel_rfl) (by kernel_rfl) ?_
 refine wExit 0 (by kernel_rfl) (by kernel_rfl) ?_
 refine AThen_exit ?_
 refine AThen_exit ?_
 refine AIn_exit ?_
 refine AThen_normal ?_
 refine qz [] ?_ ?_
 refine qV 1 ?_ ?_
 refine qT ?_ ?_
 refine leafI (n := 0) (.inr rfl) (by kernel_rfl) ?_
 rotate_left
 iterate 419 kernel_rfl
 all_goals
  simp [symLen, syms, *]
end Go.Proofs.YtdikgijfekfaoaaGreatDoor
