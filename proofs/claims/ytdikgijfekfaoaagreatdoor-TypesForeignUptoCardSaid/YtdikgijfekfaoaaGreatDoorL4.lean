/- The reference's lexer: tokens. No condition. -/
import Derived.Test.YtdikgijfekfaoaaGreatDoorL3
import Derived.Test.YtdikgijfekfaoaaGreatDoorAbsc
set_option linter.all false
set_option linter.unusedSimpArgs false
set_option linter.unusedVariables false
namespace Go.Proofs.YtdikgijfekfaoaaGreatDoor
open Go.Proofs.YtdikgijfekfaoaaGreatDoor.Abs
set_option maxRecDepth 20000
set_option maxHeartbeats 4000000
theorem rtok_lo_at (s : List UInt8) (q k : Nat) (b : Bool) (hc : isLo (s.getD q 0) = true) (hk : q + ((s.drop q).takeWhile isWd).length = k) (hb : isKw ((s.take k).drop q) = b) : rtok (s.drop q) = (if b then 7 else 2, k - q) := by
  have e : (s.take k).drop q = (s.drop q).take ((s.drop q).takeWhile isWd).length := by rw [List.drop_take, ← hk]; congr 1; omega
  rw [rtok_lo (by rw [dropD0]; exact hc), ← e, hb]
  congr 1; omega
theorem no_sp {c : UInt8} (h : ¬ cls c = 0) : isSp c = false := Bool.eq_false_iff.2 fun g => h ((cls_sp _).2 g)
theorem no_dg {c : UInt8} (h : ¬ cls c = 3) : isDg c = false := Bool.eq_false_iff.2 fun g => h ((cls_dg _).2 g)
theorem no_wd {c : UInt8} (h1 : ¬ cls c = 1) (h3 : ¬ cls c = 3) (h4 : ¬ cls c = 4) : isWd c = false := Bool.eq_false_iff.2 fun g => by
  rcases (cls_wd _).2 g with g | g | g
  · exact h1 g
  · exact h3 g
  · exact h4 g
theorem no_nm1 {c : UInt8} (h1 : ¬ cls c ≥ 1) : isNm c = false := Bool.eq_false_iff.2 fun g => h1 ((cls_nm _).2 g).1
theorem no_nm2 {c : UInt8} (h1 : ¬ cls c ≤ 3) : isNm c = false := Bool.eq_false_iff.2 fun g => h1 ((cls_nm _).2 g).2
theorem wd_lo {c : UInt8} (h : cls c = 1) : isWd c = true := (cls_wd _).1 (.inl h)
theorem nm_up {c : UInt8} (h : cls c = 2) : isNm c = true := (cls_nm _).1 ⟨by omega, by omega⟩
noncomputable def c165 : Code := bodyOf Tryz.f165
theorem token_spec (s : List UInt8) (q : Nat) (hq : q < s.length) (hs : s.length < 1000000000) : CallsP cx 165 [.str s, .int .i64 ((q : Nat) : Int)] (.tup [.int .i64 ((rtok (s.drop q)).1), .int .i64 (((q + (rtok (s.drop q)).2) : Nat) : Int)]) := by
 refine func_intro (cx := cx) 143 0 [(ResultVar.tmp 4), (ResultVar.tmp 5)] Tryz.func165 rfl rfl rfl rfl rfl (by simp) ?_
 show wpA cx 143 0 (at_ c165 []) _ _ _
 refine qZ [(0, .str s), (1, nI q)] [] ?_ ?_
 refine qU 2 [(0, .str s), (1, nI q)] ?_ ?_
 refine qV 2 ?_ ?_
 refine qy (o_index (k := .i64) (s := s) (i := ((q : Nat) : Int)) (by kernel_rfl) ty9 (by first | omega | (simp only [List.length_drop, List.length_take] at *; omega)) (by first | omega | (simp only [List.length_drop, List.length_take] at *; omega))) ?_ ?_ ?_
 refine qc [.int .u8 ((((s.getD q 0) : UInt8).toNat : Nat) : Int)] (class_spec (s.getD q 0)) ?_ ?_
 refine qR 1 [(0, .str s), (1, nI q), (6, .int .i64 (cls (s.getD q 0)))] [] ?_ ?_
 refine qV 1 ?_ ?_
 refine qy (o_add (a := ((q : Nat) : Int)) (b := 1) (by kernel_rfl) (by first | omega | (simp only [List.length_drop, List.length_take] at *; omega)) (by first | omega | (simp only [List.length_drop, List.length_take] at *; omega))) ?_ ?_ ?_
 refine qR 1 [(0, .str s), (1, nI q), (6, .int .i64 (cls (s.getD q 0))), (7, nI (q + 1))] [] ?_ ?_
 refine qSeq ?_ ?_
 refine qU 1 [(0, .str s), (1, nI q), (7, nI (q + 1)), (15, .int .i64 (cls (s.getD q 0)))] ?_ ?_
 refine qB 0 ?_ ?_ ?_
 refine qU 2 [(0, .str s), (1, nI q), (7, nI (q + 1)), (15, .int .i64 (cls (s.getD q 0))), (16, .bool ((cls (s.getD q 0)) == 0))] ?_ ?_
 by_cases hb1 : (cls (s.getD q 0)) = 0
 refine qt (beq_iff_eq.2 hb1) ?_ ?_
 refine qSeq ?_ ?_
 refine qB 1 ?_ ?_ ?_
 refine wLoop (σ := Nat) (fun k => [(0, .str s), (7, .int .i64 ((k : Nat) : Int))]) (fun k => []) (fun k => (q + 1 ≤ k ∧ k ≤ s.length) ∧ ∀ i, q ≤ i → i < k → isSp (s.getD i 0) = true) (fun k => s.length - k) (q + 1) (by kernel_rfl) (by refine ⟨⟨Nat.le_refl _, by omega⟩, fun i h1 h2 => ?_⟩; have h3 : i = q := (by omega); subst h3; exact (cls_sp _).1 (by assumption)) ⟨⟨(by kernel_rfl), (by kernel_rfl), trivial⟩, by simp [BelL, AVal.bel], by simp, (by kernel_rfl), by simp⟩ ?_
 rintro k ⟨⟨hk, hk2⟩, ha⟩
 refine qSeq ?_ ?_
 refine qV 5 ?_ ?_
 by_cases hb2 : ((k : Nat) : Int) < ((s.length : Nat) : Int)
 refine qm [21, 22] (decide_eq_true hb2) ?_ ?_
 refine qr 2 ?_ ?_
 refine qy (o_index (k := .i64) (s := s) (i := ((k : Nat) : Int)) (by kernel_rfl) ty9 (by first | omega | (simp only [List.length_drop, List.length_take] at *; omega)) (by first | omega | (simp only [List.length_drop, List.length_take] at *; omega))) ?_ ?_ ?_
 refine qc [.int .u8 ((((s.getD k 0) : UInt8).toNat : Nat) : Int)] (class_spec (s.getD k 0)) ?_ ?_
 refine qR 2 [(0, .str s), (7, nI k), (23, .str s), (24, nI k), (25, .int .u8 ((((s.getD k 0) : UInt8).toNat : Nat) : Int)), (26, .int .i64 (cls (s.getD k 0))), (27, .bool ((cls (s.getD k 0)) == 0)), (28, .bool ((cls (s.getD k 0)) == 0))] [] ?_ ?_
 by_cases hb3 : (cls (s.getD k 0)) = 0
 refine qt (beq_iff_eq.2 hb3) ?_ ?_
 refine qK ?_ ?_
 refine qz [(0, .str s), (7, nI k), (23, .str s), (24, nI k), (25, .int .u8 ((((s.getD k 0) : UInt8).toNat : Nat) : Int)), (26, .int .i64 (cls (s.getD k 0))), (27, .bool ((cls (s.getD k 0)) == 0))] ?_ ?_
 refine qB 2 ?_ ?_ ?_
 refine qo ?_ ?_
 refine qr 1 ?_ ?_
 refine qy (o_add (a := ((k : Nat) : Int)) (b := 1) (by kernel_rfl) (by first | omega | (simp only [List.length_drop, List.length_take] at *; omega)) (by first | omega | (simp only [List.length_drop, List.length_take] at *; omega))) ?_ ?_ ?_
 refine qr 1 ?_ ?_
 refine qe ?_ ?_
 refine AIn_normal ?_
 refine AThen_normal ⟨k + 1, ?_, ?_, ⟨⟨(by kernel_rfl), (by kernel_rfl), trivial⟩, by simp [BelL, AVal.bel], by simp, (by kernel_rfl), by simp⟩⟩
 · omega
 · refine ⟨⟨by omega, by omega⟩, fun i h1 hi => ?_⟩
   rcases Nat.lt_succ_iff_lt_or_eq.1 hi with h | h
   · exact ha i h1 h
   · subst h; exact (cls_sp _).1 (by assumption)
 iterate 11 kernel_rfl
 refine qf (beq_eq_false_iff_ne.2 hb3) ?_ ?_
 refine wExit 1 (by kernel_rfl) (by kernel_rfl) ?_
 refine AThen_exit ?_
 refine AThen_exit ?_
 refine AIn_exit ?_
 refine AThen_normal ?_
 refine qz [(7, nI k)] ?_ ?_
 refine qV 3 ?_ ?_
 refine qT ?_ ?_
 apply iR
 apply aR
 refine leafII (n := 0) (m := ((k : Nat) : Int)) (.inr rfl) (by kernel_rfl) ?_
 · exact rtok_leaf s q k _ _ (tw_at isSp s q k (by omega) hk2 ha (by first | (left; omega) | (right; first | exact no_sp (by assumption) | exact no_dg (by assumption) | exact no_wd (by assumption) (by assumption) (by assumption) | exact no_nm1 (by assumption) | exact no_nm2 (by assumption)))) (rtok_sp (by rw [dropD0]; exact (cls_sp _).1 (by assumption)))
 iterate 10 kernel_rfl
 refine qm [21, 22] (decide_eq_false hb2) ?_ ?_
 refine qR 6 [(0, .str s), (7, nI k), (23, .tup []), (24, .tup []), (25, .tup []), (26, .tup []), (27, .tup []), (28, .bool false)] [] ?_ ?_
 refine wIfF (by kernel_rfl) (by kernel_rfl) ?_
 refine wExit 1 (by kernel_rfl) (by kernel_rfl) ?_
 refine AThen_exit ?_
 refine AThen_exit ?_
 refine AIn_exit ?_
 refine AThen_normal ?_
 refine qz [(7, nI k)] ?_ ?_
 refine qV 3 ?_ ?_
 refine qT ?_ ?_
 apply iR
 apply aR
 refine leafII (n := 0) (m := ((k : Nat) : Int)) (.inr rfl) (by kernel_rfl) ?_
 · exact rtok_leaf s q k _ _ (tw_at isSp s q k (by omega) hk2 ha (by first | (left; omega) | (right; first | exact no_sp (by assumption) | exact no_dg (by assumption) | exact no_wd (by assumption) (by assumption) (by assumption) | exact no_nm1 (by assumption) | exact no_nm2 (by assumption)))) (rtok_sp (by rw [dropD0]; exact (cls_sp _).1 (by assumption)))
 iterate 11 kernel_rfl
 refine qf (beq_eq_false_iff_ne.2 hb1) ?_ ?_
 refine qU 2 [(0, .str s), (1, nI q), (7, nI (q + 1)), (15, .int .i64 (cls (s.getD q 0))), (32, .bool ((cls (s.getD q 0)) == 1))] ?_ ?_
 by_cases hb4 : (cls (s.getD q 0)) = 1
 refine qt (beq_iff_eq.2 hb4) ?_ ?_
 refine qSeq ?_ ?_
 refine qB 3 ?_ ?_ ?_
 refine wLoop (σ := Nat) (fun k => [(0, .str s), (1, .int .i64 ((q : Nat) : Int)), (7, .int .i64 ((k : Nat) : Int))]) (fun k => []) (fun k => (q + 1 ≤ k ∧ k ≤ s.length) ∧ ∀ i, q ≤ i → i < k → isWd (s.getD i 0) = true) (fun k => s.length - k) (q + 1) (by kernel_rfl) (by refine ⟨⟨Nat.le_refl _, by omega⟩, fun i h1 h2 => ?_⟩; have h3 : i = q := (by omega); subst h3; exact wd_lo (by assumption)) ⟨⟨(by kernel_rfl), (by kernel_rfl), (by kernel_rfl), trivial⟩, by simp [BelL, AVal.bel], by simp, (by kernel_rfl), by simp⟩ ?_
 rintro k ⟨⟨hk, hk2⟩, ha⟩
 refine qSeq ?_ ?_
 refine qV 5 ?_ ?_
 by_cases hb5 : ((k : Nat) : Int) < ((s.length : Nat) : Int)
 refine qm [37, 38] (decide_eq_true hb5) ?_ ?_
 refine qr 2 ?_ ?_
 refine qy (o_index (k := .i64) (s := s) (i := ((k : Nat) : Int)) (by kernel_rfl) ty9 (by first | omega | (simp only [List.length_drop, List.length_take] at *; omega)) (by first | omega | (simp only [List.length_drop, List.length_take] at *; omega))) ?_ ?_ ?_
 refine qc [.int .u8 ((((s.getD k 0) : UInt8).toNat : Nat) : Int)] (class_spec (s.getD k 0)) ?_ ?_
 refine qr 2 ?_ ?_
 by_cases hb6 : (cls (s.getD k 0)) = 1
 refine qm [43, 44] (beq_iff_eq.2 hb6) ?_ ?_
 refine qR 14 [(0, .str s), (1, nI q), (7, nI k), (39, .str s), (40, nI k), (41, .int .u8 ((((s.getD k 0) : UInt8).toNat : Nat) : Int)), (42, .int .i64 (cls (s.getD k 0))), (43, .bool true), (44, .bool true), (45, .tup []), (46, .tup []), (47, .tup []), (48, .tup []), (49, .tup []), (50, .bool true), (51, .bool true), (52, .tup []), (53, .tup []), (54, .tup []), (55, .tup []), (56, .tup []), (57, .bool true), (58, .bool true)] [] ?_ ?_
 refine wIfT (by kernel_rfl) (by kernel_rfl) ?_
 refine qK ?_ ?_
 refine qz [(0, .str s), (1, nI q), (7, nI k), (39, .str s), (40, nI k), (41, .int .u8 ((((s.getD k 0) : UInt8).toNat : Nat) : Int)), (42, .int .i64 (cls (s.getD k 0))), (43, .bool true), (44, .bool true), (45, .tup []), (46, .tup []), (47, .tup []), (48, .tup []), (49, .tup []), (50, .bool true), (51, .bool true), (52, .tup []), (53, .tup []), (54, .tup []), (55, .tup []), (56, .tup []), (57, .bool true)] ?_ ?_
 refine qB 4 ?_ ?_ ?_
 refine qo ?_ ?_
 refine qr 1 ?_ ?_
 refine qy (o_add (a := ((k : Nat) : Int)) (b := 1) (by kernel_rfl) (by first | omega | (simp only [List.length_drop, List.length_take] at *; omega)) (by first | omega | (simp only [List.length_drop, List.length_take] at *; omega))) ?_ ?_ ?_
 refine qr 1 ?_ ?_
 refine qe ?_ ?_
 refine AIn_normal ?_
 refine AThen_normal ⟨k + 1, ?_, ?_, ⟨⟨(by kernel_rfl), (by kernel_rfl), (by kernel_rfl), trivial⟩, by simp [BelL, AVal.bel], by simp, (by kernel_rfl), by simp⟩⟩
 · omega
 · refine ⟨⟨by omega, by omega⟩, fun i h1 hi => ?_⟩
   rcases Nat.lt_succ_iff_lt_or_eq.1 hi with h | h
   · exact ha i h1 h
   · subst h; first | exact (cls_wd _).1 (.inl (by assumption)) | exact (cls_wd _).1 (.inr (.inl (by assumption))) | exact (cls_wd _).1 (.inr (.inr (by assumption)))
 iterate 12 kernel_rfl
 refine qm [43, 44] (beq_eq_false_iff_ne.2 hb6) ?_ ?_
 refine qr 2 ?_ ?_
 refine qy (o_index (k := .i64) (s := s) (i := ((k : Nat) : Int)) (by kernel_rfl) ty9 (by first | omega | (simp only [List.length_drop, List.length_take] at *; omega)) (by first | omega | (simp only [List.length_drop, List.length_take] at *; omega))) ?_ ?_ ?_
 refine qc [.int .u8 ((((s.getD k 0) : UInt8).toNat : Nat) : Int)] (class_spec (s.getD k 0)) ?_ ?_
 refine qr 3 ?_ ?_
 by_cases hb7 : (cls (s.getD k 0)) = 3
 refine qm [49, 50, 51] (beq_iff_eq.2 hb7) ?_ ?_
 refine qR 7 [(0, .str s), (1, nI q), (7, nI k), (39, .str s), (40, nI k), (41, .int .u8 ((((s.getD k 0) : UInt8).toNat : Nat) : Int)), (42, .int .i64 (cls (s.getD k 0))), (43, .bool false), (44, .bool false), (45, .str s), (46, nI k), (47, .int .u8 ((((s.getD k 0) : UInt8).toNat : Nat) : Int)), (48, .int .i64 (cls (s.getD k 0))), (49, .bool true), (50, .bool true), (51, .bool true), (52, .tup []), (53, .tup []), (54, .tup []), (55, .tup []), (56, .tup []), (57, .bool true), (58, .bool true)] [] ?_ ?_
 refine wIfT (by kernel_rfl) (by kernel_rfl) ?_
 refine qK ?_ ?_
 refine qz [(0, .str s), (1, nI q), (7, nI k), (39, .str s), (40, nI k), (41, .int .u8 ((((s.getD k 0) : UInt8).toNat : Nat) : Int)), (42, .int .i64 (cls (s.getD k 0))), (43, .bool false), (44, .bool false), (45, .str s), (46, nI k), (47, .int .u8 ((((s.getD k 0) : UInt8).toNat : Nat) : Int)), (48, .int .i64 (cls (s.getD k 0))), (49, .bool true), (50, .bool true), (51, .bool true), (52, .tup []), (53, .tup []), (54, .tup []), (55, .tup []), (56, .tup []), (57, .bool true)] ?_ ?_
 refine qB 4 ?_ ?_ ?_
 refine qo ?_ ?_
 refine qr 1 ?_ ?_
 refine qy (o_add (a := ((k : Nat) : Int)) (b := 1) (by kernel_rfl) (by first | omega | (simp only [List.length_drop, List.length_take] at *; omega)) (by first | omega | (simp only [List.length_drop, List.length_take] at *; omega))) ?_ ?_ ?_
 refine qr 1 ?_ ?_
 refine qe ?_ ?_
 refine AIn_normal ?_
 refine AThen_normal ⟨k + 1, ?_, ?_, ⟨⟨(by kernel_rfl), (by kernel_rfl), (by kernel_rfl), trivial⟩, by simp [BelL, AVal.bel], by simp, (by kernel_rfl), by simp⟩⟩
 · omega
 · refine ⟨⟨by omega, by omega⟩, fun i h1 hi => ?_⟩
   rcases Nat.lt_succ_iff_lt_or_eq.1 hi with h | h
   · exact ha i h1 h
   · subst h; first | exact (cls_wd _).1 (.inl (by assumption)) | exact (cls_wd _).1 (.inr (.inl (by assumption))) | exact (cls_wd _).1 (.inr (.inr (by assumption)))
 iterate 12 kernel_rfl
 refine qm [49, 50, 51] (beq_eq_false_iff_ne.2 hb7) ?_ ?_
 refine qr 2 ?_ ?_
 refine qy (o_index (k := .i64) (s := s) (i := ((k : Nat) : Int)) (by kernel_rfl) ty9 (by first | omega | (simp only [List.length_drop, List.length_take] at *; omega)) (by first | omega | (simp only [List.length_drop, List.length_take] at *; omega))) ?_ ?_ ?_
 refine qc [.int .u8 ((((s.getD k 0) : UInt8).toNat : Nat) : Int)] (class_spec (s.getD k 0)) ?_ ?_
 refine qR 3 [(0, .str s), (1, nI q), (7, nI k), (39, .str s), (40, nI k), (41, .int .u8 ((((s.getD k 0) : UInt8).toNat : Nat) : Int)), (42, .int .i64 (cls (s.getD k 0))), (43, .bool false), (44, .bool false), (45, .str s), (46, nI k), (47, .int .u8 ((((s.getD k 0) : UInt8).toNat : Nat) : Int)), (48, .int .i64 (cls (s.getD k 0))), (49, .bool false), (50, .bool false), (51, .bool false), (52, .str s), (53, nI k), (54, .int .u8 ((((s.getD k 0) : UInt8).toNat : Nat) : Int)), (55, .int .i64 (cls (s.getD k 0))), (56, .bool ((cls (s.getD k 0)) == 4)), (57, .bool ((cls (s.getD k 0)) == 4)), (58, .bool ((cls (s.getD k 0)) == 4))] [] ?_ ?_
 by_cases hb8 : (cls (s.getD k 0)) = 4
 refine qt (beq_iff_eq.2 hb8) ?_ ?_
 refine qK ?_ ?_
 refine qz [(0, .str s), (1, nI q), (7, nI k), (39, .str s), (40, nI k), (41, .int .u8 ((((s.getD k 0) : UInt8).toNat : Nat) : Int)), (42, .int .i64 (cls (s.getD k 0))), (43, .bool false), (44, .bool false), (45, .str s), (46, nI k), (47, .int .u8 ((((s.getD k 0) : UInt8).toNat : Nat) : Int)), (48, .int .i64 (cls (s.getD k 0))), (49, .bool false), (50, .bool false), (51, .bool false), (52, .str s), (53, nI k), (54, .int .u8 ((((s.getD k 0) : UInt8).toNat : Nat) : Int)), (55, .int .i64 (cls (s.getD k 0))), (56, .bool ((cls (s.getD k 0)) == 4)), (57, .bool ((cls (s.getD k 0)) == 4))] ?_ ?_
 refine qB 4 ?_ ?_ ?_
 refine qo ?_ ?_
 refine qr 1 ?_ ?_
 refine qy (o_add (a := ((k : Nat) : Int)) (b := 1) (by kernel_rfl) (by first | omega | (simp only [List.length_drop, List.length_take] at *; omega)) (by first | omega | (simp only [List.length_drop, List.length_take] at *; omega))) ?_ ?_ ?_
 refine qr 1 ?_ ?_
 refine qe ?_ ?_
 refine AIn_normal ?_
 refine AThen_normal ⟨k + 1, ?_, ?_, ⟨⟨(by kernel_rfl), (by kernel_rfl), (by kernel_rfl), trivial⟩, by simp [BelL, AVal.bel], by simp, (by kernel_rfl), by simp⟩⟩
 · omega
 · refine ⟨⟨by omega, by omega⟩, fun i h1 hi => ?_⟩
   rcases Nat.lt_succ_iff_lt_or_eq.1 hi with h | h
   · exact ha i h1 h
   · subst h; first | exact (cls_wd _).1 (.inl (by assumption)) | exact (cls_wd _).1 (.inr (.inl (by assumption))) | exact (cls_wd _).1 (.inr (.inr (by assumption)))
 iterate 11 kernel_rfl
 refine qf (beq_eq_false_iff_ne.2 hb8) ?_ ?_
 refine wExit 3 (by kernel_rfl) (by kernel_rfl) ?_
 refine AThen_exit ?_
 refine AThen_exit ?_
 refine AIn_exit ?_
 refine AThen_normal ?_
 refine qz [(0, .str s), (1, nI q), (7, nI k)] ?_ ?_
 refine qSeq ?_ ?_
 refine qV 3 ?_ ?_
 refine qy (o_slcstr (lo := (some (.int .i64 ((q : Nat) : Int)))) (hi := (some (.int .i64 ((k : Nat) : Int)))) (s := s) (x := ((q : Nat) : Int)) (y := ((k : Nat) : Int)) (by kernel_rfl) ty9 (by kernel_rfl) (by kernel_rfl) (by first | omega | (simp only [List.length_drop, List.length_take] at *; omega)) (by first | omega | (simp only [List.length_drop, List.length_take] at *; omega)) (by first | omega | (simp only [List.length_drop, List.length_take] at *; omega))) ?_ ?_ ?_
 refine qc [.str ((s.take k).drop q)] (rkeyword_spec ((s.take k).drop q)) ?_ ?_
 refine qN [(7, nI k), (65, .bool (isKw ((s.take k).drop q)))] [] ?_ ?_
 by_cases hb9 : (isKw ((s.take k).drop q)) = true
 refine qt (hb9) ?_ ?_
 refine qV 3 ?_ ?_
 refine qT ?_ ?_
 apply aR
 apply iR
 apply aR
 refine leafII (n := 7) (m := ((k : Nat) : Int)) (.inr rfl) (by kernel_rfl) ?_
 · exact rtok_leaf s q k _ _ (by omega) (rtok_lo_at s q k true ((cls_lo _).1 (by assumption)) (tw_at isWd s q k (by omega) hk2 ha (by first | (left; omega) | (right; first | exact no_sp (by assumption) | exact no_dg (by assumption) | exact no_wd (by assumption) (by assumption) (by assumption) | exact no_nm1 (by assumption) | exact no_nm2 (by assumption)))) (by assumption))
 iterate 3 kernel_rfl
 refine qf (Bool.eq_false_iff.2 hb9) ?_ ?_
 refine qK ?_ ?_
 refine qz [(7, nI k)] ?_ ?_
 refine qV 3 ?_ ?_
 refine qT ?_ ?_
 apply iR
 apply aR
 refine leafII (n := 2) (m := ((k : Nat) : Int)) (.inr rfl) (by kernel_rfl) ?_
 · exact rtok_leaf s q k _ _ (by omega) (rtok_lo_at s q k false ((cls_lo _).1 (by assumption)) (tw_at isWd s q k (by omega) hk2 ha (by first | (left; omega) | (right; first | exact no_sp (by assumption) | exact no_dg (by assumption) | exact no_wd (by assumption) (by assumption) (by assumption) | exact no_nm1 (by assumption) | exact no_nm2 (by assumption)))) (by exact Bool.eq_false_iff.2 (by assumption)))
 iterate 31 kernel_rfl
 refine qm [37, 38] (decide_eq_false hb5) ?_ ?_
 refine qR 20 [(0, .str s), (1, nI q), (7, nI k), (39, .tup []), (40, .tup []), (41, .tup []), (42, .tup []), (43, .tup []), (44, .tup []), (45, .tup []), (46, .tup []), (47, .tup []), (48, .tup []), (49, .tup []), (50, .tup []), (51, .tup []), (52, .tup []), (53, .tup []), (54, .tup []), (55, .tup []), (56, .tup []), (57, .tup []), (58, .bool false)] [] ?_ ?_
 refine wIfF (by kernel_rfl) (by kernel_rfl) ?_
 refine wExit 3 (by kernel_rfl) (by kernel_rfl) ?_
 refine AThen_exit ?_
 refine AThen_exit ?_
 refine AIn_exit ?_
 refine AThen_normal ?_
 refine qz [(0, .str s), (1, nI q), (7, nI k)] ?_ ?_
 refine qSeq ?_ ?_
 refine qV 3 ?_ ?_
 refine qy (o_slcstr (lo := (some (.int .i64 ((q : Nat) : Int)))) (hi := (some (.int .i64 ((k : Nat) : Int)))) (s := s) (x := ((q : Nat) : Int)) (y := ((k : Nat) : Int)) (by kernel_rfl) ty9 (by kernel_rfl) (by kernel_rfl) (by first | omega | (simp only [List.length_drop, List.length_take] at *; omega)) (by first | omega | (simp only [List.length_drop, List.length_take] at *; omega)) (by first | omega | (simp only [List.length_drop, List.length_take] at *; omega))) ?_ ?_ ?_
 refine qc [.str ((s.take k).drop q)] (rkeyword_spec ((s.take k).drop q)) ?_ ?_
 refine qN [(7, nI k), (65, .bool (isKw ((s.take k).drop q)))] [] ?_ ?_
 by_cases hb10 : (isKw ((s.take k).drop q)) = true
 refine qt (hb10) ?_ ?_
 refine qV 3 ?_ ?_
 refine qT ?_ ?_
 apply aR
 apply iR
 apply aR
 refine leafII (n := 7) (m := ((k : Nat) : Int)) (.inr rfl) (by kernel_rfl) ?_
 · exact rtok_leaf s q k _ _ (by omega) (rtok_lo_at s q k true ((cls_lo _).1 (by assumption)) (tw_at isWd s q k (by omega) hk2 ha (by first | (left; omega) | (right; first | exact no_sp (by assumption) | exact no_dg (by assumption) | exact no_wd (by assumption) (by assumption) (by assumption) | exact no_nm1 (by assumption) | exact no_nm2 (by assumption)))) (by assumption))
 iterate 3 kernel_rfl
 refine qf (Bool.eq_false_iff.2 hb10) ?_ ?_
 refine qK ?_ ?_
 refine qz [(7, nI k)] ?_ ?_
 refine qV 3 ?_ ?_
 refine qT ?_ ?_
 apply iR
 apply aR
 refine leafII (n := 2) (m := ((k : Nat) : Int)) (.inr rfl) (by kernel_rfl) ?_
 · exact rtok_leaf s q k _ _ (by omega) (rtok_lo_at s q k false ((cls_lo _).1 (by assumption)) (tw_at isWd s q k (by omega) hk2 ha (by first | (left; omega) | (right; first | exact no_sp (by assumption) | exact no_dg (by assumption) | exact no_wd (by assumption) (by assumption) (by assumption) | exact no_nm1 (by assumption) | exact no_nm2 (by assumption)))) (by exact Bool.eq_false_iff.2 (by assumption)))
 iterate 20 kernel_rfl
 refine qf (beq_eq_false_iff_ne.2 hb4) ?_ ?_
 refine qU 2 [(0, .str s), (1, nI q), (7, nI (q + 1)), (15, .int .i64 (cls (s.getD q 0))), (68, .bool ((cls (s.getD q 0)) == 2))] ?_ ?_
 by_cases hb11 : (cls (s.getD q 0)) = 2
 refine qt (beq_iff_eq.2 hb11) ?_ ?_
 refine qSeq ?_ ?_
 refine qB 5 ?_ ?_ ?_
 refine wLoop (σ := Nat) (fun k => [(0, .str s), (7, .int .i64 ((k : Nat) : Int))]) (fun k => []) (fun k => (q + 1 ≤ k ∧ k ≤ s.length) ∧ ∀ i, q ≤ i → i < k → isNm (s.getD i 0) = true) (fun k => s.length - k) (q + 1) (by kernel_rfl) (by refine ⟨⟨Nat.le_refl _, by omega⟩, fun i h1 h2 => ?_⟩; have h3 : i = q := (by omega); subst h3; exact nm_up (by assumption)) ⟨⟨(by kernel_rfl), (by kernel_rfl), trivial⟩, by simp [BelL, AVal.bel], by simp, (by kernel_rfl), by simp⟩ ?_
 rintro k ⟨⟨hk, hk2⟩, ha⟩
 refine qSeq ?_ ?_
 refine qV 5 ?_ ?_
 by_cases hb12 : ((k : Nat) : Int) < ((s.length : Nat) : Int)
 refine qm [73, 74] (decide_eq_true hb12) ?_ ?_
 refine qr 2 ?_ ?_
 refine qy (o_index (k := .i64) (s := s) (i := ((k : Nat) : Int)) (by kernel_rfl) ty9 (by first | omega | (simp only [List.length_drop, List.length_take] at *; omega)) (by first | omega | (simp only [List.length_drop, List.length_take] at *; omega))) ?_ ?_ ?_
 refine qc [.int .u8 ((((s.getD k 0) : UInt8).toNat : Nat) : Int)] (class_spec (s.getD k 0)) ?_ ?_
 refine qr 3 ?_ ?_
 by_cases hb13 : (cls (s.getD k 0)) ≥ 1
 refine qm [79, 80, 81] (decide_eq_true hb13) ?_ ?_
 refine qr 2 ?_ ?_
 refine qy (o_index (k := .i64) (s := s) (i := ((k : Nat) : Int)) (by kernel_rfl) ty9 (by first | omega | (simp only [List.length_drop, List.length_take] at *; omega)) (by first | omega | (simp only [List.length_drop, List.length_take] at *; omega))) ?_ ?_ ?_
 refine qc [.int .u8 ((((s.getD k 0) : UInt8).toNat : Nat) : Int)] (class_spec (s.getD k 0)) ?_ ?_
 refine qR 2 [(0, .str s), (7, nI k), (75, .str s), (76, nI k), (77, .int .u8 ((((s.getD k 0) : UInt8).toNat : Nat) : Int)), (78, .int .i64 (cls (s.getD k 0))), (79, .bool true), (82, .str s), (83, nI k), (84, .int .u8 ((((s.getD k 0) : UInt8).toNat : Nat) : Int)), (85, .int .i64 (cls (s.getD k 0))), (86, .bool (decide ((cls (s.getD k 0)) ≤ 3))), (87, .bool (decide ((cls (s.getD k 0)) ≤ 3)))] [] ?_ ?_
 by_cases hb14 : (cls (s.getD k 0)) ≤ 3
 refine qt (decide_eq_true hb14) ?_ ?_
 refine qK ?_ ?_
 refine qz [(0, .str s), (7, nI k), (75, .str s), (76, nI k), (77, .int .u8 ((((s.getD k 0) : UInt8).toNat : Nat) : Int)), (78, .int .i64 (cls (s.getD k 0))), (79, .bool true), (82, .str s), (83, nI k), (84, .int .u8 ((((s.getD k 0) : UInt8).toNat : Nat) : Int)), (85, .int .i64 (cls (s.getD k 0))), (86, .bool (decide ((cls (s.getD k 0)) ≤ 3)))] ?_ ?_
 refine qB 6 ?_ ?_ ?_
 refine qo ?_ ?_
 refine qr 1 ?_ ?_
 refine qy (o_add (a := ((k : Nat) : Int)) (b := 1) (by kernel_rfl) (by first | omega | (simp only [List.length_drop, List.length_take] at *; omega)) (by first | omega | (simp only [List.length_drop, List.length_take] at *; omega))) ?_ ?_ ?_
 refine qr 1 ?_ ?_
 refine qe ?_ ?_
 refine AIn_normal ?_
 refine AThen_normal ⟨k + 1, ?_, ?_, ⟨⟨(by kernel_rfl), (by kernel_rfl), trivial⟩, by simp [BelL, AVal.bel], by simp, (by kernel_rfl), by simp⟩⟩
 · omega
 · refine ⟨⟨by omega, by omega⟩, fun i h1 hi => ?_⟩
   rcases Nat.lt_succ_iff_lt_or_eq.1 hi with h | h
   · exact ha i h1 h
   · subst h; first | exact (cls_nm _).1 ⟨by omega, by omega⟩
 iterate 11 kernel_rfl
 refine qf (decide_eq_false hb14) ?_ ?_
 refine wExit 5 (by kernel_rfl) (by kernel_rfl) ?_
 refine AThen_exit ?_
 refine AThen_exit ?_
 refine AIn_exit ?_
 refine AThen_normal ?_
 refine qz [(7, nI k)] ?_ ?_
 refine qV 3 ?_ ?_
 refine qT ?_ ?_
 apply iR
 apply aR
 refine leafII (n := 3) (m := ((k : Nat) : Int)) (.inr rfl) (by kernel_rfl) ?_
 rotate_left
 iterate 10 kernel_rfl
 refine qm [79, 80, 81] (decide_eq_false hb13) ?_ ?_
 refine qR 6 [(0, .str s), (7, nI k), (75, .str s), (76, nI k), (77, .int .u8 ((((s.getD k 0) : UInt8).toNat : Nat) : Int)), (78, .int .i64 (cls (s.getD k 0))), (79, .bool false), (82, .tup []), (83, .tup []), (84, .tup []), (85, .tup []), (86, .tup []), (87, .bool false)] [] ?_ ?_
 refine wIfF (by kernel_rfl) (by kernel_rfl) ?_
 refine wExit 5 (by kernel_rfl) (by kernel_rfl) ?_
 refine AThen_exit ?_
 refine AThen_exit ?_
 refine AIn_exit ?_
 refine AThen_normal ?_
 refine qz [(7, nI k)] ?_ ?_
 refine qV 3 ?_ ?_
 refine qT ?_ ?_
 apply iR
 apply aR
 refine leafII (n := 3) (m := ((k : Nat) : Int)) (.inr rfl) (by kernel_rfl) ?_
 rotate_left
 iterate 11 kernel_rfl
 refine qm [73, 74] (decide_eq_false hb12) ?_ ?_
 refine qR 13 [(0, .str s), (7, nI k), (75, .tup []), (76, .tup []), (77, .tup []), (78, .tup []), (79, .tup []), (82, .tup []), (83, .tup []), (84, .tup []), (85, .tup []), (86, .tup []), (87, .bool false)] [] ?_ ?_
 refine wIfF (by kernel_rfl) (by kernel_rfl) ?_
 refine wExit 5 (by kernel_rfl) (by kernel_rfl) ?_
 refine AThen_exit ?_
 refine AThen_exit ?_
 refine AIn_exit ?_
 refine AThen_normal ?_
 refine qz [(7, nI k)] ?_ ?_
 refine qV 3 ?_ ?_
 refine qT ?_ ?_
 apply iR
 apply aR
 refine leafII (n := 3) (m := ((k : Nat) : Int)) (.inr rfl) (by kernel_rfl) ?_
 rotate_left
 iterate 11 kernel_rfl
 refine qf (beq_eq_false_iff_ne.2 hb11) ?_ ?_
 refine qU 2 [(0, .str s), (1, nI q), (7, nI (q + 1)), (91, .bool ((cls (s.getD q 0)) == 3))] ?_ ?_
 by_cases hb15 : (cls (s.getD q 0)) = 3
 refine qt (beq_iff_eq.2 hb15) ?_ ?_
 refine qSeq ?_ ?_
 refine qB 7 ?_ ?_ ?_
 refine wLoop (σ := Nat) (fun k => [(0, .str s), (7, .int .i64 ((k : Nat) : Int))]) (fun k => []) (fun k => (q + 1 ≤ k ∧ k ≤ s.length) ∧ ∀ i, q ≤ i → i < k → isDg (s.getD i 0) = true) (fun k => s.length - k) (q + 1) (by kernel_rfl) (by refine ⟨⟨Nat.le_refl _, by omega⟩, fun i h1 h2 => ?_⟩; have h3 : i = q := (by omega); subst h3; exact (cls_dg _).1 (by assumption)) ⟨⟨(by kernel_rfl), (by kernel_rfl), trivial⟩, by simp [BelL, AVal.bel], by simp, (by kernel_rfl), by simp⟩ ?_
 rintro k ⟨⟨hk, hk2⟩, ha⟩
 refine qSeq ?_ ?_
 refine qV 5 ?_ ?_
 by_cases hb16 : ((k : Nat) : Int) < ((s.length : Nat) : Int)
 refine qm [96, 97] (decide_eq_true hb16) ?_ ?_
 refine qr 2 ?_ ?_
 refine qy (o_index (k := .i64) (s := s) (i := ((k : Nat) : Int)) (by kernel_rfl) ty9 (by first | omega | (simp only [List.length_drop, List.length_take] at *; omega)) (by first | omega | (simp only [List.length_drop, List.length_take] at *; omega))) ?_ ?_ ?_
 refine qc [.int .u8 ((((s.getD k 0) : UInt8).toNat : Nat) : Int)] (class_spec (s.getD k 0)) ?_ ?_
 refine qR 2 [(0, .str s), (7, nI k), (98, .str s), (99, nI k), (100, .int .u8 ((((s.getD k 0) : UInt8).toNat : Nat) : Int)), (101, .int .i64 (cls (s.getD k 0))), (102, .bool ((cls (s.getD k 0)) == 3)), (103, .bool ((cls (s.getD k 0)) == 3))] [] ?_ ?_
 by_cases hb17 : (cls (s.getD k 0)) = 3
 refine qt (beq_iff_eq.2 hb17) ?_ ?_
 refine qK ?_ ?_
 refine qz [(0, .str s), (7, nI k), (98, .str s), (99, nI k), (100, .int .u8 ((((s.getD k 0) : UInt8).toNat : Nat) : Int)), (101, .int .i64 (cls (s.getD k 0))), (102, .bool ((cls (s.getD k 0)) == 3))] ?_ ?_
 refine qB 8 ?_ ?_ ?_
 refine qo ?_ ?_
 refine qr 1 ?_ ?_
 refine qy (o_add (a := ((k : Nat) : Int)) (b := 1) (by kernel_rfl) (by first | omega | (simp only [List.length_drop, List.length_take] at *; omega)) (by first | omega | (simp only [List.length_drop, List.length_take] at *; omega))) ?_ ?_ ?_
 refine qr 1 ?_ ?_
 refine qe ?_ ?_
 refine AIn_normal ?_
 refine AThen_normal ⟨k + 1, ?_, ?_, ⟨⟨(by kernel_rfl), (by kernel_rfl), trivial⟩, by simp [BelL, AVal.bel], by simp, (by kernel_rfl), by simp⟩⟩
 · omega
 · refine ⟨⟨by omega, by omega⟩, fun i h1 hi => ?_⟩
   rcases Nat.lt_succ_iff_lt_or_eq.1 hi with h | h
   · exact ha i h1 h
   · subst h; exact (cls_dg _).1 (by assumption)
 iterate 11 kernel_rfl
 refine qf (beq_eq_false_iff_ne.2 hb17) ?_ ?_
 refine wExit 7 (by kernel_rfl) (by kernel_rfl) ?_
 refine AThen_exit ?_
 refine AThen_exit ?_
 refine AIn_exit ?_
 refine AThen_normal ?_
 refine qz [(7, nI k)] ?_ ?_
 refine qV 3 ?_ ?_
 refine qT ?_ ?_
 apply iR
 apply aR
 refine leafII (n := 4) (m := ((k : Nat) : Int)) (.inr rfl) (by kernel_rfl) ?_
 · exact rtok_leaf s q k _ _ (tw_at isDg s q k (by omega) hk2 ha (by first | (left; omega) | (right; first | exact no_sp (by assumption) | exact no_dg (by assumption) | exact no_wd (by assumption) (by assumption) (by assumption) | exact no_nm1 (by assumption) | exact no_nm2 (by assumption)))) (rtok_dg (by rw [dropD0]; exact (cls_dg _).1 (by assumption)))
 iterate 10 kernel_rfl
 refine qm [96, 97] (decide_eq_false hb16) ?_ ?_
 refine qR 6 [(0, .str s), (7, nI k), (98, .tup []), (99, .tup []), (100, .tup []), (101, .tup []), (102, .tup []), (103, .bool false)] [] ?_ ?_
 refine wIfF (by kernel_rfl) (by kernel_rfl) ?_
 refine wExit 7 (by kernel_rfl) (by kernel_rfl) ?_
 refine AThen_exit ?_
 refine AThen_exit ?_
 refine AIn_exit ?_
 refine AThen_normal ?_
 refine qz [(7, nI k)] ?_ ?_
 refine qV 3 ?_ ?_
 refine qT ?_ ?_
 apply iR
 apply aR
 refine leafII (n := 4) (m := ((k : Nat) : Int)) (.inr rfl) (by kernel_rfl) ?_
 · exact rtok_leaf s q k _ _ (tw_at isDg s q k (by omega) hk2 ha (by first | (left; omega) | (right; first | exact no_sp (by assumption) | exact no_dg (by assumption) | exact no_wd (by assumption) (by assumption) (by assumption) | exact no_nm1 (by assumption) | exact no_nm2 (by assumption)))) (rtok_dg (by rw [dropD0]; exact (cls_dg _).1 (by assumption)))
 iterate 11 kernel_rfl
 refine qf (beq_eq_false_iff_ne.2 hb15) ?_ ?_
 refine qk ?_ ?_
 refine AIn_normal ?_
 refine AThen_normal ?_
 refine qz [(0, .str s), (1, nI q), (7, nI (q + 1))] ?_ ?_
 refine qSeq ?_ ?_
 refine qV 2 ?_ ?_
 refine qy (o_index (k := .i64) (s := s) (i := ((q : Nat) : Int)) (by kernel_rfl) ty9 (by first | omega | (simp only [List.length_drop, List.length_take] at *; omega)) (by first | omega | (simp only [List.length_drop, List.length_take] at *; omega))) ?_ ?_ ?_
 refine qR 1 [(0, .str s), (1, nI q), (7, nI (q + 1)), (110, .bool (((((s.getD q 0) : UInt8).toNat : Nat) : Int) == 35))] [] ?_ ?_
 by_cases hb18 : (s.getD q 0) = (35 : UInt8)
 refine qt (x := (((((s.getD q 0) : UInt8).toNat : Nat) : Int) == 35)) (u8t_eql (a := (s.getD q 0)) (b := (35 : UInt8)) (by kernel_rfl) (by kernel_rfl) hb18) ?_ ?_
 refine qV 2 ?_ ?_
 refine qc [.str s, .int .i64 ((q : Nat) : Int)] (rline_spec s q (by first | omega | (simp only [List.length_drop, List.length_take] at *; omega)) (by first | omega | (simp only [List.length_drop, List.length_take] at *; omega))) ?_ ?_
 have hv19 := tw_drop isLn s q (by omega)
 refine qX 2 ?_ ?_
 apply aR
 refine leafII (n := 1) (m := (((q + ((s.drop q).takeWhile isLn).length) : Nat) : Int)) (.inr rfl) (by kernel_rfl) ?_
 · exact rtok_leaf s q _ _ _ rfl (rtok_cm (by rw [dropD0]; assumption))
 iterate 4 kernel_rfl
 refine qf (x := (((((s.getD q 0) : UInt8).toNat : Nat) : Int) == 35)) (u8f_eql (a := (s.getD q 0)) (b := (35 : UInt8)) (by kernel_rfl) (by kernel_rfl) hb18) ?_ ?_
 refine qK ?_ ?_
 refine qz [(0, .str s), (1, nI q), (7, nI (q + 1))] ?_ ?_
 refine qSeq ?_ ?_
 refine qV 2 ?_ ?_
 refine qy (o_index (k := .i64) (s := s) (i := ((q : Nat) : Int)) (by kernel_rfl) ty9 (by first | omega | (simp only [List.length_drop, List.length_take] at *; omega)) (by first | omega | (simp only [List.length_drop, List.length_take] at *; omega))) ?_ ?_ ?_
 refine qR 1 [(0, .str s), (1, nI q), (7, nI (q + 1)), (117, .bool (((((s.getD q 0) : UInt8).toNat : Nat) : Int) == 34))] [] ?_ ?_
 by_cases hb20 : (s.getD q 0) = (34 : UInt8)
 refine qt (x := (((((s.getD q 0) : UInt8).toNat : Nat) : Int) == 34)) (u8t_eql (a := (s.getD q 0)) (b := (34 : UInt8)) (by kernel_rfl) (by kernel_rfl) hb20) ?_ ?_
 refine qV 2 ?_ ?_
 refine qc [.str s, .int .i64 ((q : Nat) : Int)] (rline_spec s q (by first | omega | (simp only [List.length_drop, List.length_take] at *; omega)) (by first | omega | (simp only [List.length_drop, List.length_take] at *; omega))) ?_ ?_
 have hv21 := tw_drop isLn s q (by omega)
 refine qR 1 [(0, .str s), (1, nI q), (7, nI (q + 1)), (8, nI ((q + ((s.drop q).takeWhile isLn).length)))] [] ?_ ?_
 refine qSeq ?_ ?_
 refine qB 9 ?_ ?_ ?_
 refine wLoop (σ := Nat) (fun k => [(0, .str s), (1, .int .i64 ((q : Nat) : Int)), (7, .int .i64 ((k : Nat) : Int)), (8, .int .i64 (((q + ((s.drop q).takeWhile isLn).length) : Nat) : Int))]) (fun k => []) (fun k => (q + 1 ≤ k ∧ k ≤ q + ((s.drop q).takeWhile isLn).length) ∧ ∀ i, q + 1 ≤ i → i < k → s.getD i 0 ≠ 34) (fun k => q + ((s.drop q).takeWhile isLn).length - k) (q + 1) (by kernel_rfl) (by refine ⟨⟨Nat.le_refl _, ?_⟩, fun i h1 h2 => by omega⟩; rcases Nat.lt_or_ge q (q + ((s.drop q).takeWhile isLn).length) with h | h; exact h; exfalso; have h6 := (tw_facts_at isLn s q (by omega)).2; have h7 : q + ((s.drop q).takeWhile isLn).length = q := (by omega); rw [h7] at h6; rcases h6 with h6 | h6; omega; simp_all [isLn]) ⟨⟨(by kernel_rfl), (by kernel_rfl), (by kernel_rfl), (by kernel_rfl), trivial⟩, by simp [BelL, AVal.bel], by simp, (by kernel_rfl), by simp⟩ ?_
 rintro k ⟨⟨hk, hk2⟩, ha⟩
 have hf := tw_facts_at isLn s q (by omega)
 refine qSeq ?_ ?_
 refine qV 4 ?_ ?_
 by_cases hb22 : ((k : Nat) : Int) < (((q + ((s.drop q).takeWhile isLn).length) : Nat) : Int)
 refine qm [123, 124] (decide_eq_true hb22) ?_ ?_
 refine qr 2 ?_ ?_
 refine qy (o_index (k := .i64) (s := s) (i := ((k : Nat) : Int)) (by kernel_rfl) ty9 (by first | omega | (simp only [List.length_drop, List.length_take] at *; omega)) (by first | omega | (simp only [List.length_drop, List.length_take] at *; omega))) ?_ ?_ ?_
 refine qR 2 [(0, .str s), (1, nI q), (7, nI k), (8, nI ((q + ((s.drop q).takeWhile isLn).length))), (125, .str s), (126, nI k), (127, .int .u8 ((((s.getD k 0) : UInt8).toNat : Nat) : Int)), (128, .bool (((((s.getD k 0) : UInt8).toNat : Nat) : Int) != 34)), (129, .bool (((((s.getD k 0) : UInt8).toNat : Nat) : Int) != 34))] [] ?_ ?_
 by_cases hb23 : (s.getD k 0) = (34 : UInt8)
 refine qf (x := (((((s.getD k 0) : UInt8).toNat : Nat) : Int) != 34)) (u8t_neq (a := (s.getD k 0)) (b := (34 : UInt8)) (by kernel_rfl) (by kernel_rfl) hb23) ?_ ?_
 refine wExit 9 (by kernel_rfl) (by kernel_rfl) ?_
 refine AThen_exit ?_
 refine AThen_exit ?_
 refine AIn_exit ?_
 refine AThen_normal ?_
 refine qz [(1, nI q), (7, nI k), (8, nI ((q + ((s.drop q).takeWhile isLn).length)))] ?_ ?_
 refine qSeq ?_ ?_
 refine qU 3 [(1, nI q), (7, nI k), (134, .bool (decide (((k : Nat) : Int) < (((q + ((s.drop q).takeWhile isLn).length) : Nat) : Int))))] ?_ ?_
 refine qt (decide_eq_true hb22) ?_ ?_
 refine qV 1 ?_ ?_
 refine qy (o_add (a := ((k : Nat) : Int)) (b := 1) (by kernel_rfl) (by first | omega | (simp only [List.length_drop, List.length_take] at *; omega)) (by first | omega | (simp only [List.length_drop, List.length_take] at *; omega))) ?_ ?_ ?_
 refine qX 2 ?_ ?_
 apply aR
 apply aR
 refine leafII (n := 5) (m := (((k + 1) : Nat) : Int)) (.inr rfl) (by kernel_rfl) ?_
 · refine rtok_leaf s q (k + 1) _ (k - q + 1) (by omega) (rtok_q1 (by rw [dropD0]; assumption) (quotedN_found s q k (by omega) (by omega) ?_ ?_))
   · assumption
   · exact fun i h1 h2 => ⟨ha i (by omega) h2, (isLn_iff _).1 (hf.1 i (by omega) (by omega))⟩
 iterate 9 kernel_rfl
 refine qt (x := (((((s.getD k 0) : UInt8).toNat : Nat) : Int) != 34)) (u8f_neq (a := (s.getD k 0)) (b := (34 : UInt8)) (by kernel_rfl) (by kernel_rfl) hb23) ?_ ?_
 refine qK ?_ ?_
 refine qz [(0, .str s), (1, nI q), (7, nI k), (8, nI ((q + ((s.drop q).takeWhile isLn).length))), (125, .str s), (126, nI k), (127, .int .u8 ((((s.getD k 0) : UInt8).toNat : Nat) : Int)), (128, .bool (((((s.getD k 0) : UInt8).toNat : Nat) : Int) != 34))] ?_ ?_
 refine qB 10 ?_ ?_ ?_
 refine qo ?_ ?_
 refine qr 1 ?_ ?_
 refine qy (o_add (a := ((k : Nat) : Int)) (b := 1) (by kernel_rfl) (by first | omega | (simp only [List.length_drop, List.length_take] at *; omega)) (by first | omega | (simp only [List.length_drop, List.length_take] at *; omega))) ?_ ?_ ?_
 refine qr 1 ?_ ?_
 refine qe ?_ ?_
 refine AIn_normal ?_
 refine AThen_normal ⟨k + 1, ?_, ?_, ⟨⟨(by kernel_rfl), (by kernel_rfl), (by kernel_rfl), (by kernel_rfl), trivial⟩, by simp [BelL, AVal.bel], by simp, (by kernel_rfl), by simp⟩⟩
 · omega
 · refine ⟨⟨by omega, by omega⟩, fun i h1 hi => ?_⟩
   rcases Nat.lt_succ_iff_lt_or_eq.1 hi with h | h
   · exact ha i h1 h
   · subst h; assumption
 iterate 16 kernel_rfl
 refine qm [123, 124] (decide_eq_false hb22) ?_ ?_
 refine qR 5 [(0, .str s), (1, nI q), (7, nI k), (8, nI ((q + ((s.drop q).takeWhile isLn).length))), (125, .tup []), (126, .tup []), (127, .tup []), (128, .tup []), (129, .bool false)] [] ?_ ?_
 refine wIfF (by kernel_rfl) (by kernel_rfl) ?_
 refine wExit 9 (by kernel_rfl) (by kernel_rfl) ?_
 refine AThen_exit ?_
 refine AThen_exit ?_
 refine AIn_exit ?_
 refine AThen_normal ?_
 refine qz [(1, nI q), (7, nI k), (8, nI ((q + ((s.drop q).takeWhile isLn).length)))] ?_ ?_
 refine qSeq ?_ ?_
 refine qU 3 [(1, nI q), (7, nI k), (134, .bool (decide (((k : Nat) : Int) < (((q + ((s.drop q).takeWhile isLn).length) : Nat) : Int))))] ?_ ?_
 refine qf (decide_eq_false hb22) ?_ ?_
 refine qK ?_ ?_
 refine qz [(1, nI q)] ?_ ?_
 refine qV 3 ?_ ?_
 refine qT ?_ ?_
 apply aR
 refine leafII (n := 8) (m := ((q : Nat) : Int)) (.inr rfl) (by kernel_rfl) ?_
 · refine rtok_leaf s q q _ 0 rfl (rtok_q0 (by rw [dropD0]; assumption) (quotedN_open s q (q + ((s.drop q).takeWhile isLn).length) (by omega) (by omega) ?_ ?_))
   · exact fun i h1 h2 => ⟨ha i (by omega) (by omega), (isLn_iff _).1 (hf.1 i (by omega) h2)⟩
   · exact hf.2.imp id fun h => by simpa [isLn] using h
 iterate 19 kernel_rfl
 refine qf (x := (((((s.getD q 0) : UInt8).toNat : Nat) : Int) == 34)) (u8f_eql (a := (s.getD q 0)) (b := (34 : UInt8)) (by kernel_rfl) (by kernel_rfl) hb20) ?_ ?_
 refine qK ?_ ?_
 refine qz [(0, .str s), (1, nI q)] ?_ ?_
 refine qV 3 ?_ ?_
 refine qc [.str s, .int .i64 ((q : Nat) : Int)] (rsymbol_spec s q (by first | omega | (simp only [List.length_drop, List.length_take] at *; omega)) (by first | omega | (simp only [List.length_drop, List.length_take] at *; omega))) ?_ ?_
 have hv26 := has2_le (s.drop q)
 refine qy (o_add (a := ((q : Nat) : Int)) (b := ((has2 (s.drop q) : Nat) : Int)) (by kernel_rfl) (by first | omega | (simp only [List.length_drop, List.length_take] at *; omega)) (by first | omega | (simp only [List.length_drop, List.length_take] at *; omega))) ?_ ?_ ?_
 refine qX 2 ?_ ?_
 refine leafII (n := 6) (m := (((q + has2 (s.drop q)) : Nat) : Int)) (.inr rfl) (by kernel_rfl) ?_
 · exact rtok_leaf s q _ _ _ rfl (rtok_sy (u := s.drop q) (by rw [List.length_drop]; omega) _ (dropD0 s q) (by assumption) (by assumption) (by assumption) (by assumption) (by assumption) (by assumption))
 iterate 46 kernel_rfl
 all_goals
  exact rtok_leaf s q k _ _ (tw_at isNm s q k (by omega) hk2 ha (by first | (left; omega) | (right; first | exact no_sp (by assumption) | exact no_dg (by assumption) | exact no_wd (by assumption) (by assumption) (by assumption) | exact no_nm1 (by assumption) | exact no_nm2 (by assumption)))) (rtok_up (by rw [dropD0]; exact (cls_up _).1 (by assumption)))
end Go.Proofs.YtdikgijfekfaoaaGreatDoor
