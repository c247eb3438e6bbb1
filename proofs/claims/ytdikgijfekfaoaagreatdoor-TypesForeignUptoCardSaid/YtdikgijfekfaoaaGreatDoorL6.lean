/- Fits of both lexers. No condition. -/
import Derived.Test.YtdikgijfekfaoaaGreatDoorL5
import Derived.Test.YtdikgijfekfaoaaGreatDoorAbsc
set_option linter.all false
set_option linter.unusedSimpArgs false
set_option linter.unusedVariables false
namespace Go.Proofs.YtdikgijfekfaoaaGreatDoor
open Go.Proofs.YtdikgijfekfaoaaGreatDoor.Abs
set_option maxRecDepth 20000
set_option maxHeartbeats 4000000
theorem rtoks_one (s : List UInt8) : (rtoks s).length = 1 ↔ (single s).2 = true := by
  unfold rtoks single
  by_cases hs : s = []
  · subst hs; simp [rtoksF]
  · rw [if_neg hs]
    have hp : 0 < s.length := List.length_pos_iff.2 hs
    have h1 := rtoksF_step s 0 hp
    have hn := next_pos s hp
    have hl := next_le s hp
    rw [Nat.sub_zero, List.drop_zero, Nat.zero_add] at h1
    rw [h1, List.length_cons]
    simp only [decide_eq_true_eq]
    by_cases he : (next s).2 = s.length
    · rw [he, Nat.sub_self]; simp [rtoksF]
    · have hlt : (next s).2 < s.length := by omega
      rw [rtoksF_step s _ hlt]
      simp [he]
theorem rtoks_kind (s : List UInt8) (h : (rtoks s).length = 1) : ((rtoks s).getD 0 Tok.zero).kind = (single s).1 := by
  by_cases hs : s = []
  · subst hs; simp [rtoks, rtoksF] at h
  · have hp : 0 < s.length := List.length_pos_iff.2 hs
    have h1 := rtoksF_step s 0 hp
    rw [Nat.sub_zero, List.drop_zero, Nat.zero_add] at h1
    unfold rtoks single
    rw [h1, if_neg hs]
    rfl
theorem fitsW_leaf (s : List UInt8) (k : Int) (b : Bool) (h : b = true ↔ (rtoks s).length = 1 ∧ ((rtoks s).getD 0 Tok.zero).kind = k ∧ s.length ≤ 16) : b = fitsW k s := by
  rw [Bool.eq_iff_iff, h]
  simp only [fitsW, decide_eq_true_eq, ← rtoks_one]
  constructor
  · rintro ⟨a, b, c⟩; rw [rtoks_kind s a] at b; exact ⟨a, b, c⟩
  · rintro ⟨a, b, c⟩; rw [← rtoks_kind s a] at b; exact ⟨a, b, c⟩
noncomputable def c117 : Code := bodyOf Tryz.f117
theorem rfits2_spec (s : List UInt8) (hs : s.length < 1000000000) : CallsP cx 117 [.agg [.int .i64 2, .str s, .int .i64 0]] (.bool (fitsW 2 s)) := by
 refine func_intro (cx := cx) 49 0 [(ResultVar.tmp 2)] Tryz.func117 rfl rfl rfl rfl rfl (by simp) ?_
 show wpA cx 49 0 (at_ c117 []) _ _ _
 refine qZ [(0, .agg [.int .i64 2, .str s, .int .i64 0])] [] ?_ ?_
 refine qW 2 [(1, .ptr 0 0)] [.box [.int .i64 2, .str s, .int .i64 0]] ?_ ?_
 refine qV 2 ?_ ?_
 refine qc [.str s] (rtokens_spec s (by first | omega | (simp only [List.length_drop, List.length_take] at *; omega))) ?_ ?_
 refine qR 1 [(1, .ptr 0 0), (3, .imm ((rtoks s).map Tok.v))] [.box [.int .i64 2, .str s, .int .i64 0]] ?_ ?_
 refine qSeq ?_ ?_
 refine qSeq ?_ ?_
 refine wDrw cxM (by kernel_rfl) extThen (dstart ?_)
 refine qu 1 ?_ ?_
 refine qd (o_lenmap (l := (rtoks s)) (enc := Tok.v) (by kernel_rfl) ty141) ?_ ?_ ?_ ?_
 refine qu 2 ?_ ?_
 by_cases hb1 : (((rtoks s).length : Nat) : Int) = 1
 refine dset 9 (.bool ((((rtoks s).length : Nat) : Int) != 1)) (.bool false) (extD extThen) (by kernel_rfl) (congrArg AVal.bool (bne_eq_false_iff_eq.2 hb1)) ?_
 refine dset 10 (.bool ((((rtoks s).length : Nat) : Int) != 1)) (.bool false) (extD extThen) (by kernel_rfl) (congrArg AVal.bool (bne_eq_false_iff_eq.2 hb1)) ?_
 refine qu 1 ?_ ?_
 refine qd (o_ixmap (k := .i64) (l := (rtoks s)) (enc := Tok.v) (i := 0) Tok.zero (by kernel_rfl) ty141 ty119 (fun _ => rfl) (by first | omega | (simp only [List.length_drop, List.length_take] at *; omega)) (by first | omega | (simp only [List.length_drop, List.length_take] at *; omega))) ?_ ?_ ?_ ?_
 refine qu 7 ?_ ?_
 by_cases hb2 : (((rtoks s).getD 0 Tok.zero).kind) = 2
 refine dset 17 (.bool ((((rtoks s).getD 0 Tok.zero).kind) != 2)) (.bool false) (extD extThen) (by kernel_rfl) (congrArg AVal.bool (bne_eq_false_iff_eq.2 hb2)) ?_
 refine dset 18 (.bool ((((rtoks s).getD 0 Tok.zero).kind) != 2)) (.bool false) (extD extThen) (by kernel_rfl) (congrArg AVal.bool (bne_eq_false_iff_eq.2 hb2)) ?_
 refine dset 19 (.bool ((((rtoks s).getD 0 Tok.zero).kind) != 2)) (.bool false) (extD extThen) (by kernel_rfl) (congrArg AVal.bool (bne_eq_false_iff_eq.2 hb2)) ?_
 refine qu 4 ?_ ?_
 refine dend (by kernel_rfl) ⟨(by kernel_rfl), ?_⟩
 refine AThen_normal ?_
 refine qZ [(1, .ptr 0 0), (23, .bool false)] [.box [.int .i64 2, .str s, .int .i64 0]] ?_ ?_
 refine wIfF (by kernel_rfl) (by kernel_rfl) ?_
 refine qK ?_ ?_
 refine qz [(1, .ptr 0 0)] ?_ ?_
 refine qSeq ?_ ?_
 refine qU 2 [(1, .ptr 0 0), (25, .int .i64 2)] ?_ ?_
 refine qB 0 ?_ ?_ ?_
 refine qSeq ?_ ?_
 refine qU 2 [(1, .ptr 0 0), (25, .int .i64 2), (26, .bool true)] ?_ ?_
 refine wIfT (by kernel_rfl) (by kernel_rfl) ?_
 refine qK ?_ ?_
 refine qz [(1, .ptr 0 0), (25, .int .i64 2), (26, .bool true)] ?_ ?_
 refine wIfT (by kernel_rfl) (by kernel_rfl) ?_
 refine qV 5 ?_ ?_
 refine qT ?_ ?_
 apply iR
 apply aR
 refine leafB (b := (decide (((s.length : Nat) : Int) ≤ 16))) (.inr rfl) (by kernel_rfl) ?_
 by_cases hb3 : ((s.length : Nat) : Int) ≤ 16
 refine Eq.trans (decide_eq_true hb3) ?_
 rotate_left
 refine Eq.trans (decide_eq_false hb3) ?_
 rotate_left
 iterate 14 kernel_rfl
 refine dset 17 (.bool ((((rtoks s).getD 0 Tok.zero).kind) != 2)) (.bool true) (extD extThen) (by kernel_rfl) (congrArg AVal.bool (bne_iff_ne.2 hb2)) ?_
 refine dset 18 (.bool ((((rtoks s).getD 0 Tok.zero).kind) != 2)) (.bool true) (extD extThen) (by kernel_rfl) (congrArg AVal.bool (bne_iff_ne.2 hb2)) ?_
 refine dset 19 (.bool ((((rtoks s).getD 0 Tok.zero).kind) != 2)) (.bool true) (extD extThen) (by kernel_rfl) (congrArg AVal.bool (bne_iff_ne.2 hb2)) ?_
 refine qu 4 ?_ ?_
 refine dend (by kernel_rfl) ⟨(by kernel_rfl), ?_⟩
 refine AThen_normal ?_
 refine qZ [(1, .ptr 0 0), (23, .bool true)] [.box [.int .i64 2, .str s, .int .i64 0]] ?_ ?_
 refine wIfT (by kernel_rfl) (by kernel_rfl) ?_
 refine qV 1 ?_ ?_
 refine qT ?_ ?_
 apply aR
 refine leafB (b := false) (.inr rfl) (by kernel_rfl) ?_
 rotate_left
 iterate 9 kernel_rfl
 refine dset 9 (.bool ((((rtoks s).length : Nat) : Int) != 1)) (.bool true) (extD extThen) (by kernel_rfl) (congrArg AVal.bool (bne_iff_ne.2 hb1)) ?_
 refine dset 10 (.bool ((((rtoks s).length : Nat) : Int) != 1)) (.bool true) (extD extThen) (by kernel_rfl) (congrArg AVal.bool (bne_iff_ne.2 hb1)) ?_
 refine qu 13 ?_ ?_
 refine dend (by kernel_rfl) ⟨(by kernel_rfl), ?_⟩
 refine AThen_normal ?_
 refine qZ [(1, .ptr 0 0), (23, .bool true)] [.box [.int .i64 2, .str s, .int .i64 0]] ?_ ?_
 refine wIfT (by kernel_rfl) (by kernel_rfl) ?_
 refine qV 1 ?_ ?_
 refine qT ?_ ?_
 apply aR
 refine leafB (b := false) (.inr rfl) (by kernel_rfl) ?_
 rotate_left
 iterate 16 kernel_rfl
 all_goals
  refine fitsW_leaf s _ _ ?_
  simp only [false_iff, true_iff, Bool.false_eq_true, not_and]
  first | exact ⟨by omega, by omega, by omega⟩ | (intros; omega)
theorem rfits3_spec (s : List UInt8) (hs : s.length < 1000000000) : CallsP cx 117 [.agg [.int .i64 3, .str s, .int .i64 0]] (.bool (fitsW 3 s)) := by
 refine func_intro (cx := cx) 49 0 [(ResultVar.tmp 2)] Tryz.func117 rfl rfl rfl rfl rfl (by simp) ?_
 show wpA cx 49 0 (at_ c117 []) _ _ _
 refine qZ [(0, .agg [.int .i64 3, .str s, .int .i64 0])] [] ?_ ?_
 refine qW 2 [(1, .ptr 0 0)] [.box [.int .i64 3, .str s, .int .i64 0]] ?_ ?_
 refine qV 2 ?_ ?_
 refine qc [.str s] (rtokens_spec s (by first | omega | (simp only [List.length_drop, List.length_take] at *; omega))) ?_ ?_
 refine qR 1 [(1, .ptr 0 0), (3, .imm ((rtoks s).map Tok.v))] [.box [.int .i64 3, .str s, .int .i64 0]] ?_ ?_
 refine qSeq ?_ ?_
 refine qSeq ?_ ?_
 refine wDrw cxM (by kernel_rfl) extThen (dstart ?_)
 refine qu 1 ?_ ?_
 refine qd (o_lenmap (l := (rtoks s)) (enc := Tok.v) (by kernel_rfl) ty141) ?_ ?_ ?_ ?_
 refine qu 2 ?_ ?_
 by_cases hb1 : (((rtoks s).length : Nat) : Int) = 1
 refine dset 9 (.bool ((((rtoks s).length : Nat) : Int) != 1)) (.bool false) (extD extThen) (by kernel_rfl) (congrArg AVal.bool (bne_eq_false_iff_eq.2 hb1)) ?_
 refine dset 10 (.bool ((((rtoks s).length : Nat) : Int) != 1)) (.bool false) (extD extThen) (by kernel_rfl) (congrArg AVal.bool (bne_eq_false_iff_eq.2 hb1)) ?_
 refine qu 1 ?_ ?_
 refine qd (o_ixmap (k := .i64) (l := (rtoks s)) (enc := Tok.v) (i := 0) Tok.zero (by kernel_rfl) ty141 ty119 (fun _ => rfl) (by first | omega | (simp only [List.length_drop, List.length_take] at *; omega)) (by first | omega | (simp only [List.length_drop, List.length_take] at *; omega))) ?_ ?_ ?_ ?_
 refine qu 7 ?_ ?_
 by_cases hb2 : (((rtoks s).getD 0 Tok.zero).kind) = 3
 refine dset 17 (.bool ((((rtoks s).getD 0 Tok.zero).kind) != 3)) (.bool false) (extD extThen) (by kernel_rfl) (congrArg AVal.bool (bne_eq_false_iff_eq.2 hb2)) ?_
 refine dset 18 (.bool ((((rtoks s).getD 0 Tok.zero).kind) != 3)) (.bool false) (extD extThen) (by kernel_rfl) (congrArg AVal.bool (bne_eq_false_iff_eq.2 hb2)) ?_
 refine dset 19 (.bool ((((rtoks s).getD 0 Tok.zero).kind) != 3)) (.bool false) (extD extThen) (by kernel_rfl) (congrArg AVal.bool (bne_eq_false_iff_eq.2 hb2)) ?_
 refine qu 4 ?_ ?_
 refine dend (by kernel_rfl) ⟨(by kernel_rfl), ?_⟩
 refine AThen_normal ?_
 refine qZ [(1, .ptr 0 0), (23, .bool false)] [.box [.int .i64 3, .str s, .int .i64 0]] ?_ ?_
 refine wIfF (by kernel_rfl) (by kernel_rfl) ?_
 refine qK ?_ ?_
 refine qz [(1, .ptr 0 0)] ?_ ?_
 refine qSeq ?_ ?_
 refine qU 2 [(1, .ptr 0 0), (25, .int .i64 3)] ?_ ?_
 refine qB 0 ?_ ?_ ?_
 refine qSeq ?_ ?_
 refine qU 2 [(1, .ptr 0 0), (25, .int .i64 3), (26, .bool false)] ?_ ?_
 refine wIfF (by kernel_rfl) (by kernel_rfl) ?_
 refine qo ?_ ?_
 refine qR 2 [(1, .ptr 0 0), (25, .int .i64 3), (26, .bool true)] [.box [.int .i64 3, .str s, .int .i64 0]] ?_ ?_
 refine wIfT (by kernel_rfl) (by kernel_rfl) ?_
 refine qV 5 ?_ ?_
 refine qT ?_ ?_
 apply iR
 apply aR
 refine leafB (b := (decide (((s.length : Nat) : Int) ≤ 16))) (.inr rfl) (by kernel_rfl) ?_
 by_cases hb3 : ((s.length : Nat) : Int) ≤ 16
 refine Eq.trans (decide_eq_true hb3) ?_
 rotate_left
 refine Eq.trans (decide_eq_false hb3) ?_
 rotate_left
 iterate 14 kernel_rfl
 refine dset 17 (.bool ((((rtoks s).getD 0 Tok.zero).kind) != 3)) (.bool true) (extD extThen) (by kernel_rfl) (congrArg AVal.bool (bne_iff_ne.2 hb2)) ?_
 refine dset 18 (.bool ((((rtoks s).getD 0 Tok.zero).kind) != 3)) (.bool true) (extD extThen) (by kernel_rfl) (congrArg AVal.bool (bne_iff_ne.2 hb2)) ?_
 refine dset 19 (.bool ((((rtoks s).getD 0 Tok.zero).kind) != 3)) (.bool true) (extD extThen) (by kernel_rfl) (congrArg AVal.bool (bne_iff_ne.2 hb2)) ?_
 refine qu 4 ?_ ?_
 refine dend (by kernel_rfl) ⟨(by kernel_rfl), ?_⟩
 refine AThen_normal ?_
 refine qZ [(1, .ptr 0 0), (23, .bool true)] [.box [.int .i64 3, .str s, .int .i64 0]] ?_ ?_
 refine wIfT (by kernel_rfl) (by kernel_rfl) ?_
 refine qV 1 ?_ ?_
 refine qT ?_ ?_
 apply aR
 refine leafB (b := false) (.inr rfl) (by kernel_rfl) ?_
 rotate_left
 iterate 9 kernel_rfl
 refine dset 9 (.bool ((((rtoks s).length : Nat) : Int) != 1)) (.bool true) (extD extThen) (by kernel_rfl) (congrArg AVal.bool (bne_iff_ne.2 hb1)) ?_
 refine dset 10 (.bool ((((rtoks s).length : Nat) : Int) != 1)) (.bool true) (extD extThen) (by kernel_rfl) (congrArg AVal.bool (bne_iff_ne.2 hb1)) ?_
 refine qu 13 ?_ ?_
 refine dend (by kernel_rfl) ⟨(by kernel_rfl), ?_⟩
 refine AThen_normal ?_
 refine qZ [(1, .ptr 0 0), (23, .bool true)] [.box [.int .i64 3, .str s, .int .i64 0]] ?_ ?_
 refine wIfT (by kernel_rfl) (by kernel_rfl) ?_
 refine qV 1 ?_ ?_
 refine qT ?_ ?_
 apply aR
 refine leafB (b := false) (.inr rfl) (by kernel_rfl) ?_
 rotate_left
 iterate 16 kernel_rfl
 all_goals
  refine fitsW_leaf s _ _ ?_
  simp only [false_iff, true_iff, Bool.false_eq_true, not_and]
  first | exact ⟨by omega, by omega, by omega⟩ | (intros; omega)
noncomputable def c89 : Code := bodyOf Tryz.f89
theorem rlower_spec (s : List UInt8) (hs : s.length < 1000000000) : CallsP cx 89 [.str s] (.bool (fitsW 2 s)) := by
 refine func_intro (cx := cx) 6 0 [(ResultVar.tmp 2)] Tryz.func89 rfl rfl rfl rfl rfl (by simp) ?_
 show wpA cx 6 0 (at_ c89 []) _ _ _
 refine qZ [(0, .str s)] [] ?_ ?_
 refine qU 1 [(0, .str s)] ?_ ?_
 refine qV 2 ?_ ?_
 refine qc [.agg [.int .i64 2, .str s, .int .i64 0]] (rfits2_spec s (by omega)) ?_ ?_
 refine qX 1 ?_ ?_
 refine leafB (b := (fitsW 2 s)) (.inr rfl) (by kernel_rfl) ?_
 · rfl
 iterate 5 kernel_rfl
noncomputable def c82 : Code := bodyOf Tryz.f82
theorem tlower_spec (s : List UInt8) (hs : s.length < 1000000000) : CallsP cx 82 [.str s] (.bool (fitsW 2 s)) := by
 refine func_intro (cx := cx) 6 0 [(ResultVar.tmp 2)] Tryz.func82 rfl rfl rfl rfl rfl (by simp) ?_
 show wpA cx 6 0 (at_ c82 []) _ _ _
 refine qZ [(0, .str s)] [] ?_ ?_
 refine qU 1 [(0, .str s)] ?_ ?_
 refine qV 2 ?_ ?_
 refine qc [.agg [.int .i64 2, .str s, .int .i64 0]] (fits2_spec s (by omega)) ?_ ?_
 refine qX 1 ?_ ?_
 refine leafB (b := (fitsW 2 s)) (.inr rfl) (by kernel_rfl) ?_
 · rfl
 iterate 5 kernel_rfl
def upN (s : List UInt8) : Bool := fitsW 3 s && !(s == [73, 110, 116]) && !(s == [84, 101, 120, 116]) && !(s == [66, 111, 111, 108])
noncomputable def c111 : Code := bodyOf Tryz.f111
theorem rupper_spec (s : List UInt8) (hs : s.length < 1000000000) : CallsP cx 111 [.str s] (.bool (upN s)) := by
 refine func_intro (cx := cx) 20 0 [(ResultVar.tmp 2)] Tryz.func111 rfl rfl rfl rfl rfl (by simp) ?_
 show wpA cx 20 0 (at_ c111 []) _ _ _
 refine qZ [(0, .str s)] [] ?_ ?_
 refine qU 1 [(0, .str s)] ?_ ?_
 refine qV 2 ?_ ?_
 refine qc [.agg [.int .i64 3, .str s, .int .i64 0]] (rfits3_spec s (by omega)) ?_ ?_
 refine qR 1 [(0, .str s), (3, .bool (fitsW 3 s))] [] ?_ ?_
 refine qV 2 ?_ ?_
 by_cases hb1 : (fitsW 3 s) = true
 refine qm [3, 7, 8] (hb1) ?_ ?_
 refine qr 4 ?_ ?_
 by_cases hb2 : s = [73, 110, 116]
 refine qm [10, 11, 12] (x := (!(s == [73, 110, 116]))) (congrArg not (beq_iff_eq.2 hb2)) ?_ ?_
 refine qX 8 ?_ ?_
 refine leafB (b := false) (.inr rfl) (by kernel_rfl) ?_
 · simp [upN, *]
 iterate 2 kernel_rfl
 refine qm [10, 11, 12] (x := (!(s == [73, 110, 116]))) (congrArg not (beq_eq_false_iff_ne.2 hb2)) ?_ ?_
 refine qr 4 ?_ ?_
 by_cases hb3 : s = [84, 101, 120, 116]
 refine qm [14, 15, 16] (x := (!(s == [84, 101, 120, 116]))) (congrArg not (beq_iff_eq.2 hb3)) ?_ ?_
 refine qX 4 ?_ ?_
 refine leafB (b := false) (.inr rfl) (by kernel_rfl) ?_
 · simp [upN, *]
 iterate 2 kernel_rfl
 refine qm [14, 15, 16] (x := (!(s == [84, 101, 120, 116]))) (congrArg not (beq_eq_false_iff_ne.2 hb3)) ?_ ?_
 refine qX 4 ?_ ?_
 refine leafB (b := (!(s == [66, 111, 111, 108]))) (.inr rfl) (by kernel_rfl) ?_
 by_cases hb4 : s = [66, 111, 111, 108]
 refine Eq.trans (congrArg not (beq_iff_eq.2 hb4)) ?_
 · simp [upN, *]
 refine Eq.trans (congrArg not (beq_eq_false_iff_ne.2 hb4)) ?_
 · simp [upN, *]
 iterate 6 kernel_rfl
 refine qm [3, 7, 8] (Bool.eq_false_iff.2 hb1) ?_ ?_
 refine qX 12 ?_ ?_
 refine leafB (b := false) (.inr rfl) (by kernel_rfl) ?_
 · simp [upN, *]
 iterate 8 kernel_rfl
end Go.Proofs.YtdikgijfekfaoaaGreatDoor
