/- The reference's lexer: all tokens. No condition. -/
import Derived.Test.YtdikgijfekfaoaaGreatDoorL4
import Derived.Test.YtdikgijfekfaoaaGreatDoorAbsc
set_option linter.all false
set_option linter.unusedSimpArgs false
set_option linter.unusedVariables false
namespace Go.Proofs.YtdikgijfekfaoaaGreatDoor
open Go.Proofs.YtdikgijfekfaoaaGreatDoor.Abs
set_option maxRecDepth 20000
set_option maxHeartbeats 4000000
structure Tok where
  kind : Int
  text : List UInt8
  pos : Int
def Tok.zero : Tok := ⟨0, [], 0⟩
def Tok.v (t : Tok) : AVal := .agg [.int .i64 t.kind, .str t.text, .int .i64 t.pos]
theorem rtok_2 (u : List UInt8) : (rtok u).2 = (good u).2 := by
  unfold rtok
  split
  · rename_i h; rw [good_qt h.1, h.2]
  · rfl
theorem rtok_le (s : List UInt8) (q : Nat) (h : q < s.length) : q + (rtok (s.drop q)).2 ≤ s.length := by
  have := good_le (s.drop q) (by rw [List.length_drop]; omega)
  rw [rtok_2]; rw [List.length_drop] at this; omega
theorem rtok_pos {u : List UInt8} (h : 0 < (rtok u).2) : rtok u = good u := by
  unfold rtok at h ⊢
  split
  · rename_i hc; rw [if_pos hc] at h; simp at h
  · rfl
theorem rnext_le (s : List UInt8) (q : Nat) (h : q < s.length) : q + (next (s.drop q)).2 ≤ s.length := by
  have := next_le (s.drop q) (by rw [List.length_drop]; omega)
  rw [List.length_drop] at this; omega
theorem next_leaf (s : List UInt8) (q k : Nat) (n : Int) (m : Nat) (h1 : q + m = k) (h : next (s.drop q) = (n, m)) : n = (next (s.drop q)).1 ∧ ((k : Nat) : Int) = (((q + (next (s.drop q)).2 : Nat)) : Int) := by
  rw [h, ← h1]; exact ⟨rfl, rfl⟩
theorem next_good {u : List UInt8} (h : 0 < (rtok u).2) : next u = rtok u := by rw [next, if_pos (by rw [← rtok_2]; exact h), rtok_pos h]
theorem next_q {u : List UInt8} (h : (rtok u).2 = 0) (h34 : u.getD 0 0 = 34) : next u = (8, (u.takeWhile isLn).length) := by
  rw [rtok_2] at h; rw [next, if_neg (by omega), if_pos h34]
theorem next_b {u : List UInt8} (h : (rtok u).2 = 0) (h34 : ¬ u.getD 0 0 = 34) : next u = (8, badTo u (u.length - 1) 1) := by
  rw [rtok_2] at h; rw [next, if_neg (by omega), if_neg h34]
noncomputable def c142 : Code := bodyOf Tryz.f142
theorem rnext_spec (s : List UInt8) (q : Nat) (hq : q < s.length) (hs : s.length < 1000000000) : CallsP cx 142 [.str s, .int .i64 ((q : Nat) : Int)] (.tup [.int .i64 ((next (s.drop q)).1), .int .i64 (((q + (next (s.drop q)).2) : Nat) : Int)]) := by
 refine func_intro (cx := cx) 52 0 [(ResultVar.tmp 4), (ResultVar.tmp 5)] Tryz.func142 rfl rfl rfl rfl rfl (by simp) ?_
 show wpA cx 52 0 (at_ c142 []) _ _ _
 refine qZ [(0, .str s), (1, nI q)] [] ?_ ?_
 refine qU 2 [(0, .str s), (1, nI q)] ?_ ?_
 refine qV 2 ?_ ?_
 refine qc [.str s, .int .i64 ((q : Nat) : Int)] (token_spec s q (by first | omega | (simp only [List.length_drop, List.length_take] at *; omega)) (by first | omega | (simp only [List.length_drop, List.length_take] at *; omega))) ?_ ?_
 have hv1 := rtok_le s q (by omega)
 refine qR 5 [(0, .str s), (1, nI q), (6, .int .i64 ((rtok (s.drop q)).1)), (7, nI ((q + (rtok (s.drop q)).2)))] [] ?_ ?_
 refine qSeq ?_ ?_
 refine qU 3 [(0, .str s), (1, nI q), (6, .int .i64 ((rtok (s.drop q)).1)), (7, nI ((q + (rtok (s.drop q)).2))), (18, .bool (decide ((((q + (rtok (s.drop q)).2) : Nat) : Int) > ((q : Nat) : Int))))] ?_ ?_
 by_cases hb2 : (((q + (rtok (s.drop q)).2) : Nat) : Int) > ((q : Nat) : Int)
 refine qt (decide_eq_true hb2) ?_ ?_
 refine qV 4 ?_ ?_
 refine qT ?_ ?_
 apply aR
 refine leafII (n := ((rtok (s.drop q)).1)) (m := (((q + (rtok (s.drop q)).2) : Nat) : Int)) (.inr rfl) (by kernel_rfl) ?_
 · exact next_leaf s q _ _ _ rfl (next_good (by omega))
 iterate 3 kernel_rfl
 refine qf (decide_eq_false hb2) ?_ ?_
 refine qK ?_ ?_
 refine qz [(0, .str s), (1, nI q)] ?_ ?_
 refine qSeq ?_ ?_
 refine qV 2 ?_ ?_
 refine qy (o_index (k := .i64) (s := s) (i := ((q : Nat) : Int)) (by kernel_rfl) ty9 (by first | omega | (simp only [List.length_drop, List.length_take] at *; omega)) (by first | omega | (simp only [List.length_drop, List.length_take] at *; omega))) ?_ ?_ ?_
 refine qR 1 [(0, .str s), (1, nI q), (24, .bool (((((s.getD q 0) : UInt8).toNat : Nat) : Int) == 34))] [] ?_ ?_
 by_cases hb3 : (s.getD q 0) = (34 : UInt8)
 refine qt (x := (((((s.getD q 0) : UInt8).toNat : Nat) : Int) == 34)) (u8t_eql (a := (s.getD q 0)) (b := (34 : UInt8)) (by kernel_rfl) (by kernel_rfl) hb3) ?_ ?_
 refine qV 2 ?_ ?_
 refine qc [.str s, .int .i64 ((q : Nat) : Int)] (rline_spec s q (by first | omega | (simp only [List.length_drop, List.length_take] at *; omega)) (by first | omega | (simp only [List.length_drop, List.length_take] at *; omega))) ?_ ?_
 have hv4 := tw_drop isLn s q (by omega)
 refine qX 2 ?_ ?_
 apply aR
 refine leafII (n := 8) (m := (((q + ((s.drop q).takeWhile isLn).length) : Nat) : Int)) (.inr rfl) (by kernel_rfl) ?_
 · exact next_leaf s q _ _ _ rfl (next_q (by omega) (by rw [dropD0]; assumption))
 iterate 4 kernel_rfl
 refine qf (x := (((((s.getD q 0) : UInt8).toNat : Nat) : Int) == 34)) (u8f_eql (a := (s.getD q 0)) (b := (34 : UInt8)) (by kernel_rfl) (by kernel_rfl) hb3) ?_ ?_
 refine qK ?_ ?_
 refine qz [(0, .str s), (1, nI q)] ?_ ?_
 refine qV 1 ?_ ?_
 refine qy (o_add (a := ((q : Nat) : Int)) (b := 1) (by kernel_rfl) (by first | omega | (simp only [List.length_drop, List.length_take] at *; omega)) (by first | omega | (simp only [List.length_drop, List.length_take] at *; omega))) ?_ ?_ ?_
 refine qR 1 [(0, .str s), (7, nI (q + 1))] [] ?_ ?_
 refine qSeq ?_ ?_
 refine qB 0 ?_ ?_ ?_
 refine wLoop (σ := Nat) (fun k => [(0, .str s), (7, .int .i64 ((k : Nat) : Int))]) (fun k => []) (fun k => (q + 1 ≤ k ∧ k ≤ s.length) ∧ badTo (s.drop q) ((s.drop q).length - 1) 1 = badTo (s.drop q) ((s.drop q).length - (k - q)) (k - q)) (fun k => s.length - k) (q + 1) (by kernel_rfl) (by refine ⟨⟨Nat.le_refl _, by omega⟩, ?_⟩; rw [show q + 1 - q = 1 by omega]) ⟨⟨(by kernel_rfl), (by kernel_rfl), trivial⟩, by simp [BelL, AVal.bel], by simp, (by kernel_rfl), by simp⟩ ?_
 rintro k ⟨⟨hk1, hk2⟩, hk⟩
 refine qSeq ?_ ?_
 refine qW 4 [(0, .str s), (7, nI k), (33, .bool (decide (((k : Nat) : Int) < ((s.length : Nat) : Int))))] [] ?_ ?_
 by_cases hb5 : ((k : Nat) : Int) < ((s.length : Nat) : Int)
 refine qt (decide_eq_true hb5) ?_ ?_
 refine qK ?_ ?_
 refine qz [(0, .str s), (7, nI k)] ?_ ?_
 refine qB 1 ?_ ?_ ?_
 refine qV 2 ?_ ?_
 refine qc [.str s, .int .i64 ((k : Nat) : Int)] (token_spec s k (by first | omega | (simp only [List.length_drop, List.length_take] at *; omega)) (by first | omega | (simp only [List.length_drop, List.length_take] at *; omega))) ?_ ?_
 have hv6 := rtok_le s k (by omega)
 refine qR 5 [(0, .str s), (7, nI k), (9, nI ((k + (rtok (s.drop k)).2)))] [] ?_ ?_
 refine qSeq ?_ ?_
 refine qV 4 ?_ ?_
 by_cases hb7 : (((k + (rtok (s.drop k)).2) : Nat) : Int) > ((k : Nat) : Int)
 refine qm [42, 43] (decide_eq_true hb7) ?_ ?_
 refine qR 5 [(0, .str s), (7, nI k), (44, .tup []), (45, .tup []), (46, .tup []), (47, .tup []), (48, .bool true)] [] ?_ ?_
 refine wIfT (by kernel_rfl) (by kernel_rfl) ?_
 refine wExit 0 (by kernel_rfl) (by kernel_rfl) ?_
 refine AThen_exit ?_
 refine AIn_other (by decide) ?_
 refine AThen_exit ?_
 refine AIn_exit ?_
 refine AThen_normal ?_
 refine qz [(7, nI k)] ?_ ?_
 refine qV 3 ?_ ?_
 refine qT ?_ ?_
 refine leafII (n := 8) (m := ((k : Nat) : Int)) (.inr rfl) (by kernel_rfl) ?_
 rotate_left
 iterate 5 kernel_rfl
 refine qm [42, 43] (decide_eq_false hb7) ?_ ?_
 refine qr 2 ?_ ?_
 refine qy (o_index (k := .i64) (s := s) (i := ((k : Nat) : Int)) (by kernel_rfl) ty9 (by first | omega | (simp only [List.length_drop, List.length_take] at *; omega)) (by first | omega | (simp only [List.length_drop, List.length_take] at *; omega))) ?_ ?_ ?_
 refine qR 2 [(0, .str s), (7, nI k), (44, .str s), (45, nI k), (46, .int .u8 ((((s.getD k 0) : UInt8).toNat : Nat) : Int)), (47, .bool (((((s.getD k 0) : UInt8).toNat : Nat) : Int) == 34)), (48, .bool (((((s.getD k 0) : UInt8).toNat : Nat) : Int) == 34))] [] ?_ ?_
 by_cases hb8 : (s.getD k 0) = (34 : UInt8)
 refine qt (x := (((((s.getD k 0) : UInt8).toNat : Nat) : Int) == 34)) (u8t_eql (a := (s.getD k 0)) (b := (34 : UInt8)) (by kernel_rfl) (by kernel_rfl) hb8) ?_ ?_
 refine wExit 0 (by kernel_rfl) (by kernel_rfl) ?_
 refine AThen_exit ?_
 refine AIn_other (by decide) ?_
 refine AThen_exit ?_
 refine AIn_exit ?_
 refine AThen_normal ?_
 refine qz [(7, nI k)] ?_ ?_
 refine qV 3 ?_ ?_
 refine qT ?_ ?_
 refine leafII (n := 8) (m := ((k : Nat) : Int)) (.inr rfl) (by kernel_rfl) ?_
 rotate_left
 iterate 4 kernel_rfl
 refine qf (x := (((((s.getD k 0) : UInt8).toNat : Nat) : Int) == 34)) (u8f_eql (a := (s.getD k 0)) (b := (34 : UInt8)) (by kernel_rfl) (by kernel_rfl) hb8) ?_ ?_
 refine qK ?_ ?_
 refine qz [(0, .str s), (7, nI k), (44, .str s), (45, nI k), (46, .int .u8 ((((s.getD k 0) : UInt8).toNat : Nat) : Int)), (47, .bool (((((s.getD k 0) : UInt8).toNat : Nat) : Int) == 34))] ?_ ?_
 refine qo ?_ ?_
 refine qr 1 ?_ ?_
 refine qy (o_add (a := ((k : Nat) : Int)) (b := 1) (by kernel_rfl) (by first | omega | (simp only [List.length_drop, List.length_take] at *; omega)) (by first | omega | (simp only [List.length_drop, List.length_take] at *; omega))) ?_ ?_ ?_
 refine qr 1 ?_ ?_
 refine qe ?_ ?_
 refine AIn_normal ?_
 refine AThen_normal ⟨k + 1, ?_, ?_, ⟨⟨(by kernel_rfl), (by kernel_rfl), trivial⟩, by simp [BelL, AVal.bel], by simp, (by kernel_rfl), by simp⟩⟩
 · omega
 · refine ⟨⟨by omega, by omega⟩, ?_⟩
   rw [hk, badTo_succ (by rw [List.length_drop]; omega) (by rw [dropD, show q + (k - q) = k by omega]; assumption) (by rw [List.drop_drop, show q + (k - q) = k by omega, ← rtok_2]; omega), show k - q + 1 = k + 1 - q by omega]
 iterate 24 kernel_rfl
 refine qf (decide_eq_false hb5) ?_ ?_
 refine wExit 0 (by kernel_rfl) (by kernel_rfl) ?_
 refine AThen_exit ?_
 refine AThen_exit ?_
 refine AIn_exit ?_
 refine AThen_normal ?_
 refine qz [(7, nI k)] ?_ ?_
 refine qV 3 ?_ ?_
 refine qT ?_ ?_
 refine leafII (n := 8) (m := ((k : Nat) : Int)) (.inr rfl) (by kernel_rfl) ?_
 rotate_left
 iterate 31 kernel_rfl
 all_goals
  refine next_leaf s q k _ (k - q) (by omega) ?_
  rw [next_b (by omega) (by rw [dropD0]; assumption), hk, badTo_stop]
  rw [List.length_drop, List.drop_drop, dropD, show q + (k - q) = k by omega, ← rtok_2]
  rintro ⟨g1, g2, g3⟩
  first | omega | contradiction
theorem next_pos (u : List UInt8) (hu : 0 < u.length) : 0 < (next u).2 := by
  have hb : ∀ f n, n ≤ badTo u f n := by
    intro f
    induction f with
    | zero => intro n; exact Nat.le_refl _
    | succ f ih => intro n; unfold badTo; split; exact Nat.le_trans (Nat.le_succ n) (ih (n + 1)); exact Nat.le_refl _
  unfold next
  split
  · assumption
  · split
    · rename_i h
      cases u with
      | nil => simp at hu
      | cons c u =>
        simp at h; subst h
        simp [List.takeWhile, isLn]
    · exact hb _ 1
def rtoksF (s : List UInt8) : Nat → Nat → List Tok
  | 0, _ => []
  | f + 1, q => if q < s.length then ⟨(next (s.drop q)).1, (s.take (q + (next (s.drop q)).2)).drop q, ((q : Nat) : Int)⟩ :: rtoksF s f (q + (next (s.drop q)).2) else []
def rtoks (s : List UInt8) : List Tok := rtoksF s s.length 0
theorem rtoksF_more (s : List UInt8) : ∀ (f q : Nat), s.length - q ≤ f → rtoksF s f q = rtoksF s (s.length - q) q
  | 0, q, h => by rw [show s.length - q = 0 by omega]
  | f + 1, q, h => by
    by_cases hq : q < s.length
    · have hp := next_pos (s.drop q) (by rw [List.length_drop]; omega)
      have e : s.length - q = (s.length - q - 1) + 1 := by omega
      rw [e, rtoksF, rtoksF, if_pos hq, if_pos hq, rtoksF_more s f _ (by omega), rtoksF_more s (s.length - q - 1) _ (by omega)]
    · rw [show s.length - q = 0 by omega, rtoksF, rtoksF, if_neg hq]
theorem rtoksF_step (s : List UInt8) (q : Nat) (h : q < s.length) : rtoksF s (s.length - q) q = ⟨(next (s.drop q)).1, (s.take (q + (next (s.drop q)).2)).drop q, ((q : Nat) : Int)⟩ :: rtoksF s (s.length - (q + (next (s.drop q)).2)) (q + (next (s.drop q)).2) := by
  have hp := next_pos (s.drop q) (by rw [List.length_drop]; omega)
  have e : s.length - q = (s.length - q - 1) + 1 := by omega
  rw [e, rtoksF, if_pos h, rtoksF_more s (s.length - q - 1) _ (by omega)]
@[simp] theorem frzL_toks (h : AHeap) (l : List Tok) : frzL h (l.map Tok.v) = l.map Tok.v := frzL_map_same h (fun _ => rfl) l
@[simp] theorem belL_toks (k : Nat) (l : List Tok) : belL k (l.map Tok.v) = true := belL_map k (fun _ => rfl) l
@[simp] theorem ownsL_toks (l : List Tok) : ownsL (l.map Tok.v) = [] := ownsL_map (fun _ => rfl) l
noncomputable def c128 : Code := bodyOf Tryz.f128
theorem rtokens_spec (s : List UInt8) (hs : s.length < 1000000000) : CallsP cx 128 [.str s] (.imm ((rtoks s).map Tok.v)) := by
 refine func_intro (cx := cx) 29 0 [(ResultVar.tmp 2)] Tryz.func128 rfl rfl rfl rfl rfl (by simp) ?_
 show wpA cx 29 0 (at_ c128 []) _ _ _
 refine qZ [(0, .str s)] [] ?_ ?_
 refine qU 1 [(0, .str s)] ?_ ?_
 refine qU 1 [(0, .str s), (3, .full [])] ?_ ?_
 refine qU 1 [(0, .str s), (3, .full []), (4, .int .i64 0)] ?_ ?_
 refine qSeq ?_ ?_
 refine qB 0 ?_ ?_ ?_
 refine wOwn 3 3 (by decide) (by kernel_rfl) ?_
 refine qZ [(0, .str s), (3, .own 0 0 0), (4, .int .i64 0)] [.arr 3 (([] : List (Tok)).map Tok.v) 0] ?_ ?_
 refine wLoop (σ := (Nat × List Tok)) (fun ⟨q, l⟩ => [(0, .str s), (3, .own 0 0 l.length), (4, .int .i64 ((q : Nat) : Int))]) (fun ⟨q, l⟩ => [.arr 3 (l.map Tok.v) 0]) (fun ⟨q, l⟩ => (q ≤ s.length ∧ l.length ≤ q) ∧ l ++ rtoksF s (s.length - q) q = rtoks s) (fun ⟨q, l⟩ => s.length - q) (0, ([] : List Tok)) (by kernel_rfl) (by exact ⟨⟨Nat.zero_le _, Nat.le_refl _⟩, rfl⟩) ⟨⟨(by kernel_rfl), (by kernel_rfl), (by kernel_rfl), trivial⟩, by simp [BelL, AVal.bel], by simp, (by kernel_rfl), by simp [AObj.belO, -List.map_append]⟩ ?_
 rintro ⟨q, l⟩ ⟨⟨hq, hl⟩, hinv⟩
 refine qZ [(0, .str s), (3, .own 0 0 l.length), (4, nI q)] [.arr 3 (l.map Tok.v) 0] ?_ ?_
 refine qSeq ?_ ?_
 refine qU 4 [(0, .str s), (3, .own 0 0 l.length), (4, nI q), (10, .bool (decide (((q : Nat) : Int) < ((s.length : Nat) : Int))))] ?_ ?_
 by_cases hb1 : ((q : Nat) : Int) < ((s.length : Nat) : Int)
 refine qt (decide_eq_true hb1) ?_ ?_
 refine qK ?_ ?_
 refine qz [(0, .str s), (3, .own 0 0 l.length), (4, nI q)] ?_ ?_
 refine qB 1 ?_ ?_ ?_
 refine qV 2 ?_ ?_
 refine qc [.str s, .int .i64 ((q : Nat) : Int)] (rnext_spec s q (by first | omega | (simp only [List.length_drop, List.length_take] at *; omega)) (by first | omega | (simp only [List.length_drop, List.length_take] at *; omega))) ?_ ?_
 have hv2 := rnext_le s q (by omega)
 refine qR 5 [(0, .str s), (3, .own 0 0 l.length), (4, nI q), (5, .int .i64 ((next (s.drop q)).1)), (6, nI ((q + (next (s.drop q)).2)))] [.arr 3 (l.map Tok.v) 0] ?_ ?_
 refine qV 5 ?_ ?_
 refine qy (o_slcstr (lo := (some (.int .i64 ((q : Nat) : Int)))) (hi := (some (.int .i64 (((q + (next (s.drop q)).2) : Nat) : Int)))) (s := s) (x := ((q : Nat) : Int)) (y := (((q + (next (s.drop q)).2) : Nat) : Int)) (by kernel_rfl) ty9 (by kernel_rfl) (by kernel_rfl) (by first | omega | (simp only [List.length_drop, List.length_take] at *; omega)) (by first | omega | (simp only [List.length_drop, List.length_take] at *; omega)) (by first | omega | (simp only [List.length_drop, List.length_take] at *; omega))) ?_ ?_ ?_
 refine qr 3 ?_ ?_
 refine qY (o_appmap (o := 0) (len := l.length) (l := l) (xs := [(Tok.mk ((next (s.drop q)).1) ((s.take (q + (next (s.drop q)).2)).drop q) ((q : Nat) : Int))]) (enc := Tok.v) (sz := 3) (fr := 0) (x := (.full [.agg [.int .i64 ((next (s.drop q)).1), .str ((s.take (q + (next (s.drop q)).2)).drop q), .int .i64 ((q : Nat) : Int)]])) (by kernel_rfl) ty141 ty119 ty141 rfl (by kernel_rfl) rfl (by first | rfl | simp) (by kernel_rfl) ⟨by decide, by kernel_rfl⟩ (fun _ => rfl) (by simp; omega) (by simp; omega)) ?_ ?_ ?_
 refine qR 1 [(0, .str s), (3, .own 0 0 (l ++ [(Tok.mk ((next (s.drop q)).1) ((s.take (q + (next (s.drop q)).2)).drop q) ((q : Nat) : Int))]).length), (6, nI ((q + (next (s.drop q)).2)))] [.arr 3 ((l ++ [(Tok.mk ((next (s.drop q)).1) ((s.take (q + (next (s.drop q)).2)).drop q) ((q : Nat) : Int))]).map Tok.v) 0] ?_ ?_
 refine qo ?_ ?_
 refine qr 2 ?_ ?_
 refine qe ?_ ?_
 refine AIn_normal ?_
 refine AThen_normal ⟨((q + (next (s.drop q)).2), (l ++ [(Tok.mk ((next (s.drop q)).1) ((s.take (q + (next (s.drop q)).2)).drop q) ((q : Nat) : Int))])), ?_, ?_, ⟨⟨(by kernel_rfl), (by kernel_rfl), (by kernel_rfl), trivial⟩, by simp [BelL, AVal.bel], by simp, (by kernel_rfl), by simp [AObj.belO, -List.map_append]⟩⟩
 · try dsimp only
   have := next_pos (s.drop q) (by rw [List.length_drop]; omega)
   omega
 · try dsimp only
   have := next_pos (s.drop q) (by rw [List.length_drop]; omega)
   refine ⟨⟨by omega, by simp; omega⟩, ?_⟩
   rw [← hinv, rtoksF_step s q (by omega), List.append_assoc]; rfl
 iterate 18 kernel_rfl
 refine qf (decide_eq_false hb1) ?_ ?_
 refine wExit 0 (by kernel_rfl) (by kernel_rfl) ?_
 refine AThen_exit ?_
 refine AThen_exit ?_
 refine AIn_exit ?_
 refine AThen_normal ?_
 refine qz [(3, .own 0 0 l.length)] ?_ ?_
 refine qU 2 [(2, .own 0 0 l.length)] ?_ ?_
 refine wRet (by kernel_rfl) ?_
 refine leafP (l := [.own 0 0 l.length]) (.inr rfl) (by kernel_rfl) ?_
 · rw [show s.length - q = 0 by omega, rtoksF, List.append_nil] at hinv
   subst hinv
   simp [awrap]
 iterate 14 kernel_rfl
end Go.Proofs.YtdikgijfekfaoaaGreatDoor
