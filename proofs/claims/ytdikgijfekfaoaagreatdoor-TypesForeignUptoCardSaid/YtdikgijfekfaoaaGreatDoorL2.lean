/- The lexer's walk, part 2. No condition. -/
import Derived.Test.YtdikgijfekfaoaaGreatDoorS5
import Derived.Test.YtdikgijfekfaoaaGreatDoorAbsc
set_option linter.all false
set_option linter.unusedSimpArgs false
set_option linter.unusedVariables false
namespace Go.Proofs.YtdikgijfekfaoaaGreatDoor
open Go.Proofs.YtdikgijfekfaoaaGreatDoor.Abs
set_option maxRecDepth 20000
set_option maxHeartbeats 4000000
def Sorted (l : List (List UInt8)) : Prop := ∀ i j, i < j → j < l.length → sLess (l.getD i []) (l.getD j []) = true
theorem kws_sorted : Sorted kws := by
  have h : ∀ j, j < 26 → ∀ i, i < j → sLess (kws.getD i []) (kws.getD j []) = true := by decide
  exact fun i j h1 h2 => h j h2 i h1
theorem bs_found (l : List (List UInt8)) (s : List UInt8) (i : Nat) (hl : Sorted l) (hlo : ∀ j, j < i → sLess (l.getD j []) s = true) (hhi : ∀ j, i ≤ j → j < l.length → sLess (l.getD j []) s = false) :
    l.contains s = (decide (i < l.length) && (l.getD i [] == s)) := by
  rw [Bool.eq_iff_iff]
  simp only [List.contains_iff_mem, Bool.and_eq_true, decide_eq_true_eq, beq_iff_eq]
  constructor
  · intro hm
    obtain ⟨k, hk, rfl⟩ := List.getElem_of_mem hm
    have e : ∀ d, l.getD k d = l[k] := fun d => by rw [List.getD_eq_getElem?_getD, List.getElem?_eq_getElem hk]; rfl
    rcases Nat.lt_trichotomy k i with h | h | h
    · have := hlo k h; rw [e, sLess_irrefl] at this; cases this
    · subst h; exact ⟨hk, e _⟩
    · have h1 := hl i k h hk
      rw [e] at h1
      have h2 := hhi i (Nat.le_refl _) (by omega)
      rw [h1] at h2; cases h2
  · rintro ⟨h, rfl⟩
    rw [List.getD_eq_getElem?_getD, List.getElem?_eq_getElem h]; exact List.getElem_mem h
theorem bs_lo {l : List (List UInt8)} {s : List UInt8} (hl : Sorted l) {m : Nat} (hm : m < l.length) (hc : sLess (l.getD m []) s = true) : ∀ j, j < m + 1 → sLess (l.getD j []) s = true := by
  intro j hj
  rcases Nat.lt_or_ge j m with h | h
  · exact sLess_trans _ _ _ (hl j m h hm) hc
  · have : j = m := by omega
    rw [this]; exact hc
theorem bs_hi {l : List (List UInt8)} {s : List UInt8} (hl : Sorted l) {m : Nat} (hc : ¬ sLess (l.getD m []) s = true) : ∀ j, m ≤ j → j < l.length → sLess (l.getD j []) s = false := by
  intro j h1 h2
  cases hq : sLess (l.getD j []) s with
  | false => rfl
  | true =>
    rcases Nat.lt_or_ge m j with h | h
    · exact absurd (sLess_trans _ _ _ (hl m j h h2) hq) hc
    · have : j = m := by omega
      rw [this] at hq; exact absurd hq hc
theorem tw_lenG {α : Type} (d : α) (p : α → Bool) : ∀ (s : List α) (k : Nat), k ≤ s.length → (∀ i, i < k → p (s.getD i d) = true) → (k < s.length → p (s.getD k d) = false) → (s.takeWhile p).length = k
  | [], k, h, _, _ => by simp at h; simp [h]
  | c :: s, 0, _, _, h => by
    have := h (by simp)
    simp at this; simp [List.takeWhile, this]
  | c :: s, k + 1, h, ha, hz => by
    have h0 : p c = true := by simpa using ha 0 (by omega)
    have ih := tw_lenG d p s k (by simpa using h) (fun i hi => by simpa using ha (i + 1) (by omega)) (fun hk => by simpa using hz (by simpa using hk))
    simp [List.takeWhile, h0, ih]
theorem bs_leaf {l : List (List UInt8)} {s : List UInt8} {i j : Nat} {b : Bool} (hl : Sorted l) (hij : i ≤ j) (hj : j ≤ l.length) (hx : ¬ ((i : Nat) : Int) < ((j : Nat) : Int)) (hlo : ∀ x, x < i → sLess (l.getD x []) s = true) (hhi : ∀ x, j ≤ x → x < l.length → sLess (l.getD x []) s = false)
    (hb : b = (decide (i < l.length) && (l.getD i [] == s))) : ((i : Nat) : Int) = (((l.takeWhile (sLess · s)).length : Nat) : Int) ∧ b = l.contains s := by
  have e : i = j := by omega
  subst e
  refine ⟨?_, ?_⟩
  · rw [tw_lenG [] (sLess · s) l i hj hlo (fun h => hhi i (Nat.le_refl _) h)]
  · rw [bs_found l s i hl hlo hhi, hb]
def bsIdx (l : List (List UInt8)) (s : List UInt8) : Nat := (l.takeWhile (sLess · s)).length
noncomputable def c197 : Code := bodyOf Tryz.f197
theorem bsearch_spec (l : List (List UInt8)) (s : List UInt8) (hl : Sorted l) (hn : l.length < 1000000) : CallsP cx 197 [.imm (l.map AVal.str), .str s] (.tup [.int .i64 ((bsIdx l s : Nat) : Int), .bool (l.contains s)]) := by
 refine func_intro (cx := cx) 54 0 [(ResultVar.tmp 4), (ResultVar.tmp 5)] Tryz.func197 rfl rfl rfl rfl rfl (by simp) ?_
 show wpA cx 54 0 (at_ c197 []) _ _ _
 refine qZ [(0, .imm (l.map AVal.str)), (1, .str s)] [] ?_ ?_
 refine qU 2 [(0, .imm (l.map AVal.str)), (1, .str s)] ?_ ?_
 refine qV 1 ?_ ?_
 refine qy (o_lenmap (l := l) (enc := AVal.str) (by kernel_rfl) ty22) ?_ ?_ ?_
 refine qR 1 [(0, .imm (l.map AVal.str)), (1, .str s), (6, nI l.length)] [] ?_ ?_
 refine qU 3 [(0, .imm (l.map AVal.str)), (1, .str s), (6, nI l.length), (7, .int .i64 0), (8, nI l.length)] ?_ ?_
 refine qSeq ?_ ?_
 refine qB 0 ?_ ?_ ?_
 refine wLoop (σ := (Nat × Nat)) (fun ⟨i, j⟩ => [(0, .imm (l.map AVal.str)), (1, .str s), (6, .int .i64 ((l.length : Nat) : Int)), (7, .int .i64 ((i : Nat) : Int)), (8, .int .i64 ((j : Nat) : Int))]) (fun ⟨i, j⟩ => []) (fun ⟨i, j⟩ => (i ≤ j ∧ j ≤ l.length) ∧ (∀ x, x < i → sLess (l.getD x []) s = true) ∧ (∀ x, j ≤ x → x < l.length → sLess (l.getD x []) s = false)) (fun ⟨i, j⟩ => j - i) (0, l.length) (by kernel_rfl) (by exact ⟨⟨Nat.zero_le _, Nat.le_refl _⟩, fun x h => absurd h (Nat.not_lt_zero _), fun x h1 h2 => absurd h2 (Nat.not_lt.2 h1)⟩) ⟨⟨(by kernel_rfl), (by kernel_rfl), (by kernel_rfl), (by kernel_rfl), (by kernel_rfl), trivial⟩, by simp [BelL, AVal.bel], by simp, (by kernel_rfl), by simp⟩ ?_
 rintro ⟨i, j⟩ ⟨⟨hij, hj⟩, hlo, hhi⟩
 refine qZ [(0, .imm (l.map AVal.str)), (1, .str s), (6, nI l.length), (7, nI i), (8, nI j)] [] ?_ ?_
 refine qSeq ?_ ?_
 refine qU 3 [(0, .imm (l.map AVal.str)), (1, .str s), (6, nI l.length), (7, nI i), (8, nI j), (15, .bool (decide (((i : Nat) : Int) < ((j : Nat) : Int))))] ?_ ?_
 by_cases hb1 : ((i : Nat) : Int) < ((j : Nat) : Int)
 refine qt (decide_eq_true hb1) ?_ ?_
 refine qK ?_ ?_
 refine qz [(0, .imm (l.map AVal.str)), (1, .str s), (6, nI l.length), (7, nI i), (8, nI j)] ?_ ?_
 refine qB 1 ?_ ?_ ?_
 refine qV 2 ?_ ?_
 refine qy (o_add (a := ((i : Nat) : Int)) (b := ((j : Nat) : Int)) (by kernel_rfl) (by omega) (by omega)) ?_ ?_ ?_
 refine qy (o_conv (k := .i64) (n := (((i + j) : Nat) : Int)) (by kernel_rfl) ty3 ty152 (by simp [IntKind.wrap, IntKind.bits, IntKind.signed]; omega)) ?_ ?_ ?_
 refine qy (o_shr (k := .u64) (k' := .u64) (z := 1) (a := (i + j)) (j := 1) (by kernel_rfl) rfl (by decide)) ?_ ?_ ?_
 refine qy (o_conv (k := .u64) (n := ((((i + j) / 2 ^ 1) : Nat) : Int)) (by kernel_rfl) ty152 ty3 (by simp [IntKind.wrap, IntKind.bits, IntKind.signed]; omega)) ?_ ?_ ?_
 refine qR 1 [(0, .imm (l.map AVal.str)), (1, .str s), (6, nI l.length), (7, nI i), (8, nI j), (9, nI (((i + j) / 2 ^ 1)))] [] ?_ ?_
 refine qV 2 ?_ ?_
 refine qy (o_ixmap (k := .i64) (l := l) (enc := AVal.str) (i := ((((i + j) / 2 ^ 1) : Nat) : Int)) [] (by kernel_rfl) ty22 ty9 (fun _ => rfl) (by omega) (by omega)) ?_ ?_ ?_
 refine qr 2 ?_ ?_
 refine qc [.str (l.getD ((i + j) / 2 ^ 1) []), .str s] (less_spec (l.getD ((i + j) / 2 ^ 1) []) s) ?_ ?_
 refine qN [(0, .imm (l.map AVal.str)), (1, .str s), (6, nI l.length), (7, nI i), (8, nI j), (9, nI (((i + j) / 2 ^ 1))), (27, .bool (sLess (l.getD ((i + j) / 2 ^ 1) []) s))] [] ?_ ?_
 by_cases hb2 : (sLess (l.getD ((i + j) / 2 ^ 1) []) s) = true
 refine qt (hb2) ?_ ?_
 refine qo ?_ ?_
 refine qr 1 ?_ ?_
 refine qy (o_add (a := ((((i + j) / 2 ^ 1) : Nat) : Int)) (b := 1) (by kernel_rfl) (by omega) (by omega)) ?_ ?_ ?_
 refine qr 1 ?_ ?_
 refine qe ?_ ?_
 refine AIn_normal ?_
 refine AThen_normal ⟨((((i + j) / 2 ^ 1) + 1), j), ?_, ?_, ⟨⟨(by kernel_rfl), (by kernel_rfl), (by kernel_rfl), (by kernel_rfl), (by kernel_rfl), trivial⟩, by simp [BelL, AVal.bel], by simp, (by kernel_rfl), by simp⟩⟩
 · try dsimp only
   omega
 rotate_left
 iterate 7 kernel_rfl
 refine qf (Bool.eq_false_iff.2 hb2) ?_ ?_
 refine qo ?_ ?_
 refine qr 2 ?_ ?_
 refine qe ?_ ?_
 refine AIn_normal ?_
 refine AThen_normal ⟨(i, ((i + j) / 2 ^ 1)), ?_, ?_, ⟨⟨(by kernel_rfl), (by kernel_rfl), (by kernel_rfl), (by kernel_rfl), (by kernel_rfl), trivial⟩, by simp [BelL, AVal.bel], by simp, (by kernel_rfl), by simp⟩⟩
 · try dsimp only
   omega
 rotate_left
 iterate 25 kernel_rfl
 refine qf (decide_eq_false hb1) ?_ ?_
 refine wExit 0 (by kernel_rfl) (by kernel_rfl) ?_
 refine AThen_exit ?_
 refine AThen_exit ?_
 refine AIn_exit ?_
 refine AThen_normal ?_
 refine qz [(0, .imm (l.map AVal.str)), (1, .str s), (6, nI l.length), (7, nI i)] ?_ ?_
 refine qV 5 ?_ ?_
 by_cases hb3 : ((i : Nat) : Int) < ((l.length : Nat) : Int)
 refine qm [34, 35] (decide_eq_true hb3) ?_ ?_
 refine qr 2 ?_ ?_
 refine qy (o_ixmap (k := .i64) (l := l) (enc := AVal.str) (i := ((i : Nat) : Int)) [] (by kernel_rfl) ty22 ty9 (fun _ => rfl) (by omega) (by omega)) ?_ ?_ ?_
 refine qr 4 ?_ ?_
 by_cases hb4 : (l.getD i []) = s
 refine qm [41, 42] (beq_iff_eq.2 hb4) ?_ ?_
 refine qX 13 ?_ ?_
 refine leafIB (n := ((i : Nat) : Int)) (b := true) (.inr rfl) (by kernel_rfl) ?_
 · refine bs_leaf hl hij hj (by assumption) hlo hhi ?_
   simp_all
   try omega
 iterate 2 kernel_rfl
 refine qm [41, 42] (beq_eq_false_iff_ne.2 hb4) ?_ ?_
 refine qr 2 ?_ ?_
 refine qy (o_ixmap (k := .i64) (l := l) (enc := AVal.str) (i := ((i : Nat) : Int)) [] (by kernel_rfl) ty22 ty9 (fun _ => rfl) (by omega) (by omega)) ?_ ?_ ?_
 refine qr 1 ?_ ?_
 refine qc [.str (l.getD i [])] (nan2_spec (l.getD i [])) ?_ ?_
 refine qX 8 ?_ ?_
 refine leafIB (n := ((i : Nat) : Int)) (b := false) (.inr rfl) (by kernel_rfl) ?_
 · refine bs_leaf hl hij hj (by assumption) hlo hhi ?_
   simp_all
   try omega
 iterate 12 kernel_rfl
 refine qm [34, 35] (decide_eq_false hb3) ?_ ?_
 refine qX 20 ?_ ?_
 refine leafIB (n := ((i : Nat) : Int)) (b := false) (.inr rfl) (by kernel_rfl) ?_
 · refine bs_leaf hl hij hj (by assumption) hlo hhi ?_
   simp_all
   try omega
 iterate 18 kernel_rfl
 all_goals
  try dsimp only
  first | exact ⟨⟨by omega, by omega⟩, bs_lo hl (by omega) (by assumption), hhi⟩ | exact ⟨⟨by omega, by omega⟩, hlo, bs_hi hl (by assumption)⟩
noncomputable def c171 : Code := bodyOf Tryz.f171
theorem isKw_spec (s : List UInt8)  : CallsP cx 171 [.str s] (.bool (isKw s)) := by
 refine func_intro (cx := cx) 12 0 [(ResultVar.tmp 2)] Tryz.func171 rfl rfl rfl rfl rfl (by simp) ?_
 show wpA cx 12 0 (at_ c171 []) _ _ _
 refine qZ [(0, .str s)] [] ?_ ?_
 refine qU 1 [(0, .str s)] ?_ ?_
 refine qV 2 ?_ ?_
 refine qc [.full kwCells, .str s] (bsearch_spec [[97, 110, 100], [97, 115], [99, 104, 101, 99, 107], [100, 101, 108, 101, 116, 101], [101, 108, 115, 101], [102, 97, 108, 115, 101], [102, 117, 110], [105, 102], [105, 110], [105, 110, 115, 101, 114, 116], [107, 101, 121], [108, 101, 116], [109, 97, 116, 99, 104], [110, 111, 116], [111, 114], [112, 114, 111, 99], [114, 101, 102], [115, 101, 116], [116, 97, 98, 108, 101], [116, 104, 101, 110], [116, 111], [116, 114, 117, 101], [116, 121, 112, 101], [117, 112, 100, 97, 116, 101], [119, 104, 101, 114, 101], [119, 105, 116, 104]] s (kws_sorted) ((by decide))) ?_ ?_
 refine qR 5 [(4, .bool ([[97, 110, 100], [97, 115], [99, 104, 101, 99, 107], [100, 101, 108, 101, 116, 101], [101, 108, 115, 101], [102, 97, 108, 115, 101], [102, 117, 110], [105, 102], [105, 110], [105, 110, 115, 101, 114, 116], [107, 101, 121], [108, 101, 116], [109, 97, 116, 99, 104], [110, 111, 116], [111, 114], [112, 114, 111, 99], [114, 101, 102], [115, 101, 116], [116, 97, 98, 108, 101], [116, 104, 101, 110], [116, 111], [116, 114, 117, 101], [116, 121, 112, 101], [117, 112, 100, 97, 116, 101], [119, 104, 101, 114, 101], [119, 105, 116, 104]].contains s))] [] ?_ ?_
 refine qV 2 ?_ ?_
 refine qT ?_ ?_
 refine leafB (b := ([[97, 110, 100], [97, 115], [99, 104, 101, 99, 107], [100, 101, 108, 101, 116, 101], [101, 108, 115, 101], [102, 97, 108, 115, 101], [102, 117, 110], [105, 102], [105, 110], [105, 110, 115, 101, 114, 116], [107, 101, 121], [108, 101, 116], [109, 97, 116, 99, 104], [110, 111, 116], [111, 114], [112, 114, 111, 99], [114, 101, 102], [115, 101, 116], [116, 97, 98, 108, 101], [116, 104, 101, 110], [116, 111], [116, 114, 117, 101], [116, 121, 112, 101], [117, 112, 100, 97, 116, 101], [119, 104, 101, 114, 101], [119, 105, 116, 104]].contains s)) (.inr rfl) (by kernel_rfl) ?_
 · rfl
 iterate 7 kernel_rfl
noncomputable def c175 : Code := bodyOf Tryz.f175
theorem quoted_spec (s : List UInt8) (hs0 : 0 < s.length) (hs : s.length < 1000000000) : CallsP cx 175 [.str s] (.int .i64 ((quotedN s : Nat) : Int)) := by
 refine func_intro (cx := cx) 18 0 [(ResultVar.tmp 2)] Tryz.func175 rfl rfl rfl rfl rfl (by simp) ?_
 show wpA cx 18 0 (at_ c175 []) _ _ _
 refine qZ [(0, .str s)] [] ?_ ?_
 refine qU 1 [(0, .str s)] ?_ ?_
 refine qV 1 ?_ ?_
 refine qy (o_slcfrom (lo := (some (.int .i64 1))) (s := s) (x := 1) (by kernel_rfl) ty9 (by kernel_rfl) (by first | omega | (simp only [List.length_drop, List.length_take] at *; omega)) (by first | omega | (simp only [List.length_drop, List.length_take] at *; omega))) ?_ ?_ ?_
 refine qc [.str (s.drop 1), .str [34, 10]] (indexAny_spec (s.drop 1) (by first | omega | (simp only [List.length_drop, List.length_take] at *; omega))) ?_ ?_
 have hv1 := qIdx_ge (s.drop 1)
 have hv2 := qIdx_lt (s.drop 1)
 refine qR 1 [(0, .str s), (3, .int .i64 (qIdx (s.drop 1)))] [] ?_ ?_
 refine qSeq ?_ ?_
 refine qV 3 ?_ ?_
 by_cases hb3 : (qIdx (s.drop 1)) < 0
 refine qm [8, 9] (decide_eq_true hb3) ?_ ?_
 refine qR 6 [(3, .int .i64 (qIdx (s.drop 1))), (15, .bool true)] [] ?_ ?_
 refine wIfT (by kernel_rfl) (by kernel_rfl) ?_
 refine qV 1 ?_ ?_
 refine qT ?_ ?_
 apply aR
 refine leafI (n := 0) (.inr rfl) (by kernel_rfl) ?_
 rotate_left
 iterate 4 kernel_rfl
 refine qm [8, 9] (decide_eq_false hb3) ?_ ?_
 refine qr 2 ?_ ?_
 refine qy (o_add (a := 1) (b := (qIdx (s.drop 1))) (by kernel_rfl) (by first | omega | (simp only [List.length_drop, List.length_take] at *; omega)) (by first | omega | (simp only [List.length_drop, List.length_take] at *; omega))) ?_ ?_ ?_
 refine qy (o_index (k := .i64) (s := s) (i := (1 + (qIdx (s.drop 1)))) (by kernel_rfl) ty9 (by first | omega | (simp only [List.length_drop, List.length_take] at *; omega)) (by first | omega | (simp only [List.length_drop, List.length_take] at *; omega))) ?_ ?_ ?_
 refine qR 2 [(3, .int .i64 (qIdx (s.drop 1))), (15, .bool (((((s.getD (((1 + (qIdx (s.drop 1)))).toNat) 0) : UInt8).toNat : Nat) : Int) == 10))] [] ?_ ?_
 by_cases hb4 : (s.getD (((1 + (qIdx (s.drop 1)))).toNat) 0) = (10 : UInt8)
 refine qt (x := (((((s.getD (((1 + (qIdx (s.drop 1)))).toNat) 0) : UInt8).toNat : Nat) : Int) == 10)) (u8t_eql (a := (s.getD (((1 + (qIdx (s.drop 1)))).toNat) 0)) (b := (10 : UInt8)) (by kernel_rfl) (by kernel_rfl) hb4) ?_ ?_
 refine qV 1 ?_ ?_
 refine qT ?_ ?_
 apply aR
 refine leafI (n := 0) (.inr rfl) (by kernel_rfl) ?_
 rotate_left
 iterate 3 kernel_rfl
 refine qf (x := (((((s.getD (((1 + (qIdx (s.drop 1)))).toNat) 0) : UInt8).toNat : Nat) : Int) == 10)) (u8f_eql (a := (s.getD (((1 + (qIdx (s.drop 1)))).toNat) 0)) (b := (10 : UInt8)) (by kernel_rfl) (by kernel_rfl) hb4) ?_ ?_
 refine qK ?_ ?_
 refine qz [(3, .int .i64 (qIdx (s.drop 1)))] ?_ ?_
 refine qV 1 ?_ ?_
 refine qy (o_add (a := (qIdx (s.drop 1))) (b := 2) (by kernel_rfl) (by first | omega | (simp only [List.length_drop, List.length_take] at *; omega)) (by first | omega | (simp only [List.length_drop, List.length_take] at *; omega))) ?_ ?_ ?_
 refine qX 1 ?_ ?_
 refine leafI (n := ((qIdx (s.drop 1)) + 2)) (.inr rfl) (by kernel_rfl) ?_
 rotate_left
 iterate 23 kernel_rfl
 all_goals
  simp only [quotedN, *, reduceIte]
  try omega
theorem quotedN_le (s : List UInt8) (hs : 0 < s.length) : quotedN s ≤ s.length := by
  have h1 := qIdx_lt (s.drop 1)
  simp only [List.length_drop] at h1
  unfold quotedN
  split
  · omega
  · split <;> omega
theorem symLen_le (s : List UInt8) : symLen s ≤ s.length := by
  unfold symLen
  split
  · rename_i x hx
    have h1 := List.find?_some hx
    simp only [hasPre, beq_iff_eq] at h1
    have := congrArg List.length h1
    simp at this; omega
  · omega
theorem good_le (s : List UInt8) (hs : 0 < s.length) : (good s).2 ≤ s.length := by
  unfold good
  have := quotedN_le s hs
  have := symLen_le s
  have := tw_le isSp s
  have := tw_le isLn s
  have := tw_le isWd s
  have := tw_le isNm s
  have := tw_le isDg s
  repeat' split
  all_goals assumption
theorem good_int (s : List UInt8) (n : Int) (k : Nat) (h : good s = (n, k)) : n = (good s).1 ∧ ((k : Nat) : Int) = (((good s).2 : Nat) : Int) := by rw [h]; exact ⟨rfl, rfl⟩
noncomputable def c144 : Code := bodyOf Tryz.f144
theorem good_spec (s : List UInt8) (hs0 : 0 < s.length) (hs : s.length < 1000000000) : CallsP cx 144 [.str s] (.tup [.int .i64 ((good s).1), .int .i64 (((good s).2 : Nat) : Int)]) := by
 refine func_intro (cx := cx) 46 0 [(ResultVar.tmp 2), (ResultVar.tmp 3)] Tryz.func144 rfl rfl rfl rfl rfl (by simp) ?_
 show wpA cx 46 0 (at_ c144 []) _ _ _
 refine qZ [(0, .str s)] [] ?_ ?_
 refine qU 2 [(0, .str s)] ?_ ?_
 refine qV 1 ?_ ?_
 refine qy (o_index (k := .i64) (s := s) (i := 0) (by kernel_rfl) ty9 (by omega) (by omega)) ?_ ?_ ?_
 refine qR 1 [(0, .str s), (4, .int .u8 ((((s.getD 0 0) : UInt8).toNat : Nat) : Int))] [] ?_ ?_
 refine qSeq ?_ ?_
 refine qB 0 ?_ ?_ ?_
 refine qV 1 ?_ ?_
 refine qc [.int .u8 ((((s.getD 0 0) : UInt8).toNat : Nat) : Int)] (space_spec (s.getD 0 0)) ?_ ?_
 refine qR 1 [(0, .str s), (4, .int .u8 ((((s.getD 0 0) : UInt8).toNat : Nat) : Int)), (8, .bool (isSp (s.getD 0 0)))] [] ?_ ?_
 by_cases hb1 : (isSp (s.getD 0 0)) = true
 refine qt (hb1) ?_ ?_
 refine qV 1 ?_ ?_
 refine qc [.str s, .fn (.func 168) [] []] (run_spec s 168 isSp (space_spec) (by omega)) ?_ ?_
 have hv2 := tw_le isSp s
 refine qX 2 ?_ ?_
 apply iR
 apply aR
 refine leafII (n := 0) (m := (((s.takeWhile isSp).length : Nat) : Int)) (.inr rfl) (by kernel_rfl) ?_
 rotate_left
 iterate 4 kernel_rfl
 refine qf (Bool.eq_false_iff.2 hb1) ?_ ?_
 refine qU 3 [(0, .str s), (4, .int .u8 ((((s.getD 0 0) : UInt8).toNat : Nat) : Int)), (13, .bool (((((s.getD 0 0) : UInt8).toNat : Nat) : Int) == 35))] ?_ ?_
 by_cases hb3 : (s.getD 0 0) = (35 : UInt8)
 refine qt (x := (((((s.getD 0 0) : UInt8).toNat : Nat) : Int) == 35)) (u8t_eql (a := (s.getD 0 0)) (b := (35 : UInt8)) (by kernel_rfl) (by kernel_rfl) hb3) ?_ ?_
 refine qV 1 ?_ ?_
 refine qc [.str s, .fn (.func 146) [] []] (run_spec s 146 isLn (line_spec) (by omega)) ?_ ?_
 have hv4 := tw_le isLn s
 refine qX 2 ?_ ?_
 apply iR
 apply aR
 refine leafII (n := 1) (m := (((s.takeWhile isLn).length : Nat) : Int)) (.inr rfl) (by kernel_rfl) ?_
 rotate_left
 iterate 4 kernel_rfl
 refine qf (x := (((((s.getD 0 0) : UInt8).toNat : Nat) : Int) == 35)) (u8f_eql (a := (s.getD 0 0)) (b := (35 : UInt8)) (by kernel_rfl) (by kernel_rfl) hb3) ?_ ?_
 refine qV 1 ?_ ?_
 refine qc [.int .u8 ((((s.getD 0 0) : UInt8).toNat : Nat) : Int)] (lower_spec (s.getD 0 0)) ?_ ?_
 refine qR 1 [(0, .str s), (4, .int .u8 ((((s.getD 0 0) : UInt8).toNat : Nat) : Int)), (18, .bool (isLo (s.getD 0 0)))] [] ?_ ?_
 by_cases hb5 : (isLo (s.getD 0 0)) = true
 refine qt (hb5) ?_ ?_
 refine qV 1 ?_ ?_
 refine qc [.str s, .fn (.func 170) [] []] (run_spec s 170 isWd (word_spec) (by omega)) ?_ ?_
 have hv6 := tw_le isWd s
 refine qR 1 [(0, .str s), (5, nI ((s.takeWhile isWd).length))] [] ?_ ?_
 refine qSeq ?_ ?_
 refine qV 2 ?_ ?_
 refine qy (o_slcto (hi := (some (.int .i64 (((s.takeWhile isWd).length : Nat) : Int)))) (s := s) (y := (((s.takeWhile isWd).length : Nat) : Int)) (by kernel_rfl) ty9 (by kernel_rfl) (by omega) (by omega)) ?_ ?_ ?_
 refine qc [.str (s.take (s.takeWhile isWd).length)] (isKw_spec (s.take (s.takeWhile isWd).length)) ?_ ?_
 refine qN [(5, nI ((s.takeWhile isWd).length)), (26, .bool (isKw (s.take (s.takeWhile isWd).length)))] [] ?_ ?_
 by_cases hb7 : (isKw (s.take (s.takeWhile isWd).length)) = true
 refine qt (hb7) ?_ ?_
 refine qV 3 ?_ ?_
 refine qT ?_ ?_
 apply aR
 apply iR
 apply aR
 refine leafII (n := 7) (m := (((s.takeWhile isWd).length : Nat) : Int)) (.inr rfl) (by kernel_rfl) ?_
 rotate_left
 iterate 3 kernel_rfl
 refine qf (Bool.eq_false_iff.2 hb7) ?_ ?_
 refine qK ?_ ?_
 refine qz [(5, nI ((s.takeWhile isWd).length))] ?_ ?_
 refine qV 3 ?_ ?_
 refine qT ?_ ?_
 apply iR
 apply aR
 refine leafII (n := 2) (m := (((s.takeWhile isWd).length : Nat) : Int)) (.inr rfl) (by kernel_rfl) ?_
 rotate_left
 iterate 15 kernel_rfl
 refine qf (Bool.eq_false_iff.2 hb5) ?_ ?_
 refine qV 1 ?_ ?_
 refine qc [.int .u8 ((((s.getD 0 0) : UInt8).toNat : Nat) : Int)] (upper_spec (s.getD 0 0)) ?_ ?_
 refine qR 1 [(0, .str s), (4, .int .u8 ((((s.getD 0 0) : UInt8).toNat : Nat) : Int)), (29, .bool (isUp (s.getD 0 0)))] [] ?_ ?_
 by_cases hb8 : (isUp (s.getD 0 0)) = true
 refine qt (hb8) ?_ ?_
 refine qV 1 ?_ ?_
 refine qc [.str s, .fn (.func 173) [] []] (run_spec s 173 isNm (name_spec) (by omega)) ?_ ?_
 have hv9 := tw_le isNm s
 refine qX 2 ?_ ?_
 apply iR
 apply aR
 refine leafII (n := 3) (m := (((s.takeWhile isNm).length : Nat) : Int)) (.inr rfl) (by kernel_rfl) ?_
 rotate_left
 iterate 4 kernel_rfl
 refine qf (Bool.eq_false_iff.2 hb8) ?_ ?_
 refine qV 1 ?_ ?_
 refine qc [.int .u8 ((((s.getD 0 0) : UInt8).toNat : Nat) : Int)] (digit_spec (s.getD 0 0)) ?_ ?_
 refine qR 1 [(0, .str s), (4, .int .u8 ((((s.getD 0 0) : UInt8).toNat : Nat) : Int)), (34, .bool (isDg (s.getD 0 0)))] [] ?_ ?_
 by_cases hb10 : (isDg (s.getD 0 0)) = true
 refine qt (hb10) ?_ ?_
 refine qV 1 ?_ ?_
 refine qc [.str s, .fn (.func 174) [] []] (run_spec s 174 isDg (digit_spec) (by omega)) ?_ ?_
 have hv11 := tw_le isDg s
 refine qX 2 ?_ ?_
 apply iR
 apply aR
 refine leafII (n := 4) (m := (((s.takeWhile isDg).length : Nat) : Int)) (.inr rfl) (by kernel_rfl) ?_
 rotate_left
 iterate 4 kernel_rfl
 refine qf (Bool.eq_false_iff.2 hb10) ?_ ?_
 refine qU 3 [(0, .str s), (39, .bool (((((s.getD 0 0) : UInt8).toNat : Nat) : Int) == 34))] ?_ ?_
 by_cases hb12 : (s.getD 0 0) = (34 : UInt8)
 refine qt (x := (((((s.getD 0 0) : UInt8).toNat : Nat) : Int) == 34)) (u8t_eql (a := (s.getD 0 0)) (b := (34 : UInt8)) (by kernel_rfl) (by kernel_rfl) hb12) ?_ ?_
 refine qV 1 ?_ ?_
 refine qc [.str s] (quoted_spec s (by omega) (by omega)) ?_ ?_
 refine qX 2 ?_ ?_
 apply iR
 apply aR
 refine leafII (n := 5) (m := ((quotedN s : Nat) : Int)) (.inr rfl) (by kernel_rfl) ?_
 rotate_left
 iterate 4 kernel_rfl
 refine qf (x := (((((s.getD 0 0) : UInt8).toNat : Nat) : Int) == 34)) (u8f_eql (a := (s.getD 0 0)) (b := (34 : UInt8)) (by kernel_rfl) (by kernel_rfl) hb12) ?_ ?_
 refine qk ?_ ?_
 refine AIn_normal ?_
 refine AThen_normal ?_
 refine qz [(0, .str s)] ?_ ?_
 refine qV 1 ?_ ?_
 refine qc [.str s] (symbol_spec s) ?_ ?_
 refine qX 2 ?_ ?_
 refine leafII (n := 6) (m := ((symLen s : Nat) : Int)) (.inr rfl) (by kernel_rfl) ?_
 rotate_left
 iterate 34 kernel_rfl
 all_goals
  refine good_int s _ _ ?_
  unfold good
  repeat (first | rw [if_pos (by assumption)] | rw [if_neg (by assumption)])
theorem next_int (s : List UInt8) (n : Int) (k : Nat) (h : next s = (n, k)) : n = (next s).1 ∧ ((k : Nat) : Int) = (((next s).2 : Nat) : Int) := by rw [h]; exact ⟨rfl, rfl⟩
theorem badTo_le (s : List UInt8) : ∀ f n, n ≤ s.length → badTo s f n ≤ s.length
  | 0, n, h => h
  | f + 1, n, h => by
    unfold badTo
    split
    · rename_i hc; exact badTo_le s f (n + 1) hc.1
    · exact h
theorem next_le (s : List UInt8) (hs : 0 < s.length) : (next s).2 ≤ s.length := by
  unfold next
  have := good_le s hs
  have := tw_le isLn s
  have := badTo_le s (s.length - 1) 1 hs
  repeat' split
  all_goals assumption
noncomputable def c133 : Code := bodyOf Tryz.f133
theorem next_spec (s : List UInt8) (hs0 : 0 < s.length) (hs : s.length < 1000000000) : CallsP cx 133 [.str s] (.tup [.int .i64 ((next s).1), .int .i64 (((next s).2 : Nat) : Int)]) := by
 refine func_intro (cx := cx) 44 0 [(ResultVar.tmp 2), (ResultVar.tmp 3)] Tryz.func133 rfl rfl rfl rfl rfl (by simp) ?_
 show wpA cx 44 0 (at_ c133 []) _ _ _
 refine qZ [(0, .str s)] [] ?_ ?_
 refine qU 2 [(0, .str s)] ?_ ?_
 refine qV 1 ?_ ?_
 refine qc [.str s] (good_spec s (by first | omega | (simp only [List.length_drop, List.length_take] at *; omega)) (by first | omega | (simp only [List.length_drop, List.length_take] at *; omega))) ?_ ?_
 have hv1 := good_le s (by first | omega | (simp only [List.length_drop]; omega))
 refine qR 5 [(0, .str s), (4, .int .i64 ((good s).1)), (5, nI ((good s).2))] [] ?_ ?_
 refine qSeq ?_ ?_
 refine qU 2 [(0, .str s), (4, .int .i64 ((good s).1)), (5, nI ((good s).2)), (14, .bool (decide ((((good s).2 : Nat) : Int) > 0)))] ?_ ?_
 by_cases hb2 : (((good s).2 : Nat) : Int) > 0
 refine qt (decide_eq_true hb2) ?_ ?_
 refine qV 4 ?_ ?_
 refine qT ?_ ?_
 apply aR
 refine leafII (n := ((good s).1)) (m := (((good s).2 : Nat) : Int)) (.inr rfl) (by kernel_rfl) ?_
 rotate_left
 iterate 3 kernel_rfl
 refine qf (decide_eq_false hb2) ?_ ?_
 refine qK ?_ ?_
 refine qz [(0, .str s)] ?_ ?_
 refine qSeq ?_ ?_
 refine qV 1 ?_ ?_
 refine qy (o_index (k := .i64) (s := s) (i := 0) (by kernel_rfl) ty9 (by first | omega | (simp only [List.length_drop, List.length_take] at *; omega)) (by first | omega | (simp only [List.length_drop, List.length_take] at *; omega))) ?_ ?_ ?_
 refine qR 1 [(0, .str s), (19, .bool (((((s.getD 0 0) : UInt8).toNat : Nat) : Int) == 34))] [] ?_ ?_
 by_cases hb3 : (s.getD 0 0) = (34 : UInt8)
 refine qt (x := (((((s.getD 0 0) : UInt8).toNat : Nat) : Int) == 34)) (u8t_eql (a := (s.getD 0 0)) (b := (34 : UInt8)) (by kernel_rfl) (by kernel_rfl) hb3) ?_ ?_
 refine qV 1 ?_ ?_
 refine qc [.str s, .fn (.func 146) [] []] (run_spec s 146 isLn (line_spec) (by first | omega | (simp only [List.length_drop, List.length_take] at *; omega))) ?_ ?_
 have hv4 := tw_le isLn s
 refine qX 2 ?_ ?_
 apply aR
 refine leafII (n := 8) (m := (((s.takeWhile isLn).length : Nat) : Int)) (.inr rfl) (by kernel_rfl) ?_
 rotate_left
 iterate 4 kernel_rfl
 refine qf (x := (((((s.getD 0 0) : UInt8).toNat : Nat) : Int) == 34)) (u8f_eql (a := (s.getD 0 0)) (b := (34 : UInt8)) (by kernel_rfl) (by kernel_rfl) hb3) ?_ ?_
 refine qK ?_ ?_
 refine qz [(0, .str s)] ?_ ?_
 refine qSeq ?_ ?_
 refine qU 1 [(0, .str s), (5, .int .i64 1)] ?_ ?_
 refine qB 0 ?_ ?_ ?_
 refine wLoop (σ := Nat) (fun k => [(0, .str s), (5, .int .i64 ((k : Nat) : Int))]) (fun k => []) (fun k => (1 ≤ k ∧ k ≤ s.length) ∧ badTo s (s.length - 1) 1 = badTo s (s.length - k) k) (fun k => s.length - k) 1 (by kernel_rfl) (by exact ⟨⟨by omega, by omega⟩, rfl⟩) ⟨⟨(by kernel_rfl), (by kernel_rfl), trivial⟩, by simp [BelL, AVal.bel], by simp, (by kernel_rfl), by simp⟩ ?_
 rintro k ⟨⟨hk1, hk2⟩, hk⟩
 refine qSeq ?_ ?_
 refine qV 5 ?_ ?_
 by_cases hb5 : ((k : Nat) : Int) < ((s.length : Nat) : Int)
 refine qm [25, 26] (decide_eq_true hb5) ?_ ?_
 refine qr 2 ?_ ?_
 refine qy (o_index (k := .i64) (s := s) (i := ((k : Nat) : Int)) (by kernel_rfl) ty9 (by first | omega | (simp only [List.length_drop, List.length_take] at *; omega)) (by first | omega | (simp only [List.length_drop, List.length_take] at *; omega))) ?_ ?_ ?_
 refine qR 2 [(0, .str s), (5, nI k), (27, .str s), (28, nI k), (29, .int .u8 ((((s.getD k 0) : UInt8).toNat : Nat) : Int)), (30, .bool (((((s.getD k 0) : UInt8).toNat : Nat) : Int) != 34)), (31, .bool (((((s.getD k 0) : UInt8).toNat : Nat) : Int) != 34))] [] ?_ ?_
 by_cases hb6 : (s.getD k 0) = (34 : UInt8)
 refine qf (x := (((((s.getD k 0) : UInt8).toNat : Nat) : Int) != 34)) (u8t_neq (a := (s.getD k 0)) (b := (34 : UInt8)) (by kernel_rfl) (by kernel_rfl) hb6) ?_ ?_
 refine wExit 0 (by kernel_rfl) (by kernel_rfl) ?_
 refine AThen_exit ?_
 refine AThen_exit ?_
 refine AIn_exit ?_
 refine AThen_normal ?_
 refine qz [(5, nI k)] ?_ ?_
 refine qV 3 ?_ ?_
 refine qT ?_ ?_
 refine leafII (n := 8) (m := ((k : Nat) : Int)) (.inr rfl) (by kernel_rfl) ?_
 rotate_left
 iterate 4 kernel_rfl
 refine qt (x := (((((s.getD k 0) : UInt8).toNat : Nat) : Int) != 34)) (u8f_neq (a := (s.getD k 0)) (b := (34 : UInt8)) (by kernel_rfl) (by kernel_rfl) hb6) ?_ ?_
 refine qK ?_ ?_
 refine qz [(0, .str s), (5, nI k), (27, .str s), (28, nI k), (29, .int .u8 ((((s.getD k 0) : UInt8).toNat : Nat) : Int)), (30, .bool (((((s.getD k 0) : UInt8).toNat : Nat) : Int) != 34))] ?_ ?_
 refine qSeq ?_ ?_
 refine qB 1 ?_ ?_ ?_
 refine qV 2 ?_ ?_
 refine qy (o_slcfrom (lo := (some (.int .i64 ((k : Nat) : Int)))) (s := s) (x := ((k : Nat) : Int)) (by kernel_rfl) ty9 (by kernel_rfl) (by first | omega | (simp only [List.length_drop, List.length_take] at *; omega)) (by first | omega | (simp only [List.length_drop, List.length_take] at *; omega))) ?_ ?_ ?_
 refine qc [.str (s.drop k)] (good_spec (s.drop k) (by first | omega | (simp only [List.length_drop, List.length_take] at *; omega)) (by first | omega | (simp only [List.length_drop, List.length_take] at *; omega))) ?_ ?_
 have hv7 := good_le (s.drop k) (by first | omega | (simp only [List.length_drop]; omega))
 refine qR 5 [(0, .str s), (5, nI k), (7, nI ((good (s.drop k)).2)), (27, .str s), (28, nI k), (29, .int .u8 ((((s.getD k 0) : UInt8).toNat : Nat) : Int)), (30, .bool (((((s.getD k 0) : UInt8).toNat : Nat) : Int) != 34))] [] ?_ ?_
 refine qU 2 [(0, .str s), (5, nI k), (27, .str s), (28, nI k), (29, .int .u8 ((((s.getD k 0) : UInt8).toNat : Nat) : Int)), (30, .bool (((((s.getD k 0) : UInt8).toNat : Nat) : Int) != 34)), (42, .bool (decide ((((good (s.drop k)).2 : Nat) : Int) > 0)))] ?_ ?_
 by_cases hb8 : (((good (s.drop k)).2 : Nat) : Int) > 0
 refine qt (decide_eq_true hb8) ?_ ?_
 refine wExit 0 (by kernel_rfl) (by kernel_rfl) ?_
 refine AIn_other (by decide) ?_
 refine AThen_exit ?_
 refine AThen_exit ?_
 refine AIn_exit ?_
 refine AThen_normal ?_
 refine qz [(5, nI k)] ?_ ?_
 refine qV 3 ?_ ?_
 refine qT ?_ ?_
 refine leafII (n := 8) (m := ((k : Nat) : Int)) (.inr rfl) (by kernel_rfl) ?_
 rotate_left
 iterate 4 kernel_rfl
 refine qf (decide_eq_false hb8) ?_ ?_
 refine qk ?_ ?_
 refine AIn_normal ?_
 refine AThen_normal ?_
 refine qz [(0, .str s), (5, nI k), (27, .str s), (28, nI k), (29, .int .u8 ((((s.getD k 0) : UInt8).toNat : Nat) : Int)), (30, .bool (((((s.getD k 0) : UInt8).toNat : Nat) : Int) != 34))] ?_ ?_
 refine qo ?_ ?_
 refine qr 1 ?_ ?_
 refine qy (o_add (a := ((k : Nat) : Int)) (b := 1) (by kernel_rfl) (by first | omega | (simp only [List.length_drop, List.length_take] at *; omega)) (by first | omega | (simp only [List.length_drop, List.length_take] at *; omega))) ?_ ?_ ?_
 refine qr 1 ?_ ?_
 refine qe ?_ ?_
 refine AThen_normal ⟨k + 1, ?_, ?_, ⟨⟨(by kernel_rfl), (by kernel_rfl), trivial⟩, by simp [BelL, AVal.bel], by simp, (by kernel_rfl), by simp⟩⟩
 · omega
 · refine ⟨⟨by omega, by omega⟩, ?_⟩
   rw [hk]; exact badTo_succ (by omega) (by assumption) (by omega)
 iterate 26 kernel_rfl
 refine qm [25, 26] (decide_eq_false hb5) ?_ ?_
 refine qR 5 [(0, .str s), (5, nI k), (27, .tup []), (28, .tup []), (29, .tup []), (30, .tup []), (31, .bool false)] [] ?_ ?_
 refine wIfF (by kernel_rfl) (by kernel_rfl) ?_
 refine wExit 0 (by kernel_rfl) (by kernel_rfl) ?_
 refine AThen_exit ?_
 refine AThen_exit ?_
 refine AIn_exit ?_
 refine AThen_normal ?_
 refine qz [(5, nI k)] ?_ ?_
 refine qV 3 ?_ ?_
 refine qT ?_ ?_
 refine leafII (n := 8) (m := ((k : Nat) : Int)) (.inr rfl) (by kernel_rfl) ?_
 rotate_left
 iterate 29 kernel_rfl
 all_goals
  refine next_int s _ _ ?_
  first | (simp only [next, *, reduceIte]; done) | (rw [next, if_pos (by omega)]; done) | (rw [next, if_neg (by omega), if_pos (by assumption)]; done) | (rw [next, if_neg (by omega), if_neg (by assumption), hk, badTo_stop]; rintro ⟨q1, q2, q3⟩; first | omega | contradiction)
noncomputable def c120 : Code := bodyOf Tryz.f120
theorem single_spec (s : List UInt8) (hs : s.length < 1000000000) : CallsP cx 120 [.str s] (.tup [.int .i64 ((single s).1), .bool ((single s).2)]) := by
 refine func_intro (cx := cx) 18 0 [(ResultVar.tmp 2), (ResultVar.tmp 3)] Tryz.func120 rfl rfl rfl rfl rfl (by simp) ?_
 show wpA cx 18 0 (at_ c120 []) _ _ _
 refine qZ [(0, .str s)] [] ?_ ?_
 refine qU 2 [(0, .str s)] ?_ ?_
 refine qSeq ?_ ?_
 refine qU 2 [(0, .str s), (7, .bool (s == []))] ?_ ?_
 by_cases hb1 : s = []
 refine qt (beq_iff_eq.2 hb1) ?_ ?_
 refine qV 2 ?_ ?_
 refine qT ?_ ?_
 apply aR
 refine leafIB (n := 0) (b := false) (.inr rfl) (by kernel_rfl) ?_
 rotate_left
 iterate 3 kernel_rfl
 refine qf (beq_eq_false_iff_ne.2 hb1) ?_ ?_
 refine qK ?_ ?_
 refine qz [(0, .str s)] ?_ ?_
 refine qV 1 ?_ ?_
 refine qc [.str s] (next_spec s (by first | omega | exact List.length_pos_iff.2 (by assumption)) (by first | omega | exact List.length_pos_iff.2 (by assumption))) ?_ ?_
 have hv2 := next_le s (by first | omega | exact List.length_pos_iff.2 (by assumption))
 refine qR 5 [(0, .str s), (4, .int .i64 ((next s).1)), (5, nI ((next s).2))] [] ?_ ?_
 refine qV 7 ?_ ?_
 refine qT ?_ ?_
 refine leafIB (n := ((next s).1)) (b := ((((next s).2 : Nat) : Int) == ((s.length : Nat) : Int))) (.inr rfl) (by kernel_rfl) ?_
 rotate_left
 iterate 12 kernel_rfl
 all_goals
  simp only [single, *, reduceIte]
  first | exact ⟨rfl, rfl⟩ | exact ⟨trivial, trivial⟩ | (refine ⟨trivial, ?_⟩; rw [Bool.eq_iff_iff]; simp; try omega)
noncomputable def c97 : Code := bodyOf Tryz.f97
theorem fits2_spec (s : List UInt8) (hs : s.length < 1000000000) : CallsP cx 97 [.agg [.int .i64 2, .str s, .int .i64 0]] (.bool (fitsW 2 s)) := by
 refine func_intro (cx := cx) 56 0 [(ResultVar.tmp 2)] Tryz.func97 rfl rfl rfl rfl rfl (by simp) ?_
 show wpA cx 56 0 (at_ c97 []) _ _ _
 refine qZ [(0, .agg [.int .i64 2, .str s, .int .i64 0])] [] ?_ ?_
 refine qW 2 [(1, .ptr 0 0)] [.box [.int .i64 2, .str s, .int .i64 0]] ?_ ?_
 refine qV 2 ?_ ?_
 refine qc [.str s] (single_spec s (by omega)) ?_ ?_
 refine qR 5 [(1, .ptr 0 0), (3, .int .i64 ((single s).1)), (4, .bool ((single s).2))] [.box [.int .i64 2, .str s, .int .i64 0]] ?_ ?_
 refine qSeq ?_ ?_
 refine qV 3 ?_ ?_
 by_cases hb1 : ((single s).2) = true
 refine qm [14, 15] (x := (!((single s).2))) (congrArg not (hb1)) ?_ ?_
 refine qR 5 [(1, .ptr 0 0), (3, .int .i64 ((single s).1)), (20, .bool (((single s).1) != 2))] [.box [.int .i64 2, .str s, .int .i64 0]] ?_ ?_
 by_cases hb2 : ((single s).1) = 2
 refine qf (x := (((single s).1) != 2)) (bne_eq_false_iff_eq.2 hb2) ?_ ?_
 refine qK ?_ ?_
 refine qz [(1, .ptr 0 0), (3, .int .i64 ((single s).1))] ?_ ?_
 refine qSeq ?_ ?_
 refine qU 1 [(1, .ptr 0 0), (3, .int .i64 ((single s).1)), (21, .int .i64 ((single s).1))] ?_ ?_
 refine qB 0 ?_ ?_ ?_
 refine qSeq ?_ ?_
 refine qU 2 [(1, .ptr 0 0), (3, .int .i64 ((single s).1)), (21, .int .i64 ((single s).1)), (22, .bool (((single s).1) == 2))] ?_ ?_
 refine qt (beq_iff_eq.2 hb2) ?_ ?_
 refine qK ?_ ?_
 refine qz [(1, .ptr 0 0), (3, .int .i64 ((single s).1)), (21, .int .i64 ((single s).1)), (22, .bool (((single s).1) == 2))] ?_ ?_
 refine qt (beq_iff_eq.2 hb2) ?_ ?_
 refine qV 5 ?_ ?_
 refine qT ?_ ?_
 apply iR
 apply aR
 refine leafB (b := (decide (((s.length : Nat) : Int) ≤ 16))) (.inr rfl) (by kernel_rfl) ?_
 by_cases hb5 : ((s.length : Nat) : Int) ≤ 16
 refine Eq.trans (decide_eq_true hb5) ?_
 · simp [fitsW, *]
   try omega
 refine Eq.trans (decide_eq_false hb5) ?_
 · simp [fitsW, *]
   try omega
 iterate 15 kernel_rfl
 refine qt (x := (((single s).1) != 2)) (bne_iff_ne.2 hb2) ?_ ?_
 refine qV 1 ?_ ?_
 refine qT ?_ ?_
 apply aR
 refine leafB (b := false) (.inr rfl) (by kernel_rfl) ?_
 · simp [fitsW, *]
   try omega
 iterate 5 kernel_rfl
 refine qm [14, 15] (x := (!((single s).2))) (congrArg not (Bool.eq_false_iff.2 hb1)) ?_ ?_
 refine qR 5 [(1, .ptr 0 0), (3, .int .i64 ((single s).1)), (20, .bool true)] [.box [.int .i64 2, .str s, .int .i64 0]] ?_ ?_
 refine wIfT (by kernel_rfl) (by kernel_rfl) ?_
 refine qV 1 ?_ ?_
 refine qT ?_ ?_
 apply aR
 refine leafB (b := false) (.inr rfl) (by kernel_rfl) ?_
 · simp [fitsW, *]
   try omega
 iterate 11 kernel_rfl
theorem fits3_spec (s : List UInt8) (hs : s.length < 1000000000) : CallsP cx 97 [.agg [.int .i64 3, .str s, .int .i64 0]] (.bool (fitsW 3 s)) := by
 refine func_intro (cx := cx) 56 0 [(ResultVar.tmp 2)] Tryz.func97 rfl rfl rfl rfl rfl (by simp) ?_
 show wpA cx 56 0 (at_ c97 []) _ _ _
 refine qZ [(0, .agg [.int .i64 3, .str s, .int .i64 0])] [] ?_ ?_
 refine qW 2 [(1, .ptr 0 0)] [.box [.int .i64 3, .str s, .int .i64 0]] ?_ ?_
 refine qV 2 ?_ ?_
 refine qc [.str s] (single_spec s (by omega)) ?_ ?_
 refine qR 5 [(1, .ptr 0 0), (3, .int .i64 ((single s).1)), (4, .bool ((single s).2))] [.box [.int .i64 3, .str s, .int .i64 0]] ?_ ?_
 refine qSeq ?_ ?_
 refine qV 3 ?_ ?_
 by_cases hb1 : ((single s).2) = true
 refine qm [14, 15] (x := (!((single s).2))) (congrArg not (hb1)) ?_ ?_
 refine qR 5 [(1, .ptr 0 0), (3, .int .i64 ((single s).1)), (20, .bool (((single s).1) != 3))] [.box [.int .i64 3, .str s, .int .i64 0]] ?_ ?_
 by_cases hb2 : ((single s).1) = 3
 refine qf (x := (((single s).1) != 3)) (bne_eq_false_iff_eq.2 hb2) ?_ ?_
 refine qK ?_ ?_
 refine qz [(1, .ptr 0 0), (3, .int .i64 ((single s).1))] ?_ ?_
 refine qSeq ?_ ?_
 refine qU 1 [(1, .ptr 0 0), (3, .int .i64 ((single s).1)), (21, .int .i64 ((single s).1))] ?_ ?_
 refine qB 0 ?_ ?_ ?_
 refine qSeq ?_ ?_
 refine qU 2 [(1, .ptr 0 0), (3, .int .i64 ((single s).1)), (21, .int .i64 ((single s).1)), (22, .bool (((single s).1) == 2))] ?_ ?_
 by_cases hb3 : ((single s).1) = 2
 refine qt (beq_iff_eq.2 hb3) ?_ ?_
 refine qK ?_ ?_
 refine qz [(1, .ptr 0 0), (3, .int .i64 ((single s).1)), (21, .int .i64 ((single s).1)), (22, .bool (((single s).1) == 2))] ?_ ?_
 refine qt (beq_iff_eq.2 hb3) ?_ ?_
 refine qV 5 ?_ ?_
 refine qT ?_ ?_
 apply iR
 apply aR
 refine leafB (b := (decide (((s.length : Nat) : Int) ≤ 16))) (.inr rfl) (by kernel_rfl) ?_
 by_cases hb5 : ((s.length : Nat) : Int) ≤ 16
 refine Eq.trans (decide_eq_true hb5) ?_
 rotate_left
 refine Eq.trans (decide_eq_false hb5) ?_
 rotate_left
 iterate 6 kernel_rfl
 refine qf (beq_eq_false_iff_ne.2 hb3) ?_ ?_
 refine qo ?_ ?_
 refine qR 2 [(1, .ptr 0 0), (3, .int .i64 ((single s).1)), (21, .int .i64 ((single s).1)), (22, .bool (((single s).1) == 3))] [.box [.int .i64 3, .str s, .int .i64 0]] ?_ ?_
 refine qt (beq_iff_eq.2 hb2) ?_ ?_
 refine qV 5 ?_ ?_
 refine qT ?_ ?_
 apply iR
 apply aR
 refine leafB (b := (decide (((s.length : Nat) : Int) ≤ 16))) (.inr rfl) (by kernel_rfl) ?_
 by_cases hb7 : ((s.length : Nat) : Int) ≤ 16
 refine Eq.trans (decide_eq_true hb7) ?_
 rotate_left
 refine Eq.trans (decide_eq_false hb7) ?_
 rotate_left
 iterate 15 kernel_rfl
 refine qt (x := (((single s).1) != 3)) (bne_iff_ne.2 hb2) ?_ ?_
 refine qV 1 ?_ ?_
 refine qT ?_ ?_
 apply aR
 refine leafB (b := false) (.inr rfl) (by kernel_rfl) ?_
 rotate_left
 iterate 5 kernel_rfl
 refine qm [14, 15] (x := (!((single s).2))) (congrArg not (Bool.eq_false_iff.2 hb1)) ?_ ?_
 refine qR 5 [(1, .ptr 0 0), (3, .int .i64 ((single s).1)), (20, .bool true)] [.box [.int .i64 3, .str s, .int .i64 0]] ?_ ?_
 refine wIfT (by kernel_rfl) (by kernel_rfl) ?_
 refine qV 1 ?_ ?_
 refine qT ?_ ?_
 apply aR
 refine leafB (b := false) (.inr rfl) (by kernel_rfl) ?_
 rotate_left
 iterate 11 kernel_rfl
 all_goals
  simp [fitsW, *]
  try omega
end Go.Proofs.YtdikgijfekfaoaaGreatDoor
