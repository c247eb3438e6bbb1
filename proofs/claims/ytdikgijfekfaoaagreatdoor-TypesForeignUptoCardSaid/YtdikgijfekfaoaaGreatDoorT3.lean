/- What is well formed. No condition. -/
import Derived.Test.YtdikgijfekfaoaaGreatDoorT2
import Derived.Test.YtdikgijfekfaoaaGreatDoorAbsc
set_option linter.all false
set_option linter.unusedSimpArgs false
set_option linter.unusedVariables false
namespace Go.Proofs.YtdikgijfekfaoaaGreatDoor
open Go.Proofs.YtdikgijfekfaoaaGreatDoor.Abs
set_option maxRecDepth 20000
set_option maxHeartbeats 4000000
def nmAt (l : List (List UInt8)) (i : Nat) : Bool := fitsW 2 (l.getD i []) && (i == 0 || sLess (l.getD (i - 1) []) (l.getD i []))
def nmOk (l : List (List UInt8)) : Bool := (List.range l.length).all (nmAt l)
theorem nmOk_true {l : List (List UInt8)} (h : ∀ i, i < l.length → nmAt l i = true) : nmOk l = true := by
  unfold nmOk; rw [List.all_eq_true]; intro i hi; exact h i (List.mem_range.1 hi)
theorem nmOk_false {l : List (List UInt8)} {i : Nat} (hi : i < l.length) (h : nmAt l i = false) : nmOk l = false := by
  rw [Bool.eq_false_iff]; intro hc; unfold nmOk at hc; rw [List.all_eq_true] at hc
  rw [hc i (List.mem_range.2 hi)] at h; cases h
def fmd (t : Ty) : Bool :=
  if t.kind = 0 ∨ t.kind = 1 ∨ t.kind = 2 then decide (t.name = [] ∧ t.n = 0 ∧ t.names.length = 0 ∧ t.kids.length = 0)
  else if t.kind = 3 then decide (t.n = 0 ∧ t.names.length = 0 ∧ t.kids.length = 0 ∧ upN t.name = true)
  else if t.kind = 4 then decide (t.name = [] ∧ t.n = 0 ∧ t.names.length = 0 ∧ t.kids.length = 1)
  else if t.kind = 6 then decide (t.name = [] ∧ 1 ≤ t.n ∧ t.names.length = 0 ∧ t.kids.length = 0)
  else if t.kind = 5 then decide (nmOk t.names = true ∧ t.name = [] ∧ 0 ≤ t.n ∧ t.names.length = t.kids.length)
  else false
def idxS (l : List (List UInt8)) (s : List UInt8) : Int := match l.findIdx? (· == s) with
  | some i => (i : Nat)
  | none => -1
theorem idxS_some {l : List (List UInt8)} {s : List UInt8} {k : Nat} (hk : k < l.length) (ha : ∀ i, i < k → ¬ s = l.getD i []) (h : s = l.getD k []) : ((k : Nat) : Int) = idxS l s := by
  have e : ∀ i (h : i < l.length), l.getD i [] = l[i] := fun i h => by rw [List.getD_eq_getElem?_getD, List.getElem?_eq_getElem h]; rfl
  have : l.findIdx? (· == s) = some k := by
    rw [List.findIdx?_eq_some_iff_getElem]
    refine ⟨hk, by rw [← e k hk, ← h]; simp, fun j hj => ?_⟩
    have := ha j hj
    rw [e j (by omega)] at this
    simpa using fun h => this h.symm
  simp [idxS, this]
theorem idxS_none {l : List (List UInt8)} {s : List UInt8} (ha : ∀ i, i < l.length → ¬ s = l.getD i []) : -1 = idxS l s := by
  have : l.findIdx? (· == s) = none := by
    rw [List.findIdx?_eq_none_iff]
    intro x hx
    obtain ⟨i, hi, rfl⟩ := List.getElem_of_mem hx
    have := ha i hi
    rw [List.getD_eq_getElem?_getD, List.getElem?_eq_getElem hi] at this
    simpa using fun h : l[i] = s => this h.symm
  simp [idxS, this]
theorem idxS_contains (l : List (List UInt8)) (s : List UInt8) : decide (idxS l s ≥ 0) = l.contains s := by
  rw [Bool.eq_iff_iff]
  simp only [decide_eq_true_eq, List.contains_iff_mem]
  unfold idxS
  split
  · rename_i i hi
    obtain ⟨h1, h2, _⟩ := List.findIdx?_eq_some_iff_getElem.1 hi
    simp at h2
    exact ⟨fun _ => h2 ▸ List.getElem_mem h1, fun _ => by omega⟩
  · rename_i hi
    rw [List.findIdx?_eq_none_iff] at hi
    exact ⟨fun h => by omega, fun h => by have := hi s h; simp at this⟩
noncomputable def c99 : Code := bodyOf Tryz.f99
theorem slIndex_spec (l : List (List UInt8)) (s : List UInt8) (hn : l.length < 1000000000) : CallsP cx 99 [.imm (l.map AVal.str), .str s] (.int .i64 (idxS l s)) := by
 refine func_intro (cx := cx) 19 0 [(ResultVar.tmp 4)] Tryz.func99 rfl rfl rfl rfl rfl (by simp) ?_
 show wpA cx 19 0 (at_ c99 []) _ _ _
 refine qZ [(0, .imm (l.map AVal.str)), (1, .str s)] [] ?_ ?_
 refine qU 1 [(0, .imm (l.map AVal.str)), (1, .str s)] ?_ ?_
 refine qSeq ?_ ?_
 refine qV 1 ?_ ?_
 refine qy (o_lenmap (l := l) (enc := AVal.str) (by kernel_rfl) ty22) ?_ ?_ ?_
 refine qR 1 [(0, .imm (l.map AVal.str)), (1, .str s), (7, nI l.length), (8, .int .i64 0)] [] ?_ ?_
 refine qB 0 ?_ ?_ ?_
 refine wLoop (σ := Nat) (fun k => [(0, .imm (l.map AVal.str)), (1, .str s), (7, .int .i64 ((l.length : Nat) : Int)), (8, .int .i64 ((k : Nat) : Int))]) (fun k => []) (fun k => k ≤ l.length ∧ ∀ i, i < k → ¬ s = l.getD i []) (fun k => l.length - k) 0 (by kernel_rfl) (by simp) ⟨⟨(by kernel_rfl), (by kernel_rfl), (by kernel_rfl), (by kernel_rfl), trivial⟩, by simp [BelL, AVal.bel], by simp, (by kernel_rfl), by simp⟩ ?_
 rintro k ⟨hk, ha⟩
 refine qW 1 [(0, .imm (l.map AVal.str)), (1, .str s), (7, nI l.length), (8, nI k), (9, .bool (decide (((k : Nat) : Int) < ((l.length : Nat) : Int))))] [] ?_ ?_
 refine qSeq ?_ ?_
 by_cases hb1 : ((k : Nat) : Int) < ((l.length : Nat) : Int)
 refine qt (decide_eq_true hb1) ?_ ?_
 refine qK ?_ ?_
 refine qz [(0, .imm (l.map AVal.str)), (1, .str s), (7, nI l.length), (8, nI k)] ?_ ?_
 refine qSeq ?_ ?_
 refine qB 1 ?_ ?_ ?_
 refine qU 2 [(0, .imm (l.map AVal.str)), (1, .str s), (5, nI k), (7, nI l.length), (8, nI k)] ?_ ?_
 refine qV 3 ?_ ?_
 refine qy (o_ixmap (k := .i64) (l := l) (enc := AVal.str) (i := ((k : Nat) : Int)) [] (by kernel_rfl) ty22 ty9 (fun _ => rfl) (by omega) (by omega)) ?_ ?_ ?_
 refine qR 2 [(0, .imm (l.map AVal.str)), (1, .str s), (5, nI k), (7, nI l.length), (8, nI k), (16, .bool (s == (l.getD k [])))] [] ?_ ?_
 by_cases hb2 : s = (l.getD k [])
 refine qt (beq_iff_eq.2 hb2) ?_ ?_
 refine qV 2 ?_ ?_
 refine qT ?_ ?_
 apply iR
 apply aR
 apply aR
 apply iR
 apply aR
 refine leafI (n := ((k : Nat) : Int)) (.inr rfl) (by kernel_rfl) ?_
 rotate_left
 iterate 3 kernel_rfl
 refine qf (beq_eq_false_iff_ne.2 hb2) ?_ ?_
 refine qk ?_ ?_
 refine AIn_normal ?_
 refine AThen_normal ?_
 refine qz [(0, .imm (l.map AVal.str)), (1, .str s), (7, nI l.length), (8, nI k)] ?_ ?_
 refine qo ?_ ?_
 refine qy (o_add (a := ((k : Nat) : Int)) (b := 1) (by kernel_rfl) (by omega) (by omega)) ?_ ?_ ?_
 refine qr 1 ?_ ?_
 refine qe ?_ ?_
 refine AThen_normal ⟨k + 1, ?_, ?_, ⟨⟨(by kernel_rfl), (by kernel_rfl), (by kernel_rfl), (by kernel_rfl), trivial⟩, by simp [BelL, AVal.bel], by simp, (by kernel_rfl), by simp⟩⟩
 · omega
 · refine ⟨by omega, fun i hi => ?_⟩
   rcases Nat.lt_succ_iff_lt_or_eq.1 hi with h | h
   · exact ha i h
   · subst h; assumption
 iterate 19 kernel_rfl
 refine qf (decide_eq_false hb1) ?_ ?_
 refine wExit 0 (by kernel_rfl) (by kernel_rfl) ?_
 refine AThen_exit ?_
 refine AThen_exit ?_
 refine AIn_exit ?_
 refine AThen_normal ?_
 refine qz [] ?_ ?_
 refine qV 1 ?_ ?_
 refine qT ?_ ?_
 refine leafI (n := (-1)) (.inr rfl) (by kernel_rfl) ?_
 rotate_left
 iterate 15 kernel_rfl
 all_goals
  first | exact idxS_some (by omega) ha (by assumption) | exact idxS_none (fun i hi => ha i (by omega))
noncomputable def c96 : Code := bodyOf Tryz.f96
theorem slContains_spec (l : List (List UInt8)) (s : List UInt8) (hn : l.length < 1000000000) : CallsP cx 96 [.imm (l.map AVal.str), .str s] (.bool (l.contains s)) := by
 refine func_intro (cx := cx) 9 0 [(ResultVar.tmp 4)] Tryz.func96 rfl rfl rfl rfl rfl (by simp) ?_
 show wpA cx 9 0 (at_ c96 []) _ _ _
 refine qZ [(0, .imm (l.map AVal.str)), (1, .str s)] [] ?_ ?_
 refine qU 1 [(0, .imm (l.map AVal.str)), (1, .str s)] ?_ ?_
 refine qV 2 ?_ ?_
 refine vcallP (args := [.imm (l.map AVal.str), .str s]) (by kernel_rfl) (by kernel_rfl) (by kernel_rfl) (by kernel_rfl) (slIndex_spec l s (by first | omega | (simp; omega))) (by simp [Ty.v]) (by simp [Ty.v]) (by simp [Ty.v]) ?_
 refine qX 2 ?_ ?_
 refine leafB (b := (decide ((idxS l s) ≥ 0))) (.inr rfl) (by kernel_rfl) ?_
 · exact idxS_contains l s
 iterate 4 kernel_rfl
theorem upN_eq (s : List UInt8) : upN s = (!(([[73, 110, 116], [84, 101, 120, 116], [66, 111, 111, 108]] : List (List UInt8)).contains s) && fitsW 3 s) := by
  simp only [upN, List.contains_cons, List.contains_nil, Bool.or_false, Bool.not_or]
  rw [Bool.and_comm _ (fitsW 3 s)]
  simp only [Bool.and_assoc]
theorem nmAt_true {l : List (List UInt8)} {k : Nat} (h1 : fitsW 2 (l.getD k []) = true) (h2 : k = 0 ∨ sLess (l.getD (k - 1) []) (l.getD k []) = true) : nmAt l k = true := by
  rw [nmAt, h1]; rcases h2 with rfl | h2
  · rfl
  · rw [h2]; simp
theorem nmAt_low {l : List (List UInt8)} {k : Nat} (h1 : ¬ fitsW 2 (l.getD k []) = true) : nmAt l k = false := by rw [nmAt, Bool.eq_false_iff.2 h1]; rfl
theorem nmAt_ord {l : List (List UInt8)} {k : Nat} (h1 : 0 < k) (h2 : sLess (l.getD (k - 1) []) (l.getD k []) = false) : nmAt l k = false := by
  rw [nmAt, h2]; have : (k == 0) = false := by simp; omega
  rw [this]; simp
theorem sle_iff (a b : List UInt8) : (sLess a b || a == b) = !(sLess b a) := by
  cases h : sLess b a with
  | true =>
    have h1 : sLess a b = false := by
      cases h2 : sLess a b with
      | false => rfl
      | true => have := sLess_trans a b a h2 h; rw [sLess_irrefl] at this; cases this
    have h2 : (a == b) = false := by
      rw [beq_eq_false_iff_ne]; rintro rfl; rw [sLess_irrefl] at h; cases h
    rw [h1, h2]; rfl
  | false =>
    rcases sLess_total b a h with rfl | h1
    · simp
    · rw [h1]; rfl
theorem pred_nat (k : Nat) : (((k : Nat) : Int) - 1).toNat = k - 1 := by omega
theorem fmd_0 {t : Ty} (h : t.kind = 0 ∨ t.kind = 1 ∨ t.kind = 2) : fmd t = decide (t.name = [] ∧ t.n = 0 ∧ t.names.length = 0 ∧ t.kids.length = 0) := by rw [fmd, if_pos h]
theorem fmd_3 {t : Ty} (h : t.kind = 3) : fmd t = decide (t.n = 0 ∧ t.names.length = 0 ∧ t.kids.length = 0 ∧ upN t.name = true) := by rw [fmd, if_neg (by omega), if_pos h]
theorem fmd_4 {t : Ty} (h : t.kind = 4) : fmd t = decide (t.name = [] ∧ t.n = 0 ∧ t.names.length = 0 ∧ t.kids.length = 1) := by rw [fmd, if_neg (by omega), if_neg (by omega), if_pos h]
theorem fmd_6 {t : Ty} (h : t.kind = 6) : fmd t = decide (t.name = [] ∧ 1 ≤ t.n ∧ t.names.length = 0 ∧ t.kids.length = 0) := by rw [fmd, if_neg (by omega), if_neg (by omega), if_neg (by omega), if_pos h]
theorem fmd_5 {t : Ty} (h : t.kind = 5) : fmd t = decide (nmOk t.names = true ∧ t.name = [] ∧ 0 ≤ t.n ∧ t.names.length = t.kids.length) := by rw [fmd, if_neg (by omega), if_neg (by omega), if_neg (by omega), if_neg (by omega), if_pos h]
theorem fmd_x {t : Ty} (h : t.kind < 0 ∨ 6 < t.kind) : fmd t = false := by rw [fmd, if_neg (by omega), if_neg (by omega), if_neg (by omega), if_neg (by omega), if_neg (by omega)]
theorem upN_t {s : List UInt8} (h1 : ¬ ([[73, 110, 116], [84, 101, 120, 116], [66, 111, 111, 108]] : List (List UInt8)).contains s = true) (h2 : fitsW 3 s = true) : upN s = true := by rw [upN_eq, Bool.eq_false_iff.2 h1, h2]; rfl
theorem upN_f1 {s : List UInt8} (h1 : ([[73, 110, 116], [84, 101, 120, 116], [66, 111, 111, 108]] : List (List UInt8)).contains s = true) : ¬ upN s = true := by rw [upN_eq, h1]; simp
theorem upN_f2 {s : List UInt8} (h2 : ¬ fitsW 3 s = true) : ¬ upN s = true := by rw [upN_eq, Bool.eq_false_iff.2 h2]; simp
theorem nm_end {l : List (List UInt8)} {k : Nat} (ha : ∀ i, i < k → nmAt l i = true) (hk : l.length ≤ k) : nmOk l = true := nmOk_true fun i hi => ha i (by omega)
theorem nm_low {l : List (List UInt8)} (k : Nat) (hk : k < l.length) (h : ¬ fitsW 2 (l.getD k []) = true) : ¬ nmOk l = true := Bool.eq_false_iff.1 (nmOk_false hk (nmAt_low h))
theorem nm_ord1 {l : List (List UInt8)} (k : Nat) (hk : k < l.length) (h0 : 0 < k) (h : (sLess (l.getD k []) (l.getD (((k : Nat) : Int) - 1).toNat []) || l.getD k [] == l.getD (((k : Nat) : Int) - 1).toNat []) = true) : ¬ nmOk l = true := by
  rw [pred_nat, sle_iff] at h
  exact Bool.eq_false_iff.1 (nmOk_false hk (nmAt_ord h0 (by simpa using h)))
theorem nm_ord2 {l : List (List UInt8)} (k : Nat) (hk : k < l.length) (h0 : 0 < k) (h : ¬ sLess (l.getD (((k : Nat) : Int) - 1).toNat []) (l.getD k []) = true) : ¬ nmOk l = true := by
  rw [pred_nat] at h
  exact Bool.eq_false_iff.1 (nmOk_false hk (nmAt_ord h0 (Bool.eq_false_iff.2 h)))
noncomputable def c56 : Code := bodyOf Tryz.f56
theorem tformed_spec (t : Ty) (hs : t.sz < 100000000) : CallsP cx 56 [Ty.v t] (.bool (fmd t)) := by
 have hz1 := sz_names t
 have hz2 := sz_kids t
 have hz3 := sz_name t
 refine func_intro (cx := cx) 139 0 [(ResultVar.tmp 2)] Tryz.func56 rfl rfl rfl rfl rfl (by simp) ?_
 show wpA cx 139 0 (at_ c56 []) _ _ _
 refine qZ [(0, Ty.v t)] [] ?_ ?_
 refine qW 2 [(1, .ptr 0 0)] [t.bx] ?_ ?_
 refine qV 4 ?_ ?_
 by_cases hb1 : t.name = []
 refine qm [8, 9] (beq_iff_eq.2 hb1) ?_ ?_
 refine qR 5 [(1, .ptr 0 0), (3, .bool ((t.n) == 0))] [t.bx] ?_ ?_
 refine qSeq ?_ ?_
 refine qU 2 [(1, .ptr 0 0), (3, .bool ((t.n) == 0)), (15, .int .i64 (t.kind))] ?_ ?_
 refine qB 0 ?_ ?_ ?_
 refine qSeq ?_ ?_
 refine qU 2 [(1, .ptr 0 0), (3, .bool ((t.n) == 0)), (15, .int .i64 (t.kind)), (16, .bool ((t.kind) == 0))] ?_ ?_
 by_cases hb2 : (t.kind) = 0
 refine qt (beq_iff_eq.2 hb2) ?_ ?_
 refine qK ?_ ?_
 refine qz [(1, .ptr 0 0), (3, .bool ((t.n) == 0)), (15, .int .i64 (t.kind)), (16, .bool ((t.kind) == 0))] ?_ ?_
 refine qt (beq_iff_eq.2 hb2) ?_ ?_
 refine qV 2 ?_ ?_
 by_cases hb4 : (t.n) = 0
 refine qm [3, 20, 21] (beq_iff_eq.2 hb4) ?_ ?_
 refine qr 2 ?_ ?_
 refine qy (o_lenmap (l := t.names) (enc := AVal.str) (by kernel_rfl) ty22) ?_ ?_ ?_
 refine qr 2 ?_ ?_
 refine qy (o_lenmap (l := t.kids) (enc := Ty.enc) (by kernel_rfl) ty23) ?_ ?_ ?_
 refine qy (o_add (a := ((t.names.length : Nat) : Int)) (b := ((t.kids.length : Nat) : Int)) (by kernel_rfl) (by first | omega | (simp; done) | (have := sz_names_at t k; omega)) (by first | omega | (simp; done) | (have := sz_names_at t k; omega))) ?_ ?_ ?_
 refine qX 3 ?_ ?_
 apply iR
 apply aR
 refine leafB (b := ((((t.names.length + t.kids.length) : Nat) : Int) == 0)) (.inr rfl) (by kernel_rfl) ?_
 by_cases hb5 : (((t.names.length + t.kids.length) : Nat) : Int) = 0
 refine Eq.trans (beq_iff_eq.2 hb5) ?_
 rotate_left
 refine Eq.trans (beq_eq_false_iff_ne.2 hb5) ?_
 rotate_left
 iterate 10 kernel_rfl
 refine qm [3, 20, 21] (beq_eq_false_iff_ne.2 hb4) ?_ ?_
 refine qX 10 ?_ ?_
 apply iR
 apply aR
 refine leafB (b := false) (.inr rfl) (by kernel_rfl) ?_
 rotate_left
 iterate 7 kernel_rfl
 refine qf (beq_eq_false_iff_ne.2 hb2) ?_ ?_
 refine qU 2 [(1, .ptr 0 0), (3, .bool ((t.n) == 0)), (15, .int .i64 (t.kind)), (16, .bool ((t.kind) == 1))] ?_ ?_
 by_cases hb6 : (t.kind) = 1
 refine qt (beq_iff_eq.2 hb6) ?_ ?_
 refine qK ?_ ?_
 refine qz [(1, .ptr 0 0), (3, .bool ((t.n) == 0)), (15, .int .i64 (t.kind)), (16, .bool ((t.kind) == 1))] ?_ ?_
 refine qt (beq_iff_eq.2 hb6) ?_ ?_
 refine qV 2 ?_ ?_
 by_cases hb8 : (t.n) = 0
 refine qm [3, 20, 21] (beq_iff_eq.2 hb8) ?_ ?_
 refine qr 2 ?_ ?_
 refine qy (o_lenmap (l := t.names) (enc := AVal.str) (by kernel_rfl) ty22) ?_ ?_ ?_
 refine qr 2 ?_ ?_
 refine qy (o_lenmap (l := t.kids) (enc := Ty.enc) (by kernel_rfl) ty23) ?_ ?_ ?_
 refine qy (o_add (a := ((t.names.length : Nat) : Int)) (b := ((t.kids.length : Nat) : Int)) (by kernel_rfl) (by first | omega | (simp; done) | (have := sz_names_at t k; omega)) (by first | omega | (simp; done) | (have := sz_names_at t k; omega))) ?_ ?_ ?_
 refine qX 3 ?_ ?_
 apply iR
 apply aR
 refine leafB (b := ((((t.names.length + t.kids.length) : Nat) : Int) == 0)) (.inr rfl) (by kernel_rfl) ?_
 by_cases hb9 : (((t.names.length + t.kids.length) : Nat) : Int) = 0
 refine Eq.trans (beq_iff_eq.2 hb9) ?_
 rotate_left
 refine Eq.trans (beq_eq_false_iff_ne.2 hb9) ?_
 rotate_left
 iterate 10 kernel_rfl
 refine qm [3, 20, 21] (beq_eq_false_iff_ne.2 hb8) ?_ ?_
 refine qX 10 ?_ ?_
 apply iR
 apply aR
 refine leafB (b := false) (.inr rfl) (by kernel_rfl) ?_
 rotate_left
 iterate 7 kernel_rfl
 refine qf (beq_eq_false_iff_ne.2 hb6) ?_ ?_
 refine qo ?_ ?_
 refine qR 2 [(1, .ptr 0 0), (3, .bool ((t.n) == 0)), (15, .int .i64 (t.kind)), (16, .bool ((t.kind) == 2))] [t.bx] ?_ ?_
 by_cases hb10 : (t.kind) = 2
 refine qt (beq_iff_eq.2 hb10) ?_ ?_
 refine qV 2 ?_ ?_
 by_cases hb11 : (t.n) = 0
 refine qm [3, 20, 21] (beq_iff_eq.2 hb11) ?_ ?_
 refine qr 2 ?_ ?_
 refine qy (o_lenmap (l := t.names) (enc := AVal.str) (by kernel_rfl) ty22) ?_ ?_ ?_
 refine qr 2 ?_ ?_
 refine qy (o_lenmap (l := t.kids) (enc := Ty.enc) (by kernel_rfl) ty23) ?_ ?_ ?_
 refine qy (o_add (a := ((t.names.length : Nat) : Int)) (b := ((t.kids.length : Nat) : Int)) (by kernel_rfl) (by first | omega | (simp; done) | (have := sz_names_at t k; omega)) (by first | omega | (simp; done) | (have := sz_names_at t k; omega))) ?_ ?_ ?_
 refine qX 3 ?_ ?_
 apply iR
 apply aR
 refine leafB (b := ((((t.names.length + t.kids.length) : Nat) : Int) == 0)) (.inr rfl) (by kernel_rfl) ?_
 by_cases hb12 : (((t.names.length + t.kids.length) : Nat) : Int) = 0
 refine Eq.trans (beq_iff_eq.2 hb12) ?_
 rotate_left
 refine Eq.trans (beq_eq_false_iff_ne.2 hb12) ?_
 rotate_left
 iterate 10 kernel_rfl
 refine qm [3, 20, 21] (beq_eq_false_iff_ne.2 hb11) ?_ ?_
 refine qX 10 ?_ ?_
 apply iR
 apply aR
 refine leafB (b := false) (.inr rfl) (by kernel_rfl) ?_
 rotate_left
 iterate 4 kernel_rfl
 refine qf (beq_eq_false_iff_ne.2 hb10) ?_ ?_
 refine qU 2 [(1, .ptr 0 0), (3, .bool ((t.n) == 0)), (15, .int .i64 (t.kind)), (31, .bool ((t.kind) == 3))] ?_ ?_
 by_cases hb13 : (t.kind) = 3
 refine qt (beq_iff_eq.2 hb13) ?_ ?_
 refine qV 4 ?_ ?_
 by_cases hb14 : (t.n) = 0
 refine qm [3, 35, 36] (beq_iff_eq.2 hb14) ?_ ?_
 refine qr 2 ?_ ?_
 refine qy (o_lenmap (l := t.names) (enc := AVal.str) (by kernel_rfl) ty22) ?_ ?_ ?_
 refine qr 2 ?_ ?_
 refine qy (o_lenmap (l := t.kids) (enc := Ty.enc) (by kernel_rfl) ty23) ?_ ?_ ?_
 refine qy (o_add (a := ((t.names.length : Nat) : Int)) (b := ((t.kids.length : Nat) : Int)) (by kernel_rfl) (by first | omega | (simp; done) | (have := sz_names_at t k; omega)) (by first | omega | (simp; done) | (have := sz_names_at t k; omega))) ?_ ?_ ?_
 refine qr 3 ?_ ?_
 by_cases hb15 : (((t.names.length + t.kids.length) : Nat) : Int) = 0
 refine qm [44, 45, 46] (beq_iff_eq.2 hb15) ?_ ?_
 refine qr 3 ?_ ?_
 refine qc [.full [.str [73, 110, 116], .str [84, 101, 120, 116], .str [66, 111, 111, 108]], .str t.name] (slContains_spec [[73, 110, 116], [84, 101, 120, 116], [66, 111, 111, 108]] t.name (by first | omega | (simp; done) | (have := sz_names_at t k; omega))) ?_ ?_
 refine qr 3 ?_ ?_
 by_cases hb16 : ([[73, 110, 116], [84, 101, 120, 116], [66, 111, 111, 108]].contains t.name) = true
 refine qm [51, 52, 53] (x := (!([[73, 110, 116], [84, 101, 120, 116], [66, 111, 111, 108]].contains t.name))) (congrArg not (hb16)) ?_ ?_
 refine qX 6 ?_ ?_
 apply iR
 apply aR
 refine leafB (b := false) (.inr rfl) (by kernel_rfl) ?_
 rotate_left
 iterate 2 kernel_rfl
 refine qm [51, 52, 53] (x := (!([[73, 110, 116], [84, 101, 120, 116], [66, 111, 111, 108]].contains t.name))) (congrArg not (Bool.eq_false_iff.2 hb16)) ?_ ?_
 refine qr 3 ?_ ?_
 refine qc [.agg [.int .i64 3, .str t.name, .int .i64 0]] (fits3_spec t.name (by first | omega | (simp; done) | (have := sz_names_at t k; omega))) ?_ ?_
 refine qX 2 ?_ ?_
 apply iR
 apply aR
 refine leafB (b := (fitsW 3 t.name)) (.inr rfl) (by kernel_rfl) ?_
 by_cases hb17 : (fitsW 3 t.name) = true
 refine Eq.trans (hb17) ?_
 rotate_left
 refine Eq.trans (Bool.eq_false_iff.2 hb17) ?_
 rotate_left
 iterate 8 kernel_rfl
 refine qm [44, 45, 46] (beq_eq_false_iff_ne.2 hb15) ?_ ?_
 refine qX 13 ?_ ?_
 apply iR
 apply aR
 refine leafB (b := false) (.inr rfl) (by kernel_rfl) ?_
 rotate_left
 iterate 12 kernel_rfl
 refine qm [3, 35, 36] (beq_eq_false_iff_ne.2 hb14) ?_ ?_
 refine qX 23 ?_ ?_
 apply iR
 apply aR
 refine leafB (b := false) (.inr rfl) (by kernel_rfl) ?_
 rotate_left
 iterate 4 kernel_rfl
 refine qf (beq_eq_false_iff_ne.2 hb13) ?_ ?_
 refine qU 2 [(1, .ptr 0 0), (3, .bool ((t.n) == 0)), (15, .int .i64 (t.kind)), (59, .bool ((t.kind) == 4))] ?_ ?_
 by_cases hb18 : (t.kind) = 4
 refine qt (beq_iff_eq.2 hb18) ?_ ?_
 refine qV 2 ?_ ?_
 by_cases hb19 : (t.n) = 0
 refine qm [3, 61, 62] (beq_iff_eq.2 hb19) ?_ ?_
 refine qr 2 ?_ ?_
 refine qy (o_lenmap (l := t.names) (enc := AVal.str) (by kernel_rfl) ty22) ?_ ?_ ?_
 refine qr 3 ?_ ?_
 by_cases hb20 : ((t.names.length : Nat) : Int) = 0
 refine qm [66, 67, 68] (beq_iff_eq.2 hb20) ?_ ?_
 refine qr 2 ?_ ?_
 refine qy (o_lenmap (l := t.kids) (enc := Ty.enc) (by kernel_rfl) ty23) ?_ ?_ ?_
 refine qX 3 ?_ ?_
 apply iR
 apply aR
 refine leafB (b := (((t.kids.length : Nat) : Int) == 1)) (.inr rfl) (by kernel_rfl) ?_
 by_cases hb21 : ((t.kids.length : Nat) : Int) = 1
 refine Eq.trans (beq_iff_eq.2 hb21) ?_
 rotate_left
 refine Eq.trans (beq_eq_false_iff_ne.2 hb21) ?_
 rotate_left
 iterate 5 kernel_rfl
 refine qm [66, 67, 68] (beq_eq_false_iff_ne.2 hb20) ?_ ?_
 refine qX 6 ?_ ?_
 apply iR
 apply aR
 refine leafB (b := false) (.inr rfl) (by kernel_rfl) ?_
 rotate_left
 iterate 7 kernel_rfl
 refine qm [3, 61, 62] (beq_eq_false_iff_ne.2 hb19) ?_ ?_
 refine qX 12 ?_ ?_
 apply iR
 apply aR
 refine leafB (b := false) (.inr rfl) (by kernel_rfl) ?_
 rotate_left
 iterate 4 kernel_rfl
 refine qf (beq_eq_false_iff_ne.2 hb18) ?_ ?_
 refine qU 2 [(1, .ptr 0 0), (15, .int .i64 (t.kind)), (74, .bool ((t.kind) == 6))] ?_ ?_
 by_cases hb22 : (t.kind) = 6
 refine qt (beq_iff_eq.2 hb22) ?_ ?_
 refine qV 4 ?_ ?_
 refine qm [78, 79] (beq_iff_eq.2 hb1) ?_ ?_
 refine qr 5 ?_ ?_
 by_cases hb24 : (t.n) ≥ 1
 refine qm [82, 83, 84] (decide_eq_true hb24) ?_ ?_
 refine qr 2 ?_ ?_
 refine qy (o_lenmap (l := t.names) (enc := AVal.str) (by kernel_rfl) ty22) ?_ ?_ ?_
 refine qr 2 ?_ ?_
 refine qy (o_lenmap (l := t.kids) (enc := Ty.enc) (by kernel_rfl) ty23) ?_ ?_ ?_
 refine qy (o_add (a := ((t.names.length : Nat) : Int)) (b := ((t.kids.length : Nat) : Int)) (by kernel_rfl) (by first | omega | (simp; done) | (have := sz_names_at t k; omega)) (by first | omega | (simp; done) | (have := sz_names_at t k; omega))) ?_ ?_ ?_
 refine qX 3 ?_ ?_
 apply iR
 apply aR
 refine leafB (b := ((((t.names.length + t.kids.length) : Nat) : Int) == 0)) (.inr rfl) (by kernel_rfl) ?_
 by_cases hb25 : (((t.names.length + t.kids.length) : Nat) : Int) = 0
 refine Eq.trans (beq_iff_eq.2 hb25) ?_
 rotate_left
 refine Eq.trans (beq_eq_false_iff_ne.2 hb25) ?_
 rotate_left
 iterate 10 kernel_rfl
 refine qm [82, 83, 84] (decide_eq_false hb24) ?_ ?_
 refine qX 10 ?_ ?_
 apply iR
 apply aR
 refine leafB (b := false) (.inr rfl) (by kernel_rfl) ?_
 rotate_left
 iterate 6 kernel_rfl
 refine qf (beq_eq_false_iff_ne.2 hb22) ?_ ?_
 refine qU 2 [(1, .ptr 0 0), (94, .bool ((t.kind) == 5))] ?_ ?_
 by_cases hb26 : (t.kind) = 5
 refine qt (beq_iff_eq.2 hb26) ?_ ?_
 refine qSeq ?_ ?_
 refine qV 2 ?_ ?_
 refine qy (o_lenmap (l := t.names) (enc := AVal.str) (by kernel_rfl) ty22) ?_ ?_ ?_
 refine qR 1 [(1, .ptr 0 0), (97, .imm (t.names.map AVal.str)), (98, nI t.names.length), (99, .int .i64 0)] [t.bx] ?_ ?_
 refine qB 1 ?_ ?_ ?_
 refine wLoop (σ := Nat) (fun k => [(1, .ptr 0 0), (97, .imm (t.names.map AVal.str)), (98, .int .i64 ((t.names.length : Nat) : Int)), (99, .int .i64 ((k : Nat) : Int))]) (fun k => [.box [.int .i64 (t.kind), .str t.name, .int .i64 (t.n), .imm (t.names.map AVal.str), .imm (t.kids.map Ty.enc)]]) (fun k => k ≤ t.names.length ∧ ∀ i, i < k → nmAt t.names i = true) (fun k => t.names.length - k) 0 (by kernel_rfl) (by simp) ⟨⟨(by kernel_rfl), (by kernel_rfl), (by kernel_rfl), (by kernel_rfl), trivial⟩, by simp [BelL, AVal.bel], by simp, (by kernel_rfl), by simp [AObj.belO]⟩ ?_
 rintro k ⟨hk, ha⟩
 refine qW 1 [(1, .ptr 0 0), (97, .imm (t.names.map AVal.str)), (98, nI t.names.length), (99, nI k), (100, .bool (decide (((k : Nat) : Int) < ((t.names.length : Nat) : Int))))] [t.bx] ?_ ?_
 refine qSeq ?_ ?_
 by_cases hb27 : ((k : Nat) : Int) < ((t.names.length : Nat) : Int)
 refine qt (decide_eq_true hb27) ?_ ?_
 refine qK ?_ ?_
 refine qz [(1, .ptr 0 0), (97, .imm (t.names.map AVal.str)), (98, nI t.names.length), (99, nI k)] ?_ ?_
 refine qSeq ?_ ?_
 refine qB 2 ?_ ?_ ?_
 refine qV 1 ?_ ?_
 refine qy (o_ixmap (k := .i64) (l := t.names) (enc := AVal.str) (i := ((k : Nat) : Int)) [] (by kernel_rfl) ty22 ty9 (fun _ => rfl) (by first | omega | (simp; done) | (have := sz_names_at t k; omega)) (by first | omega | (simp; done) | (have := sz_names_at t k; omega))) ?_ ?_ ?_
 refine qR 3 [(1, .ptr 0 0), (4, nI k), (5, .str (t.names.getD k [])), (97, .imm (t.names.map AVal.str)), (98, nI t.names.length), (99, nI k)] [t.bx] ?_ ?_
 refine qV 1 ?_ ?_
 refine qc [.str (t.names.getD k [])] (tlower_spec (t.names.getD k []) (by first | omega | (simp; done) | (have := sz_names_at t k; omega))) ?_ ?_
 refine qr 2 ?_ ?_
 by_cases hb28 : (fitsW 2 (t.names.getD k [])) = true
 refine qm [106, 107] (x := (!(fitsW 2 (t.names.getD k [])))) (congrArg not (hb28)) ?_ ?_
 refine qr 3 ?_ ?_
 by_cases hb29 : ((k : Nat) : Int) > 0
 refine qm [109, 110] (decide_eq_true hb29) ?_ ?_
 refine qr 4 ?_ ?_
 refine qy (o_sub (a := ((k : Nat) : Int)) (b := 1) (by kernel_rfl) (by first | omega | (simp; done) | (have := sz_names_at t k; omega)) (by first | omega | (simp; done) | (have := sz_names_at t k; omega))) ?_ ?_ ?_
 refine qy (o_ixmap (k := .i64) (l := t.names) (enc := AVal.str) (i := (((k : Nat) : Int) - 1)) [] (by kernel_rfl) ty22 ty9 (fun _ => rfl) (by first | omega | (simp; done) | (have := sz_names_at t k; omega)) (by first | omega | (simp; done) | (have := sz_names_at t k; omega))) ?_ ?_ ?_
 refine qR 4 [(1, .ptr 0 0), (97, .imm (t.names.map AVal.str)), (98, nI t.names.length), (99, nI k), (108, nI k), (109, .bool true), (110, .bool true), (111, .str (t.names.getD k [])), (112, .ptr 0 3), (113, .imm (t.names.map AVal.str)), (114, nI k), (115, .int .i64 (((k : Nat) : Int) - 1)), (116, .pimm [.str (t.names.getD (((((k : Nat) : Int) - 1)).toNat) [])] 0), (117, .str (t.names.getD (((((k : Nat) : Int) - 1)).toNat) [])), (118, .bool (sLess (t.names.getD k []) (t.names.getD (((((k : Nat) : Int) - 1)).toNat) []) || (t.names.getD k []) == (t.names.getD (((((k : Nat) : Int) - 1)).toNat) []))), (119, .bool (sLess (t.names.getD k []) (t.names.getD (((((k : Nat) : Int) - 1)).toNat) []) || (t.names.getD k []) == (t.names.getD (((((k : Nat) : Int) - 1)).toNat) []))), (120, .bool (sLess (t.names.getD k []) (t.names.getD (((((k : Nat) : Int) - 1)).toNat) []) || (t.names.getD k []) == (t.names.getD (((((k : Nat) : Int) - 1)).toNat) [])))] [t.bx] ?_ ?_
 by_cases hb30 : (sLess (t.names.getD k []) (t.names.getD (((((k : Nat) : Int) - 1)).toNat) []) || (t.names.getD k []) == (t.names.getD (((((k : Nat) : Int) - 1)).toNat) [])) = true
 refine qt (hb30) ?_ ?_
 refine qV 1 ?_ ?_
 refine qT ?_ ?_
 apply iR
 apply aR
 apply aR
 apply iR
 apply aR
 apply iR
 apply aR
 refine leafB (b := false) (.inr rfl) (by kernel_rfl) ?_
 rotate_left
 iterate 3 kernel_rfl
 refine qf (Bool.eq_false_iff.2 hb30) ?_ ?_
 refine qk ?_ ?_
 refine AIn_normal ?_
 refine AThen_normal ?_
 refine qz [(1, .ptr 0 0), (97, .imm (t.names.map AVal.str)), (98, nI t.names.length), (99, nI k), (108, nI k), (109, .bool true), (110, .bool true), (111, .str (t.names.getD k [])), (112, .ptr 0 3), (113, .imm (t.names.map AVal.str)), (114, nI k), (115, .int .i64 (((k : Nat) : Int) - 1)), (116, .pimm [.str (t.names.getD (((((k : Nat) : Int) - 1)).toNat) [])] 0), (117, .str (t.names.getD (((((k : Nat) : Int) - 1)).toNat) [])), (118, .bool (sLess (t.names.getD k []) (t.names.getD (((((k : Nat) : Int) - 1)).toNat) []) || (t.names.getD k []) == (t.names.getD (((((k : Nat) : Int) - 1)).toNat) []))), (119, .bool (sLess (t.names.getD k []) (t.names.getD (((((k : Nat) : Int) - 1)).toNat) []) || (t.names.getD k []) == (t.names.getD (((((k : Nat) : Int) - 1)).toNat) [])))] ?_ ?_
 refine qo ?_ ?_
 refine qy (o_add (a := ((k : Nat) : Int)) (b := 1) (by kernel_rfl) (by first | omega | (simp; done) | (have := sz_names_at t k; omega)) (by first | omega | (simp; done) | (have := sz_names_at t k; omega))) ?_ ?_ ?_
 refine qr 1 ?_ ?_
 refine qe ?_ ?_
 refine AThen_normal ⟨k + 1, ?_, ?_, ⟨⟨(by kernel_rfl), (by kernel_rfl), (by kernel_rfl), (by kernel_rfl), trivial⟩, by simp [BelL, AVal.bel], by simp, (by kernel_rfl), by simp [AObj.belO]⟩⟩
 · omega
 · refine ⟨by omega, fun i hi => ?_⟩
   rcases Nat.lt_succ_iff_lt_or_eq.1 hi with h | h
   · exact ha i h
   · subst h; refine nmAt_true (by assumption) ?_; first | (left; omega) | (right; simp_all [pred_nat, sle_iff]; done)
 iterate 15 kernel_rfl
 refine qm [109, 110] (decide_eq_false hb29) ?_ ?_
 refine qR 10 [(1, .ptr 0 0), (97, .imm (t.names.map AVal.str)), (98, nI t.names.length), (99, nI k), (108, nI k), (109, .bool false), (110, .bool false), (111, .tup []), (112, .tup []), (113, .tup []), (114, .tup []), (115, .tup []), (116, .tup []), (117, .tup []), (118, .tup []), (119, .bool false), (120, .bool false)] [t.bx] ?_ ?_
 refine wIfF (by kernel_rfl) (by kernel_rfl) ?_
 refine qk ?_ ?_
 refine AIn_normal ?_
 refine AThen_normal ?_
 refine qz [(1, .ptr 0 0), (97, .imm (t.names.map AVal.str)), (98, nI t.names.length), (99, nI k), (108, nI k), (109, .bool false), (110, .bool false), (111, .tup []), (112, .tup []), (113, .tup []), (114, .tup []), (115, .tup []), (116, .tup []), (117, .tup []), (118, .tup []), (119, .bool false)] ?_ ?_
 refine qo ?_ ?_
 refine qy (o_add (a := ((k : Nat) : Int)) (b := 1) (by kernel_rfl) (by first | omega | (simp; done) | (have := sz_names_at t k; omega)) (by first | omega | (simp; done) | (have := sz_names_at t k; omega))) ?_ ?_ ?_
 refine qr 1 ?_ ?_
 refine qe ?_ ?_
 refine AThen_normal ⟨k + 1, ?_, ?_, ⟨⟨(by kernel_rfl), (by kernel_rfl), (by kernel_rfl), (by kernel_rfl), trivial⟩, by simp [BelL, AVal.bel], by simp, (by kernel_rfl), by simp [AObj.belO]⟩⟩
 · omega
 · refine ⟨by omega, fun i hi => ?_⟩
   rcases Nat.lt_succ_iff_lt_or_eq.1 hi with h | h
   · exact ha i h
   · subst h; refine nmAt_true (by assumption) ?_; first | (left; omega) | (right; simp_all [pred_nat, sle_iff]; done)
 iterate 11 kernel_rfl
 refine qm [106, 107] (x := (!(fitsW 2 (t.names.getD k [])))) (congrArg not (Bool.eq_false_iff.2 hb28)) ?_ ?_
 refine qR 13 [(1, .ptr 0 0), (97, .imm (t.names.map AVal.str)), (98, nI t.names.length), (99, nI k), (108, .tup []), (109, .tup []), (110, .tup []), (111, .tup []), (112, .tup []), (113, .tup []), (114, .tup []), (115, .tup []), (116, .tup []), (117, .tup []), (118, .tup []), (119, .tup []), (120, .bool true)] [t.bx] ?_ ?_
 refine wIfT (by kernel_rfl) (by kernel_rfl) ?_
 refine qV 1 ?_ ?_
 refine qT ?_ ?_
 apply iR
 apply aR
 apply aR
 apply iR
 apply aR
 apply iR
 apply aR
 refine leafB (b := false) (.inr rfl) (by kernel_rfl) ?_
 rotate_left
 iterate 17 kernel_rfl
 refine qf (decide_eq_false hb27) ?_ ?_
 refine wExit 1 (by kernel_rfl) (by kernel_rfl) ?_
 refine AThen_exit ?_
 refine AThen_exit ?_
 refine AIn_exit ?_
 refine AThen_normal ?_
 refine qz [(1, .ptr 0 0)] ?_ ?_
 refine qV 4 ?_ ?_
 refine qm [124, 125] (beq_iff_eq.2 hb1) ?_ ?_
 refine qr 5 ?_ ?_
 by_cases hb32 : (t.n) ≥ 0
 refine qm [128, 129, 130] (decide_eq_true hb32) ?_ ?_
 refine qr 2 ?_ ?_
 refine qy (o_lenmap (l := t.names) (enc := AVal.str) (by kernel_rfl) ty22) ?_ ?_ ?_
 refine qr 2 ?_ ?_
 refine qy (o_lenmap (l := t.kids) (enc := Ty.enc) (by kernel_rfl) ty23) ?_ ?_ ?_
 refine qX 3 ?_ ?_
 apply iR
 apply aR
 refine leafB (b := (((t.names.length : Nat) : Int) == ((t.kids.length : Nat) : Int))) (.inr rfl) (by kernel_rfl) ?_
 by_cases hb33 : ((t.names.length : Nat) : Int) = ((t.kids.length : Nat) : Int)
 refine Eq.trans (beq_iff_eq.2 hb33) ?_
 rotate_left
 refine Eq.trans (beq_eq_false_iff_ne.2 hb33) ?_
 rotate_left
 iterate 8 kernel_rfl
 refine qm [128, 129, 130] (decide_eq_false hb32) ?_ ?_
 refine qX 9 ?_ ?_
 apply iR
 apply aR
 refine leafB (b := false) (.inr rfl) (by kernel_rfl) ?_
 rotate_left
 iterate 17 kernel_rfl
 refine qf (beq_eq_false_iff_ne.2 hb26) ?_ ?_
 refine qk ?_ ?_
 refine AIn_normal ?_
 refine AThen_normal ?_
 refine qz [] ?_ ?_
 refine qV 1 ?_ ?_
 refine qT ?_ ?_
 refine leafB (b := false) (.inr rfl) (by kernel_rfl) ?_
 rotate_left
 iterate 26 kernel_rfl
 refine qm [8, 9] (beq_eq_false_iff_ne.2 hb1) ?_ ?_
 refine qR 5 [(1, .ptr 0 0), (3, .bool false)] [t.bx] ?_ ?_
 refine qSeq ?_ ?_
 refine qU 2 [(1, .ptr 0 0), (3, .bool false), (15, .int .i64 (t.kind))] ?_ ?_
 refine qB 0 ?_ ?_ ?_
 refine qSeq ?_ ?_
 refine qU 2 [(1, .ptr 0 0), (3, .bool false), (15, .int .i64 (t.kind)), (16, .bool ((t.kind) == 0))] ?_ ?_
 by_cases hb34 : (t.kind) = 0
 refine qt (beq_iff_eq.2 hb34) ?_ ?_
 refine qK ?_ ?_
 refine qz [(1, .ptr 0 0), (3, .bool false), (15, .int .i64 (t.kind)), (16, .bool ((t.kind) == 0))] ?_ ?_
 refine qt (beq_iff_eq.2 hb34) ?_ ?_
 refine qV 12 ?_ ?_
 refine qT ?_ ?_
 apply iR
 apply aR
 refine leafB (b := false) (.inr rfl) (by kernel_rfl) ?_
 rotate_left
 iterate 6 kernel_rfl
 refine qf (beq_eq_false_iff_ne.2 hb34) ?_ ?_
 refine qU 2 [(1, .ptr 0 0), (3, .bool false), (15, .int .i64 (t.kind)), (16, .bool ((t.kind) == 1))] ?_ ?_
 by_cases hb36 : (t.kind) = 1
 refine qt (beq_iff_eq.2 hb36) ?_ ?_
 refine qK ?_ ?_
 refine qz [(1, .ptr 0 0), (3, .bool false), (15, .int .i64 (t.kind)), (16, .bool ((t.kind) == 1))] ?_ ?_
 refine qt (beq_iff_eq.2 hb36) ?_ ?_
 refine qV 12 ?_ ?_
 refine qT ?_ ?_
 apply iR
 apply aR
 refine leafB (b := false) (.inr rfl) (by kernel_rfl) ?_
 rotate_left
 iterate 6 kernel_rfl
 refine qf (beq_eq_false_iff_ne.2 hb36) ?_ ?_
 refine qo ?_ ?_
 refine qR 2 [(1, .ptr 0 0), (3, .bool false), (15, .int .i64 (t.kind)), (16, .bool ((t.kind) == 2))] [t.bx] ?_ ?_
 by_cases hb38 : (t.kind) = 2
 refine qt (beq_iff_eq.2 hb38) ?_ ?_
 refine qV 12 ?_ ?_
 refine qT ?_ ?_
 apply iR
 apply aR
 refine leafB (b := false) (.inr rfl) (by kernel_rfl) ?_
 rotate_left
 iterate 3 kernel_rfl
 refine qf (beq_eq_false_iff_ne.2 hb38) ?_ ?_
 refine qU 2 [(1, .ptr 0 0), (3, .bool false), (15, .int .i64 (t.kind)), (31, .bool ((t.kind) == 3))] ?_ ?_
 by_cases hb39 : (t.kind) = 3
 refine qt (beq_iff_eq.2 hb39) ?_ ?_
 refine qV 4 ?_ ?_
 by_cases hb40 : (t.n) = 0
 refine qm [35, 36] (beq_iff_eq.2 hb40) ?_ ?_
 refine qr 2 ?_ ?_
 refine qy (o_lenmap (l := t.names) (enc := AVal.str) (by kernel_rfl) ty22) ?_ ?_ ?_
 refine qr 2 ?_ ?_
 refine qy (o_lenmap (l := t.kids) (enc := Ty.enc) (by kernel_rfl) ty23) ?_ ?_ ?_
 refine qy (o_add (a := ((t.names.length : Nat) : Int)) (b := ((t.kids.length : Nat) : Int)) (by kernel_rfl) (by first | omega | (simp; done) | (have := sz_names_at t k; omega)) (by first | omega | (simp; done) | (have := sz_names_at t k; omega))) ?_ ?_ ?_
 refine qr 3 ?_ ?_
 by_cases hb41 : (((t.names.length + t.kids.length) : Nat) : Int) = 0
 refine qm [44, 45, 46] (beq_iff_eq.2 hb41) ?_ ?_
 refine qr 3 ?_ ?_
 refine qc [.full [.str [73, 110, 116], .str [84, 101, 120, 116], .str [66, 111, 111, 108]], .str t.name] (slContains_spec [[73, 110, 116], [84, 101, 120, 116], [66, 111, 111, 108]] t.name (by first | omega | (simp; done) | (have := sz_names_at t k; omega))) ?_ ?_
 refine qr 3 ?_ ?_
 by_cases hb42 : ([[73, 110, 116], [84, 101, 120, 116], [66, 111, 111, 108]].contains t.name) = true
 refine qm [51, 52, 53] (x := (!([[73, 110, 116], [84, 101, 120, 116], [66, 111, 111, 108]].contains t.name))) (congrArg not (hb42)) ?_ ?_
 refine qX 6 ?_ ?_
 apply iR
 apply aR
 refine leafB (b := false) (.inr rfl) (by kernel_rfl) ?_
 rotate_left
 iterate 2 kernel_rfl
 refine qm [51, 52, 53] (x := (!([[73, 110, 116], [84, 101, 120, 116], [66, 111, 111, 108]].contains t.name))) (congrArg not (Bool.eq_false_iff.2 hb42)) ?_ ?_
 refine qr 3 ?_ ?_
 refine qc [.agg [.int .i64 3, .str t.name, .int .i64 0]] (fits3_spec t.name (by first | omega | (simp; done) | (have := sz_names_at t k; omega))) ?_ ?_
 refine qX 2 ?_ ?_
 apply iR
 apply aR
 refine leafB (b := (fitsW 3 t.name)) (.inr rfl) (by kernel_rfl) ?_
 by_cases hb43 : (fitsW 3 t.name) = true
 refine Eq.trans (hb43) ?_
 rotate_left
 refine Eq.trans (Bool.eq_false_iff.2 hb43) ?_
 rotate_left
 iterate 8 kernel_rfl
 refine qm [44, 45, 46] (beq_eq_false_iff_ne.2 hb41) ?_ ?_
 refine qX 13 ?_ ?_
 apply iR
 apply aR
 refine leafB (b := false) (.inr rfl) (by kernel_rfl) ?_
 rotate_left
 iterate 12 kernel_rfl
 refine qm [35, 36] (beq_eq_false_iff_ne.2 hb40) ?_ ?_
 refine qX 23 ?_ ?_
 apply iR
 apply aR
 refine leafB (b := false) (.inr rfl) (by kernel_rfl) ?_
 rotate_left
 iterate 4 kernel_rfl
 refine qf (beq_eq_false_iff_ne.2 hb39) ?_ ?_
 refine qU 2 [(1, .ptr 0 0), (3, .bool false), (15, .int .i64 (t.kind)), (59, .bool ((t.kind) == 4))] ?_ ?_
 by_cases hb44 : (t.kind) = 4
 refine qt (beq_iff_eq.2 hb44) ?_ ?_
 refine qV 14 ?_ ?_
 refine qT ?_ ?_
 apply iR
 apply aR
 refine leafB (b := false) (.inr rfl) (by kernel_rfl) ?_
 rotate_left
 iterate 3 kernel_rfl
 refine qf (beq_eq_false_iff_ne.2 hb44) ?_ ?_
 refine qU 2 [(1, .ptr 0 0), (15, .int .i64 (t.kind)), (74, .bool ((t.kind) == 6))] ?_ ?_
 by_cases hb45 : (t.kind) = 6
 refine qt (beq_iff_eq.2 hb45) ?_ ?_
 refine qV 4 ?_ ?_
 refine qm [78, 79] (beq_eq_false_iff_ne.2 hb1) ?_ ?_
 refine qX 15 ?_ ?_
 apply iR
 apply aR
 refine leafB (b := false) (.inr rfl) (by kernel_rfl) ?_
 rotate_left
 iterate 4 kernel_rfl
 refine qf (beq_eq_false_iff_ne.2 hb45) ?_ ?_
 refine qU 2 [(1, .ptr 0 0), (94, .bool ((t.kind) == 5))] ?_ ?_
 by_cases hb47 : (t.kind) = 5
 refine qt (beq_iff_eq.2 hb47) ?_ ?_
 refine qSeq ?_ ?_
 refine qV 2 ?_ ?_
 refine qy (o_lenmap (l := t.names) (enc := AVal.str) (by kernel_rfl) ty22) ?_ ?_ ?_
 refine qR 1 [(1, .ptr 0 0), (97, .imm (t.names.map AVal.str)), (98, nI t.names.length), (99, .int .i64 0)] [t.bx] ?_ ?_
 refine qB 1 ?_ ?_ ?_
 refine wLoop (σ := Nat) (fun k => [(1, .ptr 0 0), (97, .imm (t.names.map AVal.str)), (98, .int .i64 ((t.names.length : Nat) : Int)), (99, .int .i64 ((k : Nat) : Int))]) (fun k => [.box [.int .i64 (t.kind), .str t.name, .int .i64 (t.n), .imm (t.names.map AVal.str), .imm (t.kids.map Ty.enc)]]) (fun k => k ≤ t.names.length ∧ ∀ i, i < k → nmAt t.names i = true) (fun k => t.names.length - k) 0 (by kernel_rfl) (by simp) ⟨⟨(by kernel_rfl), (by kernel_rfl), (by kernel_rfl), (by kernel_rfl), trivial⟩, by simp [BelL, AVal.bel], by simp, (by kernel_rfl), by simp [AObj.belO]⟩ ?_
 rintro k ⟨hk, ha⟩
 refine qW 1 [(1, .ptr 0 0), (97, .imm (t.names.map AVal.str)), (98, nI t.names.length), (99, nI k), (100, .bool (decide (((k : Nat) : Int) < ((t.names.length : Nat) : Int))))] [t.bx] ?_ ?_
 refine qSeq ?_ ?_
 by_cases hb48 : ((k : Nat) : Int) < ((t.names.length : Nat) : Int)
 refine qt (decide_eq_true hb48) ?_ ?_
 refine qK ?_ ?_
 refine qz [(1, .ptr 0 0), (97, .imm (t.names.map AVal.str)), (98, nI t.names.length), (99, nI k)] ?_ ?_
 refine qSeq ?_ ?_
 refine qB 2 ?_ ?_ ?_
 refine qV 1 ?_ ?_
 refine qy (o_ixmap (k := .i64) (l := t.names) (enc := AVal.str) (i := ((k : Nat) : Int)) [] (by kernel_rfl) ty22 ty9 (fun _ => rfl) (by first | omega | (simp; done) | (have := sz_names_at t k; omega)) (by first | omega | (simp; done) | (have := sz_names_at t k; omega))) ?_ ?_ ?_
 refine qR 3 [(1, .ptr 0 0), (4, nI k), (5, .str (t.names.getD k [])), (97, .imm (t.names.map AVal.str)), (98, nI t.names.length), (99, nI k)] [t.bx] ?_ ?_
 refine qV 1 ?_ ?_
 refine qc [.str (t.names.getD k [])] (tlower_spec (t.names.getD k []) (by first | omega | (simp; done) | (have := sz_names_at t k; omega))) ?_ ?_
 refine qr 2 ?_ ?_
 by_cases hb49 : (fitsW 2 (t.names.getD k [])) = true
 refine qm [106, 107] (x := (!(fitsW 2 (t.names.getD k [])))) (congrArg not (hb49)) ?_ ?_
 refine qr 3 ?_ ?_
 by_cases hb50 : ((k : Nat) : Int) > 0
 refine qm [109, 110] (decide_eq_true hb50) ?_ ?_
 refine qr 4 ?_ ?_
 refine qy (o_sub (a := ((k : Nat) : Int)) (b := 1) (by kernel_rfl) (by first | omega | (simp; done) | (have := sz_names_at t k; omega)) (by first | omega | (simp; done) | (have := sz_names_at t k; omega))) ?_ ?_ ?_
 refine qy (o_ixmap (k := .i64) (l := t.names) (enc := AVal.str) (i := (((k : Nat) : Int) - 1)) [] (by kernel_rfl) ty22 ty9 (fun _ => rfl) (by first | omega | (simp; done) | (have := sz_names_at t k; omega)) (by first | omega | (simp; done) | (have := sz_names_at t k; omega))) ?_ ?_ ?_
 refine qR 4 [(1, .ptr 0 0), (97, .imm (t.names.map AVal.str)), (98, nI t.names.length), (99, nI k), (108, nI k), (109, .bool true), (110, .bool true), (111, .str (t.names.getD k [])), (112, .ptr 0 3), (113, .imm (t.names.map AVal.str)), (114, nI k), (115, .int .i64 (((k : Nat) : Int) - 1)), (116, .pimm [.str (t.names.getD (((((k : Nat) : Int) - 1)).toNat) [])] 0), (117, .str (t.names.getD (((((k : Nat) : Int) - 1)).toNat) [])), (118, .bool (sLess (t.names.getD k []) (t.names.getD (((((k : Nat) : Int) - 1)).toNat) []) || (t.names.getD k []) == (t.names.getD (((((k : Nat) : Int) - 1)).toNat) []))), (119, .bool (sLess (t.names.getD k []) (t.names.getD (((((k : Nat) : Int) - 1)).toNat) []) || (t.names.getD k []) == (t.names.getD (((((k : Nat) : Int) - 1)).toNat) []))), (120, .bool (sLess (t.names.getD k []) (t.names.getD (((((k : Nat) : Int) - 1)).toNat) []) || (t.names.getD k []) == (t.names.getD (((((k : Nat) : Int) - 1)).toNat) [])))] [t.bx] ?_ ?_
 by_cases hb51 : (sLess (t.names.getD k []) (t.names.getD (((((k : Nat) : Int) - 1)).toNat) []) || (t.names.getD k []) == (t.names.getD (((((k : Nat) : Int) - 1)).toNat) [])) = true
 refine qt (hb51) ?_ ?_
 refine qV 1 ?_ ?_
 refine qT ?_ ?_
 apply iR
 apply aR
 apply aR
 apply iR
 apply aR
 apply iR
 apply aR
 refine leafB (b := false) (.inr rfl) (by kernel_rfl) ?_
 rotate_left
 iterate 3 kernel_rfl
 refine qf (Bool.eq_false_iff.2 hb51) ?_ ?_
 refine qk ?_ ?_
 refine AIn_normal ?_
 refine AThen_normal ?_
 refine qz [(1, .ptr 0 0), (97, .imm (t.names.map AVal.str)), (98, nI t.names.length), (99, nI k), (108, nI k), (109, .bool true), (110, .bool true), (111, .str (t.names.getD k [])), (112, .ptr 0 3), (113, .imm (t.names.map AVal.str)), (114, nI k), (115, .int .i64 (((k : Nat) : Int) - 1)), (116, .pimm [.str (t.names.getD (((((k : Nat) : Int) - 1)).toNat) [])] 0), (117, .str (t.names.getD (((((k : Nat) : Int) - 1)).toNat) [])), (118, .bool (sLess (t.names.getD k []) (t.names.getD (((((k : Nat) : Int) - 1)).toNat) []) || (t.names.getD k []) == (t.names.getD (((((k : Nat) : Int) - 1)).toNat) []))), (119, .bool (sLess (t.names.getD k []) (t.names.getD (((((k : Nat) : Int) - 1)).toNat) []) || (t.names.getD k []) == (t.names.getD (((((k : Nat) : Int) - 1)).toNat) [])))] ?_ ?_
 refine qo ?_ ?_
 refine qy (o_add (a := ((k : Nat) : Int)) (b := 1) (by kernel_rfl) (by first | omega | (simp; done) | (have := sz_names_at t k; omega)) (by first | omega | (simp; done) | (have := sz_names_at t k; omega))) ?_ ?_ ?_
 refine qr 1 ?_ ?_
 refine qe ?_ ?_
 refine AThen_normal ⟨k + 1, ?_, ?_, ⟨⟨(by kernel_rfl), (by kernel_rfl), (by kernel_rfl), (by kernel_rfl), trivial⟩, by simp [BelL, AVal.bel], by simp, (by kernel_rfl), by simp [AObj.belO]⟩⟩
 · omega
 · refine ⟨by omega, fun i hi => ?_⟩
   rcases Nat.lt_succ_iff_lt_or_eq.1 hi with h | h
   · exact ha i h
   · subst h; refine nmAt_true (by assumption) ?_; first | (left; omega) | (right; simp_all [pred_nat, sle_iff]; done)
 iterate 15 kernel_rfl
 refine qm [109, 110] (decide_eq_false hb50) ?_ ?_
 refine qR 10 [(1, .ptr 0 0), (97, .imm (t.names.map AVal.str)), (98, nI t.names.length), (99, nI k), (108, nI k), (109, .bool false), (110, .bool false), (111, .tup []), (112, .tup []), (113, .tup []), (114, .tup []), (115, .tup []), (116, .tup []), (117, .tup []), (118, .tup []), (119, .bool false), (120, .bool false)] [t.bx] ?_ ?_
 refine wIfF (by kernel_rfl) (by kernel_rfl) ?_
 refine qk ?_ ?_
 refine AIn_normal ?_
 refine AThen_normal ?_
 refine qz [(1, .ptr 0 0), (97, .imm (t.names.map AVal.str)), (98, nI t.names.length), (99, nI k), (108, nI k), (109, .bool false), (110, .bool false), (111, .tup []), (112, .tup []), (113, .tup []), (114, .tup []), (115, .tup []), (116, .tup []), (117, .tup []), (118, .tup []), (119, .bool false)] ?_ ?_
 refine qo ?_ ?_
 refine qy (o_add (a := ((k : Nat) : Int)) (b := 1) (by kernel_rfl) (by first | omega | (simp; done) | (have := sz_names_at t k; omega)) (by first | omega | (simp; done) | (have := sz_names_at t k; omega))) ?_ ?_ ?_
 refine qr 1 ?_ ?_
 refine qe ?_ ?_
 refine AThen_normal ⟨k + 1, ?_, ?_, ⟨⟨(by kernel_rfl), (by kernel_rfl), (by kernel_rfl), (by kernel_rfl), trivial⟩, by simp [BelL, AVal.bel], by simp, (by kernel_rfl), by simp [AObj.belO]⟩⟩
 · omega
 · refine ⟨by omega, fun i hi => ?_⟩
   rcases Nat.lt_succ_iff_lt_or_eq.1 hi with h | h
   · exact ha i h
   · subst h; refine nmAt_true (by assumption) ?_; first | (left; omega) | (right; simp_all [pred_nat, sle_iff]; done)
 iterate 11 kernel_rfl
 refine qm [106, 107] (x := (!(fitsW 2 (t.names.getD k [])))) (congrArg not (Bool.eq_false_iff.2 hb49)) ?_ ?_
 refine qR 13 [(1, .ptr 0 0), (97, .imm (t.names.map AVal.str)), (98, nI t.names.length), (99, nI k), (108, .tup []), (109, .tup []), (110, .tup []), (111, .tup []), (112, .tup []), (113, .tup []), (114, .tup []), (115, .tup []), (116, .tup []), (117, .tup []), (118, .tup []), (119, .tup []), (120, .bool true)] [t.bx] ?_ ?_
 refine wIfT (by kernel_rfl) (by kernel_rfl) ?_
 refine qV 1 ?_ ?_
 refine qT ?_ ?_
 apply iR
 apply aR
 apply aR
 apply iR
 apply aR
 apply iR
 apply aR
 refine leafB (b := false) (.inr rfl) (by kernel_rfl) ?_
 rotate_left
 iterate 17 kernel_rfl
 refine qf (decide_eq_false hb48) ?_ ?_
 refine wExit 1 (by kernel_rfl) (by kernel_rfl) ?_
 refine AThen_exit ?_
 refine AThen_exit ?_
 refine AIn_exit ?_
 refine AThen_normal ?_
 refine qz [(1, .ptr 0 0)] ?_ ?_
 refine qV 4 ?_ ?_
 refine qm [124, 125] (beq_eq_false_iff_ne.2 hb1) ?_ ?_
 refine qX 14 ?_ ?_
 apply iR
 apply aR
 refine leafB (b := false) (.inr rfl) (by kernel_rfl) ?_
 rotate_left
 iterate 15 kernel_rfl
 refine qf (beq_eq_false_iff_ne.2 hb47) ?_ ?_
 refine qk ?_ ?_
 refine AIn_normal ?_
 refine AThen_normal ?_
 refine qz [] ?_ ?_
 refine qV 1 ?_ ?_
 refine qT ?_ ?_
 refine leafB (b := false) (.inr rfl) (by kernel_rfl) ?_
 rotate_left
 iterate 29 kernel_rfl
 all_goals
  first | rw [fmd_x (by omega)] | (first | rw [fmd_0 (by omega)] | rw [fmd_3 (by omega)] | rw [fmd_4 (by omega)] | rw [fmd_6 (by omega)] | rw [fmd_5 (by omega)])
  all_goals symm
  all_goals (first | (refine decide_eq_true ⟨?_, ?_, ?_, ?_⟩ <;> (first | assumption | omega | exact upN_t (by assumption) (by assumption) | exact nm_end ha (by omega))) | (refine decide_eq_false ?_; rintro ⟨q1, q2, q3, q4⟩; (first | contradiction | omega | exact upN_f1 (by assumption) (by assumption) | exact upN_f2 (by assumption) (by assumption) | exact nm_low (l := t.names) k (by omega) (by assumption) (by assumption) | exact nm_ord1 (l := t.names) k (by omega) (by omega) (by assumption) (by assumption) | exact nm_ord2 (l := t.names) k (by omega) (by omega) (by assumption) (by assumption))))
noncomputable def c74 : Code := bodyOf Tryz.f74
theorem rformed_spec (t : Ty) (hs : t.sz < 100000000) : CallsP cx 74 [Ty.v t] (.bool (fmd t)) := by
 have hz1 := sz_names t
 have hz2 := sz_kids t
 have hz3 := sz_name t
 refine func_intro (cx := cx) 135 0 [(ResultVar.tmp 2)] Tryz.func74 rfl rfl rfl rfl rfl (by simp) ?_
 show wpA cx 135 0 (at_ c74 []) _ _ _
 refine qZ [(0, Ty.v t)] [] ?_ ?_
 refine qW 2 [(1, .ptr 0 0)] [t.bx] ?_ ?_
 refine qV 2 ?_ ?_
 refine qy (o_lenmap (l := t.names) (enc := AVal.str) (by kernel_rfl) ty22) ?_ ?_ ?_
 refine qr 2 ?_ ?_
 by_cases hb1 : ((t.names.length : Nat) : Int) = 0
 refine qm [10, 11] (beq_iff_eq.2 hb1) ?_ ?_
 refine qr 2 ?_ ?_
 refine qy (o_lenmap (l := t.kids) (enc := Ty.enc) (by kernel_rfl) ty23) ?_ ?_ ?_
 refine qR 3 [(1, .ptr 0 0), (3, .bool (((t.kids.length : Nat) : Int) == 0))] [t.bx] ?_ ?_
 refine qSeq ?_ ?_
 refine qU 2 [(1, .ptr 0 0), (3, .bool (((t.kids.length : Nat) : Int) == 0)), (18, .int .i64 (t.kind))] ?_ ?_
 refine qB 0 ?_ ?_ ?_
 refine qSeq ?_ ?_
 refine qU 2 [(1, .ptr 0 0), (3, .bool (((t.kids.length : Nat) : Int) == 0)), (18, .int .i64 (t.kind)), (19, .bool ((t.kind) == 0))] ?_ ?_
 by_cases hb2 : (t.kind) = 0
 refine qt (beq_iff_eq.2 hb2) ?_ ?_
 refine qK ?_ ?_
 refine qz [(1, .ptr 0 0), (3, .bool (((t.kids.length : Nat) : Int) == 0)), (18, .int .i64 (t.kind)), (19, .bool ((t.kind) == 0))] ?_ ?_
 refine qt (beq_iff_eq.2 hb2) ?_ ?_
 refine qV 2 ?_ ?_
 by_cases hb4 : ((t.kids.length : Nat) : Int) = 0
 refine qm [3, 23, 24] (beq_iff_eq.2 hb4) ?_ ?_
 refine qr 5 ?_ ?_
 by_cases hb5 : t.name = []
 refine qm [27, 28, 29] (beq_iff_eq.2 hb5) ?_ ?_
 refine qX 5 ?_ ?_
 apply iR
 apply aR
 refine leafB (b := ((t.n) == 0)) (.inr rfl) (by kernel_rfl) ?_
 by_cases hb6 : (t.n) = 0
 refine Eq.trans (beq_iff_eq.2 hb6) ?_
 rotate_left
 refine Eq.trans (beq_eq_false_iff_ne.2 hb6) ?_
 rotate_left
 iterate 2 kernel_rfl
 refine qm [27, 28, 29] (beq_eq_false_iff_ne.2 hb5) ?_ ?_
 refine qX 5 ?_ ?_
 apply iR
 apply aR
 refine leafB (b := false) (.inr rfl) (by kernel_rfl) ?_
 rotate_left
 iterate 4 kernel_rfl
 refine qm [3, 23, 24] (beq_eq_false_iff_ne.2 hb4) ?_ ?_
 refine qX 10 ?_ ?_
 apply iR
 apply aR
 refine leafB (b := false) (.inr rfl) (by kernel_rfl) ?_
 rotate_left
 iterate 7 kernel_rfl
 refine qf (beq_eq_false_iff_ne.2 hb2) ?_ ?_
 refine qU 2 [(1, .ptr 0 0), (3, .bool (((t.kids.length : Nat) : Int) == 0)), (18, .int .i64 (t.kind)), (19, .bool ((t.kind) == 1))] ?_ ?_
 by_cases hb7 : (t.kind) = 1
 refine qt (beq_iff_eq.2 hb7) ?_ ?_
 refine qK ?_ ?_
 refine qz [(1, .ptr 0 0), (3, .bool (((t.kids.length : Nat) : Int) == 0)), (18, .int .i64 (t.kind)), (19, .bool ((t.kind) == 1))] ?_ ?_
 refine qt (beq_iff_eq.2 hb7) ?_ ?_
 refine qV 2 ?_ ?_
 by_cases hb9 : ((t.kids.length : Nat) : Int) = 0
 refine qm [3, 23, 24] (beq_iff_eq.2 hb9) ?_ ?_
 refine qr 5 ?_ ?_
 by_cases hb10 : t.name = []
 refine qm [27, 28, 29] (beq_iff_eq.2 hb10) ?_ ?_
 refine qX 5 ?_ ?_
 apply iR
 apply aR
 refine leafB (b := ((t.n) == 0)) (.inr rfl) (by kernel_rfl) ?_
 by_cases hb11 : (t.n) = 0
 refine Eq.trans (beq_iff_eq.2 hb11) ?_
 rotate_left
 refine Eq.trans (beq_eq_false_iff_ne.2 hb11) ?_
 rotate_left
 iterate 2 kernel_rfl
 refine qm [27, 28, 29] (beq_eq_false_iff_ne.2 hb10) ?_ ?_
 refine qX 5 ?_ ?_
 apply iR
 apply aR
 refine leafB (b := false) (.inr rfl) (by kernel_rfl) ?_
 rotate_left
 iterate 4 kernel_rfl
 refine qm [3, 23, 24] (beq_eq_false_iff_ne.2 hb9) ?_ ?_
 refine qX 10 ?_ ?_
 apply iR
 apply aR
 refine leafB (b := false) (.inr rfl) (by kernel_rfl) ?_
 rotate_left
 iterate 7 kernel_rfl
 refine qf (beq_eq_false_iff_ne.2 hb7) ?_ ?_
 refine qo ?_ ?_
 refine qR 2 [(1, .ptr 0 0), (3, .bool (((t.kids.length : Nat) : Int) == 0)), (18, .int .i64 (t.kind)), (19, .bool ((t.kind) == 2))] [t.bx] ?_ ?_
 by_cases hb12 : (t.kind) = 2
 refine qt (beq_iff_eq.2 hb12) ?_ ?_
 refine qV 2 ?_ ?_
 by_cases hb13 : ((t.kids.length : Nat) : Int) = 0
 refine qm [3, 23, 24] (beq_iff_eq.2 hb13) ?_ ?_
 refine qr 5 ?_ ?_
 by_cases hb14 : t.name = []
 refine qm [27, 28, 29] (beq_iff_eq.2 hb14) ?_ ?_
 refine qX 5 ?_ ?_
 apply iR
 apply aR
 refine leafB (b := ((t.n) == 0)) (.inr rfl) (by kernel_rfl) ?_
 by_cases hb15 : (t.n) = 0
 refine Eq.trans (beq_iff_eq.2 hb15) ?_
 rotate_left
 refine Eq.trans (beq_eq_false_iff_ne.2 hb15) ?_
 rotate_left
 iterate 2 kernel_rfl
 refine qm [27, 28, 29] (beq_eq_false_iff_ne.2 hb14) ?_ ?_
 refine qX 5 ?_ ?_
 apply iR
 apply aR
 refine leafB (b := false) (.inr rfl) (by kernel_rfl) ?_
 rotate_left
 iterate 4 kernel_rfl
 refine qm [3, 23, 24] (beq_eq_false_iff_ne.2 hb13) ?_ ?_
 refine qX 10 ?_ ?_
 apply iR
 apply aR
 refine leafB (b := false) (.inr rfl) (by kernel_rfl) ?_
 rotate_left
 iterate 4 kernel_rfl
 refine qf (beq_eq_false_iff_ne.2 hb12) ?_ ?_
 refine qU 2 [(1, .ptr 0 0), (3, .bool (((t.kids.length : Nat) : Int) == 0)), (18, .int .i64 (t.kind)), (34, .bool ((t.kind) == 3))] ?_ ?_
 by_cases hb16 : (t.kind) = 3
 refine qt (beq_iff_eq.2 hb16) ?_ ?_
 refine qV 2 ?_ ?_
 refine qc [.str t.name] (rupper_spec t.name (by first | omega | (simp; done) | (have := sz_names_at t k; omega))) ?_ ?_
 refine qR 1 [(1, .ptr 0 0), (3, .bool (((t.kids.length : Nat) : Int) == 0)), (4, .bool (upN t.name))] [t.bx] ?_ ?_
 refine qV 2 ?_ ?_
 by_cases hb17 : ((t.kids.length : Nat) : Int) = 0
 refine qm [3, 39, 40] (beq_iff_eq.2 hb17) ?_ ?_
 refine qr 3 ?_ ?_
 by_cases hb18 : (upN t.name) = true
 refine qm [4, 41, 42, 43] (hb18) ?_ ?_
 refine qX 5 ?_ ?_
 apply iR
 apply aR
 refine leafB (b := ((t.n) == 0)) (.inr rfl) (by kernel_rfl) ?_
 by_cases hb19 : (t.n) = 0
 refine Eq.trans (beq_iff_eq.2 hb19) ?_
 rotate_left
 refine Eq.trans (beq_eq_false_iff_ne.2 hb19) ?_
 rotate_left
 iterate 2 kernel_rfl
 refine qm [4, 41, 42, 43] (Bool.eq_false_iff.2 hb18) ?_ ?_
 refine qX 5 ?_ ?_
 apply iR
 apply aR
 refine leafB (b := false) (.inr rfl) (by kernel_rfl) ?_
 rotate_left
 iterate 4 kernel_rfl
 refine qm [3, 39, 40] (beq_eq_false_iff_ne.2 hb17) ?_ ?_
 refine qX 8 ?_ ?_
 apply iR
 apply aR
 refine leafB (b := false) (.inr rfl) (by kernel_rfl) ?_
 rotate_left
 iterate 7 kernel_rfl
 refine qf (beq_eq_false_iff_ne.2 hb16) ?_ ?_
 refine qU 2 [(1, .ptr 0 0), (3, .bool (((t.kids.length : Nat) : Int) == 0)), (18, .int .i64 (t.kind)), (48, .bool ((t.kind) == 4))] ?_ ?_
 by_cases hb20 : (t.kind) = 4
 refine qt (beq_iff_eq.2 hb20) ?_ ?_
 refine qV 4 ?_ ?_
 by_cases hb21 : t.name = []
 refine qm [52, 53] (beq_iff_eq.2 hb21) ?_ ?_
 refine qr 5 ?_ ?_
 by_cases hb22 : (t.n) = 0
 refine qm [56, 57, 58] (beq_iff_eq.2 hb22) ?_ ?_
 refine qr 2 ?_ ?_
 refine qy (o_lenmap (l := t.names) (enc := AVal.str) (by kernel_rfl) ty22) ?_ ?_ ?_
 refine qr 3 ?_ ?_
 refine qm [62, 63, 64] (beq_iff_eq.2 hb1) ?_ ?_
 refine qr 2 ?_ ?_
 refine qy (o_lenmap (l := t.kids) (enc := Ty.enc) (by kernel_rfl) ty23) ?_ ?_ ?_
 refine qX 3 ?_ ?_
 apply iR
 apply aR
 refine leafB (b := (((t.kids.length : Nat) : Int) == 1)) (.inr rfl) (by kernel_rfl) ?_
 by_cases hb24 : ((t.kids.length : Nat) : Int) = 1
 refine Eq.trans (beq_iff_eq.2 hb24) ?_
 rotate_left
 refine Eq.trans (beq_eq_false_iff_ne.2 hb24) ?_
 rotate_left
 iterate 10 kernel_rfl
 refine qm [56, 57, 58] (beq_eq_false_iff_ne.2 hb22) ?_ ?_
 refine qX 12 ?_ ?_
 apply iR
 apply aR
 refine leafB (b := false) (.inr rfl) (by kernel_rfl) ?_
 rotate_left
 iterate 4 kernel_rfl
 refine qm [52, 53] (beq_eq_false_iff_ne.2 hb21) ?_ ?_
 refine qX 17 ?_ ?_
 apply iR
 apply aR
 refine leafB (b := false) (.inr rfl) (by kernel_rfl) ?_
 rotate_left
 iterate 4 kernel_rfl
 refine qf (beq_eq_false_iff_ne.2 hb20) ?_ ?_
 refine qU 2 [(1, .ptr 0 0), (3, .bool (((t.kids.length : Nat) : Int) == 0)), (18, .int .i64 (t.kind)), (70, .bool ((t.kind) == 6))] ?_ ?_
 by_cases hb25 : (t.kind) = 6
 refine qt (beq_iff_eq.2 hb25) ?_ ?_
 refine qV 2 ?_ ?_
 by_cases hb26 : ((t.kids.length : Nat) : Int) = 0
 refine qm [3, 72, 73] (beq_iff_eq.2 hb26) ?_ ?_
 refine qr 5 ?_ ?_
 by_cases hb27 : t.name = []
 refine qm [76, 77, 78] (beq_iff_eq.2 hb27) ?_ ?_
 refine qX 5 ?_ ?_
 apply iR
 apply aR
 refine leafB (b := (decide ((t.n) > 0))) (.inr rfl) (by kernel_rfl) ?_
 by_cases hb28 : (t.n) > 0
 refine Eq.trans (decide_eq_true hb28) ?_
 rotate_left
 refine Eq.trans (decide_eq_false hb28) ?_
 rotate_left
 iterate 2 kernel_rfl
 refine qm [76, 77, 78] (beq_eq_false_iff_ne.2 hb27) ?_ ?_
 refine qX 5 ?_ ?_
 apply iR
 apply aR
 refine leafB (b := false) (.inr rfl) (by kernel_rfl) ?_
 rotate_left
 iterate 4 kernel_rfl
 refine qm [3, 72, 73] (beq_eq_false_iff_ne.2 hb26) ?_ ?_
 refine qX 10 ?_ ?_
 apply iR
 apply aR
 refine leafB (b := false) (.inr rfl) (by kernel_rfl) ?_
 rotate_left
 iterate 4 kernel_rfl
 refine qf (beq_eq_false_iff_ne.2 hb25) ?_ ?_
 refine qU 2 [(1, .ptr 0 0), (83, .bool ((t.kind) == 5))] ?_ ?_
 by_cases hb29 : (t.kind) = 5
 refine qt (beq_iff_eq.2 hb29) ?_ ?_
 refine qSeq ?_ ?_
 refine qU 1 [(1, .ptr 0 0), (5, .int .i64 0)] ?_ ?_
 refine qB 1 ?_ ?_ ?_
 refine wLoop (σ := Nat) (fun k => [(1, .ptr 0 0), (5, .int .i64 ((k : Nat) : Int))]) (fun k => [.box [.int .i64 (t.kind), .str t.name, .int .i64 (t.n), .imm (t.names.map AVal.str), .imm (t.kids.map Ty.enc)]]) (fun k => k ≤ t.names.length ∧ ∀ i, i < k → nmAt t.names i = true) (fun k => t.names.length - k) 0 (by kernel_rfl) (by simp) ⟨⟨(by kernel_rfl), (by kernel_rfl), trivial⟩, by simp [BelL, AVal.bel], by simp, (by kernel_rfl), by simp [AObj.belO]⟩ ?_
 rintro k ⟨hk, ha⟩
 refine qSeq ?_ ?_
 refine qV 3 ?_ ?_
 refine qy (o_lenmap (l := t.names) (enc := AVal.str) (by kernel_rfl) ty22) ?_ ?_ ?_
 refine qR 1 [(1, .ptr 0 0), (5, nI k), (89, .bool (decide (((k : Nat) : Int) < ((t.names.length : Nat) : Int))))] [t.bx] ?_ ?_
 by_cases hb30 : ((k : Nat) : Int) < ((t.names.length : Nat) : Int)
 refine qt (decide_eq_true hb30) ?_ ?_
 refine qK ?_ ?_
 refine qz [(1, .ptr 0 0), (5, nI k)] ?_ ?_
 refine qSeq ?_ ?_
 refine qB 2 ?_ ?_ ?_
 refine qV 3 ?_ ?_
 refine qy (o_ixmap (k := .i64) (l := t.names) (enc := AVal.str) (i := ((k : Nat) : Int)) [] (by kernel_rfl) ty22 ty9 (fun _ => rfl) (by first | omega | (simp; done) | (have := sz_names_at t k; omega)) (by first | omega | (simp; done) | (have := sz_names_at t k; omega))) ?_ ?_ ?_
 refine qr 1 ?_ ?_
 refine qc [.str (t.names.getD k [])] (rlower_spec (t.names.getD k []) (by first | omega | (simp; done) | (have := sz_names_at t k; omega))) ?_ ?_
 refine qR 1 [(1, .ptr 0 0), (5, nI k), (6, .bool (fitsW 2 (t.names.getD k [])))] [t.bx] ?_ ?_
 refine qSeq ?_ ?_
 refine wDrw cxM (by kernel_rfl) extThen (dstart ?_)
 refine qu 3 ?_ ?_
 by_cases hb31 : (fitsW 2 (t.names.getD k [])) = true
 refine dset 99 (.bool (!(fitsW 2 (t.names.getD k [])))) (.bool false) (extD extThen) (by kernel_rfl) (congrArg AVal.bool (congrArg not (hb31))) ?_
 refine dset 100 (.bool (!(fitsW 2 (t.names.getD k [])))) (.bool false) (extD extThen) (by kernel_rfl) (congrArg AVal.bool (congrArg not (hb31))) ?_
 refine qu 3 ?_ ?_
 by_cases hb32 : ((k : Nat) : Int) > 0
 refine dset 102 (.bool (decide (((k : Nat) : Int) > 0))) (.bool true) (extD extThen) (by kernel_rfl) (congrArg AVal.bool (decide_eq_true hb32)) ?_
 refine dset 103 (.bool (decide (((k : Nat) : Int) > 0))) (.bool true) (extD extThen) (by kernel_rfl) (congrArg AVal.bool (decide_eq_true hb32)) ?_
 refine qu 3 ?_ ?_
 refine qd (o_sub (a := ((k : Nat) : Int)) (b := 1) (by kernel_rfl) (by first | omega | (simp; done) | (have := sz_names_at t k; omega)) (by first | omega | (simp; done) | (have := sz_names_at t k; omega))) ?_ ?_ ?_ ?_
 refine qd (o_ixmap (k := .i64) (l := t.names) (enc := AVal.str) (i := (((k : Nat) : Int) - 1)) [] (by kernel_rfl) ty22 ty9 (fun _ => rfl) (by first | omega | (simp; done) | (have := sz_names_at t k; omega)) (by first | omega | (simp; done) | (have := sz_names_at t k; omega))) ?_ ?_ ?_ ?_
 refine qu 4 ?_ ?_
 refine qd (o_ixmap (k := .i64) (l := t.names) (enc := AVal.str) (i := ((k : Nat) : Int)) [] (by kernel_rfl) ty22 ty9 (fun _ => rfl) (by first | omega | (simp; done) | (have := sz_names_at t k; omega)) (by first | omega | (simp; done) | (have := sz_names_at t k; omega))) ?_ ?_ ?_ ?_
 refine qu 4 ?_ ?_
 refine dend (by kernel_rfl) ⟨(by kernel_rfl), ?_⟩
 refine AThen_normal ?_
 refine qZ [(1, .ptr 0 0), (5, nI k), (101, nI k), (102, .bool true), (103, .bool true), (104, .ptr 0 3), (105, .imm (t.names.map AVal.str)), (106, nI k), (107, .int .i64 (((k : Nat) : Int) - 1)), (108, .pimm [.str (t.names.getD (((((k : Nat) : Int) - 1)).toNat) [])] 0), (109, .str (t.names.getD (((((k : Nat) : Int) - 1)).toNat) [])), (110, .ptr 0 3), (111, .imm (t.names.map AVal.str)), (112, nI k), (113, .pimm [.str (t.names.getD k [])] 0), (114, .str (t.names.getD k [])), (115, .bool (!(sLess (t.names.getD (((((k : Nat) : Int) - 1)).toNat) []) (t.names.getD k [])))), (116, .bool (!(sLess (t.names.getD (((((k : Nat) : Int) - 1)).toNat) []) (t.names.getD k [])))), (117, .bool (!(sLess (t.names.getD (((((k : Nat) : Int) - 1)).toNat) []) (t.names.getD k []))))] [t.bx] ?_ ?_
 by_cases hb33 : (sLess (t.names.getD (((((k : Nat) : Int) - 1)).toNat) []) (t.names.getD k [])) = true
 refine qf (x := (!(sLess (t.names.getD (((((k : Nat) : Int) - 1)).toNat) []) (t.names.getD k [])))) (congrArg not (hb33)) ?_ ?_
 refine qk ?_ ?_
 refine AIn_normal ?_
 refine AThen_normal ?_
 refine qz [(1, .ptr 0 0), (5, nI k), (101, nI k), (102, .bool true), (103, .bool true), (104, .ptr 0 3), (105, .imm (t.names.map AVal.str)), (106, nI k), (107, .int .i64 (((k : Nat) : Int) - 1)), (108, .pimm [.str (t.names.getD (((((k : Nat) : Int) - 1)).toNat) [])] 0), (109, .str (t.names.getD (((((k : Nat) : Int) - 1)).toNat) [])), (110, .ptr 0 3), (111, .imm (t.names.map AVal.str)), (112, nI k), (113, .pimm [.str (t.names.getD k [])] 0), (114, .str (t.names.getD k [])), (115, .bool (!(sLess (t.names.getD (((((k : Nat) : Int) - 1)).toNat) []) (t.names.getD k [])))), (116, .bool (!(sLess (t.names.getD (((((k : Nat) : Int) - 1)).toNat) []) (t.names.getD k []))))] ?_ ?_
 refine qo ?_ ?_
 refine qr 1 ?_ ?_
 refine qy (o_add (a := ((k : Nat) : Int)) (b := 1) (by kernel_rfl) (by first | omega | (simp; done) | (have := sz_names_at t k; omega)) (by first | omega | (simp; done) | (have := sz_names_at t k; omega))) ?_ ?_ ?_
 refine qr 1 ?_ ?_
 refine qe ?_ ?_
 refine AThen_normal ⟨k + 1, ?_, ?_, ⟨⟨(by kernel_rfl), (by kernel_rfl), trivial⟩, by simp [BelL, AVal.bel], by simp, (by kernel_rfl), by simp [AObj.belO]⟩⟩
 · omega
 · refine ⟨by omega, fun i hi => ?_⟩
   rcases Nat.lt_succ_iff_lt_or_eq.1 hi with h | h
   · exact ha i h
   · subst h; refine nmAt_true (by assumption) ?_; first | (left; omega) | (right; simp_all [pred_nat, sle_iff]; done)
 iterate 9 kernel_rfl
 refine qt (x := (!(sLess (t.names.getD (((((k : Nat) : Int) - 1)).toNat) []) (t.names.getD k [])))) (congrArg not (Bool.eq_false_iff.2 hb33)) ?_ ?_
 refine qV 1 ?_ ?_
 refine qT ?_ ?_
 apply iR
 apply aR
 apply aR
 apply iR
 apply aR
 apply iR
 apply aR
 refine leafB (b := false) (.inr rfl) (by kernel_rfl) ?_
 rotate_left
 iterate 16 kernel_rfl
 refine dset 102 (.bool (decide (((k : Nat) : Int) > 0))) (.bool false) (extD extThen) (by kernel_rfl) (congrArg AVal.bool (decide_eq_false hb32)) ?_
 refine dset 103 (.bool (decide (((k : Nat) : Int) > 0))) (.bool false) (extD extThen) (by kernel_rfl) (congrArg AVal.bool (decide_eq_false hb32)) ?_
 refine qu 14 ?_ ?_
 refine dend (by kernel_rfl) ⟨(by kernel_rfl), ?_⟩
 refine AThen_normal ?_
 refine qZ [(1, .ptr 0 0), (5, nI k), (101, nI k), (102, .bool false), (103, .bool false), (104, .tup []), (105, .tup []), (106, .tup []), (107, .tup []), (108, .tup []), (109, .tup []), (110, .tup []), (111, .tup []), (112, .tup []), (113, .tup []), (114, .tup []), (115, .tup []), (116, .bool false), (117, .bool false)] [t.bx] ?_ ?_
 refine wIfF (by kernel_rfl) (by kernel_rfl) ?_
 refine qk ?_ ?_
 refine AIn_normal ?_
 refine AThen_normal ?_
 refine qz [(1, .ptr 0 0), (5, nI k), (101, nI k), (102, .bool false), (103, .bool false), (104, .tup []), (105, .tup []), (106, .tup []), (107, .tup []), (108, .tup []), (109, .tup []), (110, .tup []), (111, .tup []), (112, .tup []), (113, .tup []), (114, .tup []), (115, .tup []), (116, .bool false)] ?_ ?_
 refine qo ?_ ?_
 refine qr 1 ?_ ?_
 refine qy (o_add (a := ((k : Nat) : Int)) (b := 1) (by kernel_rfl) (by first | omega | (simp; done) | (have := sz_names_at t k; omega)) (by first | omega | (simp; done) | (have := sz_names_at t k; omega))) ?_ ?_ ?_
 refine qr 1 ?_ ?_
 refine qe ?_ ?_
 refine AThen_normal ⟨k + 1, ?_, ?_, ⟨⟨(by kernel_rfl), (by kernel_rfl), trivial⟩, by simp [BelL, AVal.bel], by simp, (by kernel_rfl), by simp [AObj.belO]⟩⟩
 · omega
 · refine ⟨by omega, fun i hi => ?_⟩
   rcases Nat.lt_succ_iff_lt_or_eq.1 hi with h | h
   · exact ha i h
   · subst h; refine nmAt_true (by assumption) ?_; first | (left; omega) | (right; simp_all [pred_nat, sle_iff]; done)
 iterate 11 kernel_rfl
 refine dset 99 (.bool (!(fitsW 2 (t.names.getD k [])))) (.bool true) (extD extThen) (by kernel_rfl) (congrArg AVal.bool (congrArg not (Bool.eq_false_iff.2 hb31))) ?_
 refine dset 100 (.bool (!(fitsW 2 (t.names.getD k [])))) (.bool true) (extD extThen) (by kernel_rfl) (congrArg AVal.bool (congrArg not (Bool.eq_false_iff.2 hb31))) ?_
 refine qu 17 ?_ ?_
 refine dend (by kernel_rfl) ⟨(by kernel_rfl), ?_⟩
 refine AThen_normal ?_
 refine qZ [(1, .ptr 0 0), (5, nI k), (101, .tup []), (102, .tup []), (103, .tup []), (104, .tup []), (105, .tup []), (106, .tup []), (107, .tup []), (108, .tup []), (109, .tup []), (110, .tup []), (111, .tup []), (112, .tup []), (113, .tup []), (114, .tup []), (115, .tup []), (116, .tup []), (117, .bool true)] [t.bx] ?_ ?_
 refine wIfT (by kernel_rfl) (by kernel_rfl) ?_
 refine qV 1 ?_ ?_
 refine qT ?_ ?_
 apply iR
 apply aR
 apply aR
 apply iR
 apply aR
 apply iR
 apply aR
 refine leafB (b := false) (.inr rfl) (by kernel_rfl) ?_
 rotate_left
 iterate 18 kernel_rfl
 refine qf (decide_eq_false hb30) ?_ ?_
 refine wExit 1 (by kernel_rfl) (by kernel_rfl) ?_
 refine AThen_exit ?_
 refine AThen_exit ?_
 refine AIn_exit ?_
 refine AThen_normal ?_
 refine qz [(1, .ptr 0 0)] ?_ ?_
 refine qV 4 ?_ ?_
 by_cases hb34 : t.name = []
 refine qm [120, 121] (beq_iff_eq.2 hb34) ?_ ?_
 refine qr 5 ?_ ?_
 by_cases hb35 : (t.n) ≥ 0
 refine qm [124, 125, 126] (decide_eq_true hb35) ?_ ?_
 refine qr 2 ?_ ?_
 refine qy (o_lenmap (l := t.names) (enc := AVal.str) (by kernel_rfl) ty22) ?_ ?_ ?_
 refine qr 2 ?_ ?_
 refine qy (o_lenmap (l := t.kids) (enc := Ty.enc) (by kernel_rfl) ty23) ?_ ?_ ?_
 refine qX 3 ?_ ?_
 apply iR
 apply aR
 refine leafB (b := (((t.names.length : Nat) : Int) == ((t.kids.length : Nat) : Int))) (.inr rfl) (by kernel_rfl) ?_
 by_cases hb36 : ((t.names.length : Nat) : Int) = ((t.kids.length : Nat) : Int)
 refine Eq.trans (beq_iff_eq.2 hb36) ?_
 rotate_left
 refine Eq.trans (beq_eq_false_iff_ne.2 hb36) ?_
 rotate_left
 iterate 8 kernel_rfl
 refine qm [124, 125, 126] (decide_eq_false hb35) ?_ ?_
 refine qX 9 ?_ ?_
 apply iR
 apply aR
 refine leafB (b := false) (.inr rfl) (by kernel_rfl) ?_
 rotate_left
 iterate 4 kernel_rfl
 refine qm [120, 121] (beq_eq_false_iff_ne.2 hb34) ?_ ?_
 refine qX 14 ?_ ?_
 apply iR
 apply aR
 refine leafB (b := false) (.inr rfl) (by kernel_rfl) ?_
 rotate_left
 iterate 15 kernel_rfl
 refine qf (beq_eq_false_iff_ne.2 hb29) ?_ ?_
 refine qk ?_ ?_
 refine AIn_normal ?_
 refine AThen_normal ?_
 refine qz [] ?_ ?_
 refine qV 1 ?_ ?_
 refine qT ?_ ?_
 refine leafB (b := false) (.inr rfl) (by kernel_rfl) ?_
 rotate_left
 iterate 29 kernel_rfl
 refine qm [10, 11] (beq_eq_false_iff_ne.2 hb1) ?_ ?_
 refine qR 6 [(1, .ptr 0 0), (3, .bool false)] [t.bx] ?_ ?_
 refine qSeq ?_ ?_
 refine qU 2 [(1, .ptr 0 0), (3, .bool false), (18, .int .i64 (t.kind))] ?_ ?_
 refine qB 0 ?_ ?_ ?_
 refine qSeq ?_ ?_
 refine qU 2 [(1, .ptr 0 0), (3, .bool false), (18, .int .i64 (t.kind)), (19, .bool ((t.kind) == 0))] ?_ ?_
 by_cases hb37 : (t.kind) = 0
 refine qt (beq_iff_eq.2 hb37) ?_ ?_
 refine qK ?_ ?_
 refine qz [(1, .ptr 0 0), (3, .bool false), (18, .int .i64 (t.kind)), (19, .bool ((t.kind) == 0))] ?_ ?_
 refine qt (beq_iff_eq.2 hb37) ?_ ?_
 refine qV 12 ?_ ?_
 refine qT ?_ ?_
 apply iR
 apply aR
 refine leafB (b := false) (.inr rfl) (by kernel_rfl) ?_
 rotate_left
 iterate 6 kernel_rfl
 refine qf (beq_eq_false_iff_ne.2 hb37) ?_ ?_
 refine qU 2 [(1, .ptr 0 0), (3, .bool false), (18, .int .i64 (t.kind)), (19, .bool ((t.kind) == 1))] ?_ ?_
 by_cases hb39 : (t.kind) = 1
 refine qt (beq_iff_eq.2 hb39) ?_ ?_
 refine qK ?_ ?_
 refine qz [(1, .ptr 0 0), (3, .bool false), (18, .int .i64 (t.kind)), (19, .bool ((t.kind) == 1))] ?_ ?_
 refine qt (beq_iff_eq.2 hb39) ?_ ?_
 refine qV 12 ?_ ?_
 refine qT ?_ ?_
 apply iR
 apply aR
 refine leafB (b := false) (.inr rfl) (by kernel_rfl) ?_
 rotate_left
 iterate 6 kernel_rfl
 refine qf (beq_eq_false_iff_ne.2 hb39) ?_ ?_
 refine qo ?_ ?_
 refine qR 2 [(1, .ptr 0 0), (3, .bool false), (18, .int .i64 (t.kind)), (19, .bool ((t.kind) == 2))] [t.bx] ?_ ?_
 by_cases hb41 : (t.kind) = 2
 refine qt (beq_iff_eq.2 hb41) ?_ ?_
 refine qV 12 ?_ ?_
 refine qT ?_ ?_
 apply iR
 apply aR
 refine leafB (b := false) (.inr rfl) (by kernel_rfl) ?_
 rotate_left
 iterate 3 kernel_rfl
 refine qf (beq_eq_false_iff_ne.2 hb41) ?_ ?_
 refine qU 2 [(1, .ptr 0 0), (3, .bool false), (18, .int .i64 (t.kind)), (34, .bool ((t.kind) == 3))] ?_ ?_
 by_cases hb42 : (t.kind) = 3
 refine qt (beq_iff_eq.2 hb42) ?_ ?_
 refine qV 2 ?_ ?_
 refine qc [.str t.name] (rupper_spec t.name (by first | omega | (simp; done) | (have := sz_names_at t k; omega))) ?_ ?_
 refine qR 1 [(1, .ptr 0 0), (3, .bool false), (4, .bool (upN t.name))] [t.bx] ?_ ?_
 refine qV 10 ?_ ?_
 refine qT ?_ ?_
 apply iR
 apply aR
 refine leafB (b := false) (.inr rfl) (by kernel_rfl) ?_
 rotate_left
 iterate 6 kernel_rfl
 refine qf (beq_eq_false_iff_ne.2 hb42) ?_ ?_
 refine qU 2 [(1, .ptr 0 0), (3, .bool false), (18, .int .i64 (t.kind)), (48, .bool ((t.kind) == 4))] ?_ ?_
 by_cases hb43 : (t.kind) = 4
 refine qt (beq_iff_eq.2 hb43) ?_ ?_
 refine qV 4 ?_ ?_
 by_cases hb44 : t.name = []
 refine qm [52, 53] (beq_iff_eq.2 hb44) ?_ ?_
 refine qr 5 ?_ ?_
 by_cases hb45 : (t.n) = 0
 refine qm [56, 57, 58] (beq_iff_eq.2 hb45) ?_ ?_
 refine qr 2 ?_ ?_
 refine qy (o_lenmap (l := t.names) (enc := AVal.str) (by kernel_rfl) ty22) ?_ ?_ ?_
 refine qr 3 ?_ ?_
 refine qm [62, 63, 64] (beq_eq_false_iff_ne.2 hb1) ?_ ?_
 refine qX 6 ?_ ?_
 apply iR
 apply aR
 refine leafB (b := false) (.inr rfl) (by kernel_rfl) ?_
 rotate_left
 iterate 7 kernel_rfl
 refine qm [56, 57, 58] (beq_eq_false_iff_ne.2 hb45) ?_ ?_
 refine qX 12 ?_ ?_
 apply iR
 apply aR
 refine leafB (b := false) (.inr rfl) (by kernel_rfl) ?_
 rotate_left
 iterate 4 kernel_rfl
 refine qm [52, 53] (beq_eq_false_iff_ne.2 hb44) ?_ ?_
 refine qX 17 ?_ ?_
 apply iR
 apply aR
 refine leafB (b := false) (.inr rfl) (by kernel_rfl) ?_
 rotate_left
 iterate 4 kernel_rfl
 refine qf (beq_eq_false_iff_ne.2 hb43) ?_ ?_
 refine qU 2 [(1, .ptr 0 0), (3, .bool false), (18, .int .i64 (t.kind)), (70, .bool ((t.kind) == 6))] ?_ ?_
 by_cases hb47 : (t.kind) = 6
 refine qt (beq_iff_eq.2 hb47) ?_ ?_
 refine qV 12 ?_ ?_
 refine qT ?_ ?_
 apply iR
 apply aR
 refine leafB (b := false) (.inr rfl) (by kernel_rfl) ?_
 rotate_left
 iterate 3 kernel_rfl
 refine qf (beq_eq_false_iff_ne.2 hb47) ?_ ?_
 refine qU 2 [(1, .ptr 0 0), (83, .bool ((t.kind) == 5))] ?_ ?_
 by_cases hb48 : (t.kind) = 5
 refine qt (beq_iff_eq.2 hb48) ?_ ?_
 refine qSeq ?_ ?_
 refine qU 1 [(1, .ptr 0 0), (5, .int .i64 0)] ?_ ?_
 refine qB 1 ?_ ?_ ?_
 refine wLoop (σ := Nat) (fun k => [(1, .ptr 0 0), (5, .int .i64 ((k : Nat) : Int))]) (fun k => [.box [.int .i64 (t.kind), .str t.name, .int .i64 (t.n), .imm (t.names.map AVal.str), .imm (t.kids.map Ty.enc)]]) (fun k => k ≤ t.names.length ∧ ∀ i, i < k → nmAt t.names i = true) (fun k => t.names.length - k) 0 (by kernel_rfl) (by simp) ⟨⟨(by kernel_rfl), (by kernel_rfl), trivial⟩, by simp [BelL, AVal.bel], by simp, (by kernel_rfl), by simp [AObj.belO]⟩ ?_
 rintro k ⟨hk, ha⟩
 refine qSeq ?_ ?_
 refine qV 3 ?_ ?_
 refine qy (o_lenmap (l := t.names) (enc := AVal.str) (by kernel_rfl) ty22) ?_ ?_ ?_
 refine qR 1 [(1, .ptr 0 0), (5, nI k), (89, .bool (decide (((k : Nat) : Int) < ((t.names.length : Nat) : Int))))] [t.bx] ?_ ?_
 by_cases hb49 : ((k : Nat) : Int) < ((t.names.length : Nat) : Int)
 refine qt (decide_eq_true hb49) ?_ ?_
 refine qK ?_ ?_
 refine qz [(1, .ptr 0 0), (5, nI k)] ?_ ?_
 refine qSeq ?_ ?_
 refine qB 2 ?_ ?_ ?_
 refine qV 3 ?_ ?_
 refine qy (o_ixmap (k := .i64) (l := t.names) (enc := AVal.str) (i := ((k : Nat) : Int)) [] (by kernel_rfl) ty22 ty9 (fun _ => rfl) (by first | omega | (simp; done) | (have := sz_names_at t k; omega)) (by first | omega | (simp; done) | (have := sz_names_at t k; omega))) ?_ ?_ ?_
 refine qr 1 ?_ ?_
 refine qc [.str (t.names.getD k [])] (rlower_spec (t.names.getD k []) (by first | omega | (simp; done) | (have := sz_names_at t k; omega))) ?_ ?_
 refine qR 1 [(1, .ptr 0 0), (5, nI k), (6, .bool (fitsW 2 (t.names.getD k [])))] [t.bx] ?_ ?_
 refine qSeq ?_ ?_
 refine wDrw cxM (by kernel_rfl) extThen (dstart ?_)
 refine qu 3 ?_ ?_
 by_cases hb50 : (fitsW 2 (t.names.getD k [])) = true
 refine dset 99 (.bool (!(fitsW 2 (t.names.getD k [])))) (.bool false) (extD extThen) (by kernel_rfl) (congrArg AVal.bool (congrArg not (hb50))) ?_
 refine dset 100 (.bool (!(fitsW 2 (t.names.getD k [])))) (.bool false) (extD extThen) (by kernel_rfl) (congrArg AVal.bool (congrArg not (hb50))) ?_
 refine qu 3 ?_ ?_
 by_cases hb51 : ((k : Nat) : Int) > 0
 refine dset 102 (.bool (decide (((k : Nat) : Int) > 0))) (.bool true) (extD extThen) (by kernel_rfl) (congrArg AVal.bool (decide_eq_true hb51)) ?_
 refine dset 103 (.bool (decide (((k : Nat) : Int) > 0))) (.bool true) (extD extThen) (by kernel_rfl) (congrArg AVal.bool (decide_eq_true hb51)) ?_
 refine qu 3 ?_ ?_
 refine qd (o_sub (a := ((k : Nat) : Int)) (b := 1) (by kernel_rfl) (by first | omega | (simp; done) | (have := sz_names_at t k; omega)) (by first | omega | (simp; done) | (have := sz_names_at t k; omega))) ?_ ?_ ?_ ?_
 refine qd (o_ixmap (k := .i64) (l := t.names) (enc := AVal.str) (i := (((k : Nat) : Int) - 1)) [] (by kernel_rfl) ty22 ty9 (fun _ => rfl) (by first | omega | (simp; done) | (have := sz_names_at t k; omega)) (by first | omega | (simp; done) | (have := sz_names_at t k; omega))) ?_ ?_ ?_ ?_
 refine qu 4 ?_ ?_
 refine qd (o_ixmap (k := .i64) (l := t.names) (enc := AVal.str) (i := ((k : Nat) : Int)) [] (by kernel_rfl) ty22 ty9 (fun _ => rfl) (by first | omega | (simp; done) | (have := sz_names_at t k; omega)) (by first | omega | (simp; done) | (have := sz_names_at t k; omega))) ?_ ?_ ?_ ?_
 refine qu 4 ?_ ?_
 refine dend (by kernel_rfl) ⟨(by kernel_rfl), ?_⟩
 refine AThen_normal ?_
 refine qZ [(1, .ptr 0 0), (5, nI k), (101, nI k), (102, .bool true), (103, .bool true), (104, .ptr 0 3), (105, .imm (t.names.map AVal.str)), (106, nI k), (107, .int .i64 (((k : Nat) : Int) - 1)), (108, .pimm [.str (t.names.getD (((((k : Nat) : Int) - 1)).toNat) [])] 0), (109, .str (t.names.getD (((((k : Nat) : Int) - 1)).toNat) [])), (110, .ptr 0 3), (111, .imm (t.names.map AVal.str)), (112, nI k), (113, .pimm [.str (t.names.getD k [])] 0), (114, .str (t.names.getD k [])), (115, .bool (!(sLess (t.names.getD (((((k : Nat) : Int) - 1)).toNat) []) (t.names.getD k [])))), (116, .bool (!(sLess (t.names.getD (((((k : Nat) : Int) - 1)).toNat) []) (t.names.getD k [])))), (117, .bool (!(sLess (t.names.getD (((((k : Nat) : Int) - 1)).toNat) []) (t.names.getD k []))))] [t.bx] ?_ ?_
 by_cases hb52 : (sLess (t.names.getD (((((k : Nat) : Int) - 1)).toNat) []) (t.names.getD k [])) = true
 refine qf (x := (!(sLess (t.names.getD (((((k : Nat) : Int) - 1)).toNat) []) (t.names.getD k [])))) (congrArg not (hb52)) ?_ ?_
 refine qk ?_ ?_
 refine AIn_normal ?_
 refine AThen_normal ?_
 refine qz [(1, .ptr 0 0), (5, nI k), (101, nI k), (102, .bool true), (103, .bool true), (104, .ptr 0 3), (105, .imm (t.names.map AVal.str)), (106, nI k), (107, .int .i64 (((k : Nat) : Int) - 1)), (108, .pimm [.str (t.names.getD (((((k : Nat) : Int) - 1)).toNat) [])] 0), (109, .str (t.names.getD (((((k : Nat) : Int) - 1)).toNat) [])), (110, .ptr 0 3), (111, .imm (t.names.map AVal.str)), (112, nI k), (113, .pimm [.str (t.names.getD k [])] 0), (114, .str (t.names.getD k [])), (115, .bool (!(sLess (t.names.getD (((((k : Nat) : Int) - 1)).toNat) []) (t.names.getD k [])))), (116, .bool (!(sLess (t.names.getD (((((k : Nat) : Int) - 1)).toNat) []) (t.names.getD k []))))] ?_ ?_
 refine qo ?_ ?_
 refine qr 1 ?_ ?_
 refine qy (o_add (a := ((k : Nat) : Int)) (b := 1) (by kernel_rfl) (by first | omega | (simp; done) | (have := sz_names_at t k; omega)) (by first | omega | (simp; done) | (have := sz_names_at t k; omega))) ?_ ?_ ?_
 refine qr 1 ?_ ?_
 refine qe ?_ ?_
 refine AThen_normal ⟨k + 1, ?_, ?_, ⟨⟨(by kernel_rfl), (by kernel_rfl), trivial⟩, by simp [BelL, AVal.bel], by simp, (by kernel_rfl), by simp [AObj.belO]⟩⟩
 · omega
 · refine ⟨by omega, fun i hi => ?_⟩
   rcases Nat.lt_succ_iff_lt_or_eq.1 hi with h | h
   · exact ha i h
   · subst h; refine nmAt_true (by assumption) ?_; first | (left; omega) | (right; simp_all [pred_nat, sle_iff]; done)
 iterate 9 kernel_rfl
 refine qt (x := (!(sLess (t.names.getD (((((k : Nat) : Int) - 1)).toNat) []) (t.names.getD k [])))) (congrArg not (Bool.eq_false_iff.2 hb52)) ?_ ?_
 refine qV 1 ?_ ?_
 refine qT ?_ ?_
 apply iR
 apply aR
 apply aR
 apply iR
 apply aR
 apply iR
 apply aR
 refine leafB (b := false) (.inr rfl) (by kernel_rfl) ?_
 rotate_left
 iterate 16 kernel_rfl
 refine dset 102 (.bool (decide (((k : Nat) : Int) > 0))) (.bool false) (extD extThen) (by kernel_rfl) (congrArg AVal.bool (decide_eq_false hb51)) ?_
 refine dset 103 (.bool (decide (((k : Nat) : Int) > 0))) (.bool false) (extD extThen) (by kernel_rfl) (congrArg AVal.bool (decide_eq_false hb51)) ?_
 refine qu 14 ?_ ?_
 refine dend (by kernel_rfl) ⟨(by kernel_rfl), ?_⟩
 refine AThen_normal ?_
 refine qZ [(1, .ptr 0 0), (5, nI k), (101, nI k), (102, .bool false), (103, .bool false), (104, .tup []), (105, .tup []), (106, .tup []), (107, .tup []), (108, .tup []), (109, .tup []), (110, .tup []), (111, .tup []), (112, .tup []), (113, .tup []), (114, .tup []), (115, .tup []), (116, .bool false), (117, .bool false)] [t.bx] ?_ ?_
 refine wIfF (by kernel_rfl) (by kernel_rfl) ?_
 refine qk ?_ ?_
 refine AIn_normal ?_
 refine AThen_normal ?_
 refine qz [(1, .ptr 0 0), (5, nI k), (101, nI k), (102, .bool false), (103, .bool false), (104, .tup []), (105, .tup []), (106, .tup []), (107, .tup []), (108, .tup []), (109, .tup []), (110, .tup []), (111, .tup []), (112, .tup []), (113, .tup []), (114, .tup []), (115, .tup []), (116, .bool false)] ?_ ?_
 refine qo ?_ ?_
 refine qr 1 ?_ ?_
 refine qy (o_add (a := ((k : Nat) : Int)) (b := 1) (by kernel_rfl) (by first | omega | (simp; done) | (have := sz_names_at t k; omega)) (by first | omega | (simp; done) | (have := sz_names_at t k; omega))) ?_ ?_ ?_
 refine qr 1 ?_ ?_
 refine qe ?_ ?_
 refine AThen_normal ⟨k + 1, ?_, ?_, ⟨⟨(by kernel_rfl), (by kernel_rfl), trivial⟩, by simp [BelL, AVal.bel], by simp, (by kernel_rfl), by simp [AObj.belO]⟩⟩
 · omega
 · refine ⟨by omega, fun i hi => ?_⟩
   rcases Nat.lt_succ_iff_lt_or_eq.1 hi with h | h
   · exact ha i h
   · subst h; refine nmAt_true (by assumption) ?_; first | (left; omega) | (right; simp_all [pred_nat, sle_iff]; done)
 iterate 11 kernel_rfl
 refine dset 99 (.bool (!(fitsW 2 (t.names.getD k [])))) (.bool true) (extD extThen) (by kernel_rfl) (congrArg AVal.bool (congrArg not (Bool.eq_false_iff.2 hb50))) ?_
 refine dset 100 (.bool (!(fitsW 2 (t.names.getD k [])))) (.bool true) (extD extThen) (by kernel_rfl) (congrArg AVal.bool (congrArg not (Bool.eq_false_iff.2 hb50))) ?_
 refine qu 17 ?_ ?_
 refine dend (by kernel_rfl) ⟨(by kernel_rfl), ?_⟩
 refine AThen_normal ?_
 refine qZ [(1, .ptr 0 0), (5, nI k), (101, .tup []), (102, .tup []), (103, .tup []), (104, .tup []), (105, .tup []), (106, .tup []), (107, .tup []), (108, .tup []), (109, .tup []), (110, .tup []), (111, .tup []), (112, .tup []), (113, .tup []), (114, .tup []), (115, .tup []), (116, .tup []), (117, .bool true)] [t.bx] ?_ ?_
 refine wIfT (by kernel_rfl) (by kernel_rfl) ?_
 refine qV 1 ?_ ?_
 refine qT ?_ ?_
 apply iR
 apply aR
 apply aR
 apply iR
 apply aR
 apply iR
 apply aR
 refine leafB (b := false) (.inr rfl) (by kernel_rfl) ?_
 rotate_left
 iterate 18 kernel_rfl
 refine qf (decide_eq_false hb49) ?_ ?_
 refine wExit 1 (by kernel_rfl) (by kernel_rfl) ?_
 refine AThen_exit ?_
 refine AThen_exit ?_
 refine AIn_exit ?_
 refine AThen_normal ?_
 refine qz [(1, .ptr 0 0)] ?_ ?_
 refine qV 4 ?_ ?_
 by_cases hb53 : t.name = []
 refine qm [120, 121] (beq_iff_eq.2 hb53) ?_ ?_
 refine qr 5 ?_ ?_
 by_cases hb54 : (t.n) ≥ 0
 refine qm [124, 125, 126] (decide_eq_true hb54) ?_ ?_
 refine qr 2 ?_ ?_
 refine qy (o_lenmap (l := t.names) (enc := AVal.str) (by kernel_rfl) ty22) ?_ ?_ ?_
 refine qr 2 ?_ ?_
 refine qy (o_lenmap (l := t.kids) (enc := Ty.enc) (by kernel_rfl) ty23) ?_ ?_ ?_
 refine qX 3 ?_ ?_
 apply iR
 apply aR
 refine leafB (b := (((t.names.length : Nat) : Int) == ((t.kids.length : Nat) : Int))) (.inr rfl) (by kernel_rfl) ?_
 by_cases hb55 : ((t.names.length : Nat) : Int) = ((t.kids.length : Nat) : Int)
 refine Eq.trans (beq_iff_eq.2 hb55) ?_
 rotate_left
 refine Eq.trans (beq_eq_false_iff_ne.2 hb55) ?_
 rotate_left
 iterate 8 kernel_rfl
 refine qm [124, 125, 126] (decide_eq_false hb54) ?_ ?_
 refine qX 9 ?_ ?_
 apply iR
 apply aR
 refine leafB (b := false) (.inr rfl) (by kernel_rfl) ?_
 rotate_left
 iterate 4 kernel_rfl
 refine qm [120, 121] (beq_eq_false_iff_ne.2 hb53) ?_ ?_
 refine qX 14 ?_ ?_
 apply iR
 apply aR
 refine leafB (b := false) (.inr rfl) (by kernel_rfl) ?_
 rotate_left
 iterate 15 kernel_rfl
 refine qf (beq_eq_false_iff_ne.2 hb48) ?_ ?_
 refine qk ?_ ?_
 refine AIn_normal ?_
 refine AThen_normal ?_
 refine qz [] ?_ ?_
 refine qV 1 ?_ ?_
 refine qT ?_ ?_
 refine leafB (b := false) (.inr rfl) (by kernel_rfl) ?_
 rotate_left
 iterate 32 kernel_rfl
 all_goals
  first | rw [fmd_x (by omega)] | (first | rw [fmd_0 (by omega)] | rw [fmd_3 (by omega)] | rw [fmd_4 (by omega)] | rw [fmd_6 (by omega)] | rw [fmd_5 (by omega)])
  all_goals symm
  all_goals (first | (refine decide_eq_true ⟨?_, ?_, ?_, ?_⟩ <;> (first | assumption | omega | exact upN_t (by assumption) (by assumption) | exact nm_end ha (by omega))) | (refine decide_eq_false ?_; rintro ⟨q1, q2, q3, q4⟩; (first | contradiction | omega | exact upN_f1 (by assumption) (by assumption) | exact upN_f2 (by assumption) (by assumption) | exact nm_low (l := t.names) k (by omega) (by assumption) (by assumption) | exact nm_ord1 (l := t.names) k (by omega) (by omega) (by assumption) (by assumption) | exact nm_ord2 (l := t.names) k (by omega) (by omega) (by assumption) (by assumption))))
end Go.Proofs.YtdikgijfekfaoaaGreatDoor
