/- The numbers of the variables of a type, in both packages. Condition: sizes that can be had. -/
import Derived.Test.YtdikgijfekfaoaaGreatDoorT11
import Derived.Test.YtdikgijfekfaoaaGreatDoorAbse
import Derived.Test.YtdikgijfekfaoaaGreatDoorAbsc
set_option linter.all false
set_option linter.unusedSimpArgs false
set_option linter.unusedVariables false
namespace Go.Proofs.YtdikgijfekfaoaaGreatDoor
open Go.Proofs.YtdikgijfekfaoaaGreatDoor.Abs
set_option maxRecDepth 20000
set_option maxHeartbeats 4000000
def isV (k n : Int) : Bool := decide (k = 6) || (decide (k = 5) && decide (n ≠ 0))
noncomputable def c104 : Code := bodyOf Tryz.f104
theorem vars_any (k n : Int) (x : List UInt8)  : CallsP cx 104 [.agg [.int .i64 (k), .str x, .int .i64 (n), .any, .any]] (.bool (isV k n)) := by
 refine func_intro (cx := cx) 16 0 [(ResultVar.tmp 2)] Tryz.func104 rfl rfl rfl rfl rfl (by simp) ?_
 show wpA cx 16 0 (at_ c104 []) _ _ _
 refine qZ [(0, .agg [.int .i64 (k), .str x, .int .i64 (n), .any, .any])] [] ?_ ?_
 refine qW 2 [(1, .ptr 0 0)] [.box [.int .i64 (k), .str x, .int .i64 (n), .any, .any]] ?_ ?_
 refine qV 4 ?_ ?_
 by_cases hb1 : (k) = 6
 refine qm [5, 6] (beq_iff_eq.2 hb1) ?_ ?_
 refine qX 10 ?_ ?_
 refine leafB (b := true) (.inr rfl) (by kernel_rfl) ?_
 · simp [isV, *]
 iterate 2 kernel_rfl
 refine qm [5, 6] (beq_eq_false_iff_ne.2 hb1) ?_ ?_
 refine qr 4 ?_ ?_
 by_cases hb2 : (k) = 5
 refine qm [9, 10] (beq_iff_eq.2 hb2) ?_ ?_
 refine qX 6 ?_ ?_
 refine leafB (b := ((n) != 0)) (.inr rfl) (by kernel_rfl) ?_
 by_cases hb3 : (n) = 0
 refine Eq.trans (bne_eq_false_iff_eq.2 hb3) ?_
 · simp [isV, *]
 refine Eq.trans (bne_iff_ne.2 hb3) ?_
 · simp [isV, *]
 iterate 2 kernel_rfl
 refine qm [9, 10] (beq_eq_false_iff_ne.2 hb2) ?_ ?_
 refine qX 6 ?_ ?_
 refine leafB (b := false) (.inr rfl) (by kernel_rfl) ?_
 · simp [isV, *]
 iterate 7 kernel_rfl
def idxI (l : List Int) (s : Int) : Int := match l.findIdx? (· == s) with
  | some i => (i : Nat)
  | none => -1
theorem idxI_some {l : List Int} {s : Int} {k : Nat} (hk : k < l.length) (ha : ∀ i, i < k → ¬ s = l.getD i 0) (h : s = l.getD k 0) : ((k : Nat) : Int) = idxI l s := by
  have e : ∀ i (h : i < l.length), l.getD i 0 = l[i] := fun i h => by rw [List.getD_eq_getElem?_getD, List.getElem?_eq_getElem h]; rfl
  have : l.findIdx? (· == s) = some k := by
    rw [List.findIdx?_eq_some_iff_getElem]
    refine ⟨hk, by rw [← e k hk, ← h]; simp, fun j hj => ?_⟩
    have := ha j hj
    rw [e j (by omega)] at this
    simpa using fun h => this h.symm
  simp [idxI, this]
theorem idxI_none {l : List Int} {s : Int} (ha : ∀ i, i < l.length → ¬ s = l.getD i 0) : -1 = idxI l s := by
  have : l.findIdx? (· == s) = none := by
    rw [List.findIdx?_eq_none_iff]
    intro x hx
    obtain ⟨i, hi, rfl⟩ := List.getElem_of_mem hx
    have := ha i hi
    rw [List.getD_eq_getElem?_getD, List.getElem?_eq_getElem hi] at this
    simpa using fun h : l[i] = s => this h.symm
  simp [idxI, this]
theorem idxI_contains (l : List Int) (s : Int) : decide (idxI l s ≥ 0) = l.contains s := by
  rw [Bool.eq_iff_iff]
  simp only [decide_eq_true_eq, List.contains_iff_mem]
  unfold idxI
  split
  · rename_i i hi
    obtain ⟨h1, h2, _⟩ := List.findIdx?_eq_some_iff_getElem.1 hi
    simp at h2
    exact ⟨fun _ => h2 ▸ List.getElem_mem h1, fun _ => by omega⟩
  · rename_i hi
    rw [List.findIdx?_eq_none_iff] at hi
    exact ⟨fun h => by omega, fun h => by have := hi s h; simp at this⟩
theorem has_yes {l : List Int} {n : Int} {k : Nat} (hk : k < l.length) (h : l.getD k 0 = n) : l.contains n = true := by
  rw [List.contains_iff_mem, ← h, List.getD_eq_getElem?_getD, List.getElem?_eq_getElem hk]; exact List.getElem_mem hk
theorem has_no {l : List Int} {n : Int} (ha : ∀ i, i < l.length → ¬ l.getD i 0 = n) : l.contains n = false := by
  rw [Bool.eq_false_iff, Ne, List.contains_iff_mem]
  intro hm
  obtain ⟨i, hi, e⟩ := List.getElem_of_mem hm
  exact ha i hi (by rw [List.getD_eq_getElem?_getD, List.getElem?_eq_getElem hi]; exact e)
noncomputable def c116 : Code := bodyOf Tryz.f116
theorem ixInt_spec (l : List Int) (n : Int) (hn : l.length < 1000000000) : CallsP cx 116 [.imm (l.map (AVal.int .i64)), .int .i64 (n)] (.int .i64 (idxI l n)) := by
 refine func_intro (cx := cx) 19 0 [(ResultVar.tmp 4)] Tryz.func116 rfl rfl rfl rfl rfl (by simp) ?_
 show wpA cx 19 0 (at_ c116 []) _ _ _
 refine qZ [(0, .imm (l.map (AVal.int .i64))), (1, .int .i64 (n))] [] ?_ ?_
 refine qU 1 [(0, .imm (l.map (AVal.int .i64))), (1, .int .i64 (n))] ?_ ?_
 refine qSeq ?_ ?_
 refine qV 1 ?_ ?_
 refine qy (o_lenmap (l := l) (enc := (AVal.int .i64)) (by kernel_rfl) ty26) ?_ ?_ ?_
 refine qR 1 [(0, .imm (l.map (AVal.int .i64))), (1, .int .i64 (n)), (7, nI l.length), (8, .int .i64 0)] [] ?_ ?_
 refine qB 0 ?_ ?_ ?_
 refine wLoop (σ := Nat) (fun k => [(0, .imm (l.map (AVal.int .i64))), (1, .int .i64 (n)), (7, .int .i64 ((l.length : Nat) : Int)), (8, .int .i64 ((k : Nat) : Int))]) (fun k => []) (fun k => k ≤ l.length ∧ ∀ i, i < k → ¬ n = l.getD i 0) (fun k => l.length - k) 0 (by kernel_rfl) (by simp) ⟨⟨(by kernel_rfl), (by kernel_rfl), (by kernel_rfl), (by kernel_rfl), trivial⟩, by simp [BelL, AVal.bel], by simp, (by kernel_rfl), by simp⟩ ?_
 rintro k ⟨hk, ha⟩
 refine qW 1 [(0, .imm (l.map (AVal.int .i64))), (1, .int .i64 (n)), (7, nI l.length), (8, nI k), (9, .bool (decide (((k : Nat) : Int) < ((l.length : Nat) : Int))))] [] ?_ ?_
 refine qSeq ?_ ?_
 by_cases hb1 : ((k : Nat) : Int) < ((l.length : Nat) : Int)
 refine qt (decide_eq_true hb1) ?_ ?_
 refine qK ?_ ?_
 refine qz [(0, .imm (l.map (AVal.int .i64))), (1, .int .i64 (n)), (7, nI l.length), (8, nI k)] ?_ ?_
 refine qSeq ?_ ?_
 refine qB 1 ?_ ?_ ?_
 refine qU 2 [(0, .imm (l.map (AVal.int .i64))), (1, .int .i64 (n)), (5, nI k), (7, nI l.length), (8, nI k)] ?_ ?_
 refine qV 3 ?_ ?_
 refine qy (o_ixmap (k := .i64) (l := l) (enc := (AVal.int .i64)) (i := ((k : Nat) : Int)) 0 (by kernel_rfl) ty26 ty3 (fun _ => rfl) (by omega) (by omega)) ?_ ?_ ?_
 refine qR 2 [(0, .imm (l.map (AVal.int .i64))), (1, .int .i64 (n)), (5, nI k), (7, nI l.length), (8, nI k), (16, .bool ((n) == ((l.getD k 0))))] [] ?_ ?_
 by_cases hb2 : (n) = ((l.getD k 0))
 refine qt (beq_iff_eq.2 hb2) ?_ ?_
 refine qV 2 ?_ ?_
 refine qT ?_ ?_
 apply iR
 apply aR
 apply aR
 apply iR
 apply aR
 refine leafI (n := ((k : Nat) : Int)) (.inr rfl) (by kernel_rfl) ?_
 rotate_left
 iterate 3 kernel_rfl
 refine qf (beq_eq_false_iff_ne.2 hb2) ?_ ?_
 refine qk ?_ ?_
 refine AIn_normal ?_
 refine AThen_normal ?_
 refine qz [(0, .imm (l.map (AVal.int .i64))), (1, .int .i64 (n)), (7, nI l.length), (8, nI k)] ?_ ?_
 refine qo ?_ ?_
 refine qy (o_add (a := ((k : Nat) : Int)) (b := 1) (by kernel_rfl) (by omega) (by omega)) ?_ ?_ ?_
 refine qr 1 ?_ ?_
 refine qe ?_ ?_
 refine AThen_normal ⟨k + 1, ?_, ?_, ⟨⟨(by kernel_rfl), (by kernel_rfl), (by kernel_rfl), (by kernel_rfl), trivial⟩, by simp [BelL, AVal.bel], by simp, (by kernel_rfl), by simp⟩⟩
 · omega
 · refine ⟨by omega, fun i hi => ?_⟩
   rcases Nat.lt_succ_iff_lt_or_eq.1 hi with h | h
   · exact ha i h
   · subst h; assumption
 iterate 19 kernel_rfl
 refine qf (decide_eq_false hb1) ?_ ?_
 refine wExit 0 (by kernel_rfl) (by kernel_rfl) ?_
 refine AThen_exit ?_
 refine AThen_exit ?_
 refine AIn_exit ?_
 refine AThen_normal ?_
 refine qz [] ?_ ?_
 refine qV 1 ?_ ?_
 refine qT ?_ ?_
 refine leafI (n := (-1)) (.inr rfl) (by kernel_rfl) ?_
 rotate_left
 iterate 15 kernel_rfl
 all_goals
  first | exact idxI_some (by omega) ha (by assumption) | exact idxI_none (fun i hi => ha i (by omega))
noncomputable def c88 : Code := bodyOf Tryz.f88
theorem hasInt_spec (l : List Int) (n : Int) (hn : l.length < 1000000000) : CallsP cx 88 [.imm (l.map (AVal.int .i64)), .int .i64 (n)] (.bool (l.contains n)) := by
 refine func_intro (cx := cx) 9 0 [(ResultVar.tmp 4)] Tryz.func88 rfl rfl rfl rfl rfl (by simp) ?_
 show wpA cx 9 0 (at_ c88 []) _ _ _
 refine qZ [(0, .imm (l.map (AVal.int .i64))), (1, .int .i64 (n))] [] ?_ ?_
 refine qU 1 [(0, .imm (l.map (AVal.int .i64))), (1, .int .i64 (n))] ?_ ?_
 refine qV 2 ?_ ?_
 refine vcallP (args := [.imm (l.map (AVal.int .i64)), .int .i64 (n)]) (by kernel_rfl) (by kernel_rfl) (by kernel_rfl) (by kernel_rfl) (ixInt_spec l (n) (by first | omega | (simp; omega))) (by simp [Ty.v, frzL_app, Occ.v]) (by simp [Ty.v]) (by simp [Ty.v, ownsL_app]) ?_
 refine qX 2 ?_ ?_
 refine leafB (b := (decide ((idxI l (n)) ≥ 0))) (.inr rfl) (by kernel_rfl) ?_
 · exact idxI_contains l n
 iterate 4 kernel_rfl
noncomputable def c79 : Code := bodyOf Tryz.f79
theorem hasR_spec (l : List Int) (n : Int) (hn : l.length < 1000000000) : CallsP cx 79 [.imm (l.map (AVal.int .i64)), .int .i64 (n)] (.bool (l.contains n)) := by
 refine func_intro (cx := cx) 18 0 [(ResultVar.tmp 4)] Tryz.func79 rfl rfl rfl rfl rfl (by simp) ?_
 show wpA cx 18 0 (at_ c79 []) _ _ _
 refine qZ [(0, .imm (l.map (AVal.int .i64))), (1, .int .i64 (n))] [] ?_ ?_
 refine qU 1 [(0, .imm (l.map (AVal.int .i64))), (1, .int .i64 (n))] ?_ ?_
 refine qSeq ?_ ?_
 refine qU 1 [(0, .imm (l.map (AVal.int .i64))), (1, .int .i64 (n)), (5, .int .i64 0)] ?_ ?_
 refine qB 0 ?_ ?_ ?_
 refine wLoop (σ := Nat) (fun k => [(0, .imm (l.map (AVal.int .i64))), (1, .int .i64 (n)), (5, .int .i64 ((k : Nat) : Int))]) (fun k => []) (fun k => k ≤ l.length ∧ ∀ i, i < k → ¬ l.getD i 0 = n) (fun k => l.length - k) 0 (by kernel_rfl) (by simp) ⟨⟨(by kernel_rfl), (by kernel_rfl), (by kernel_rfl), trivial⟩, by simp [BelL, AVal.bel], by simp, (by kernel_rfl), by simp⟩ ?_
 rintro k ⟨hk, ha⟩
 refine qSeq ?_ ?_
 refine qV 2 ?_ ?_
 refine qy (o_lenmap (l := l) (enc := (AVal.int .i64)) (by kernel_rfl) ty26) ?_ ?_ ?_
 refine qR 1 [(0, .imm (l.map (AVal.int .i64))), (1, .int .i64 (n)), (5, nI k), (9, .bool (decide (((k : Nat) : Int) < ((l.length : Nat) : Int))))] [] ?_ ?_
 by_cases hb1 : ((k : Nat) : Int) < ((l.length : Nat) : Int)
 refine qt (decide_eq_true hb1) ?_ ?_
 refine qK ?_ ?_
 refine qz [(0, .imm (l.map (AVal.int .i64))), (1, .int .i64 (n)), (5, nI k)] ?_ ?_
 refine qSeq ?_ ?_
 refine qB 1 ?_ ?_ ?_
 refine qV 2 ?_ ?_
 refine qy (o_ixmap (k := .i64) (l := l) (enc := (AVal.int .i64)) (i := ((k : Nat) : Int)) 0 (by kernel_rfl) ty26 ty3 (fun _ => rfl) (by omega) (by omega)) ?_ ?_ ?_
 refine qR 3 [(0, .imm (l.map (AVal.int .i64))), (1, .int .i64 (n)), (5, nI k), (17, .bool (((l.getD k 0)) == (n)))] [] ?_ ?_
 by_cases hb2 : ((l.getD k 0)) = (n)
 refine qt (beq_iff_eq.2 hb2) ?_ ?_
 refine qV 1 ?_ ?_
 refine qT ?_ ?_
 apply iR
 apply aR
 apply aR
 apply iR
 apply aR
 refine leafB (b := true) (.inr rfl) (by kernel_rfl) ?_
 rotate_left
 iterate 3 kernel_rfl
 refine qf (beq_eq_false_iff_ne.2 hb2) ?_ ?_
 refine qk ?_ ?_
 refine AIn_normal ?_
 refine AThen_normal ?_
 refine qz [(0, .imm (l.map (AVal.int .i64))), (1, .int .i64 (n)), (5, nI k)] ?_ ?_
 refine qo ?_ ?_
 refine qr 1 ?_ ?_
 refine qy (o_add (a := ((k : Nat) : Int)) (b := 1) (by kernel_rfl) (by omega) (by omega)) ?_ ?_ ?_
 refine qr 1 ?_ ?_
 refine qe ?_ ?_
 refine AThen_normal ⟨k + 1, ?_, ?_, ⟨⟨(by kernel_rfl), (by kernel_rfl), (by kernel_rfl), trivial⟩, by simp [BelL, AVal.bel], by simp, (by kernel_rfl), by simp⟩⟩
 · omega
 · refine ⟨by omega, fun i hi => ?_⟩
   rcases Nat.lt_succ_iff_lt_or_eq.1 hi with h | h
   · exact ha i h
   · subst h; assumption
 iterate 19 kernel_rfl
 refine qf (decide_eq_false hb1) ?_ ?_
 refine wExit 0 (by kernel_rfl) (by kernel_rfl) ?_
 refine AThen_exit ?_
 refine AThen_exit ?_
 refine AIn_exit ?_
 refine AThen_normal ?_
 refine qz [] ?_ ?_
 refine qV 1 ?_ ?_
 refine qT ?_ ?_
 refine leafB (b := false) (.inr rfl) (by kernel_rfl) ?_
 rotate_left
 iterate 15 kernel_rfl
 all_goals
  first | exact (has_yes (k := k) (by omega) (by assumption)).symm | exact (has_no (fun i hi => ha i (by omega))).symm
def addN (l : List Int) (n : Int) : List Int := if l.contains n then l else l ++ [n]
def visN (l : List Int) (t : Ty) : List Int := ((occs t).map Occ.n).foldl addN l
def visNL (l : List Int) (ks : List Ty) : List Int := ((occsL ks).map Occ.n).foldl addN l
def stepN (l : List Int) (t : Ty) : List Int := if isV t.kind t.n then addN l t.n else l
theorem visN_oth (l : List Int) (t : Ty) (h : ¬ t.kind = 5) : visN l t = visNL (stepN l t) t.kids := by
  unfold visN visNL stepN isV
  rw [occs_eq, occV, occR, if_neg (fun hc : t.kind = 5 ∧ t.n ≠ 0 => h hc.1), List.append_nil]
  by_cases h6 : t.kind = 6
  · rw [if_pos h6, if_pos (by simp [h6])]; rfl
  · rw [if_neg h6, if_neg (by simp [h6, h])]; rfl
theorem visN_rec (l : List Int) (t : Ty) (h : t.kind = 5) : visN l t = stepN (visNL l t.kids) t := by
  unfold visN visNL stepN isV
  rw [occs_eq, occV, occR, if_neg (by omega), List.nil_append, List.map_append, List.foldl_append]
  by_cases hn : t.n = 0
  · rw [if_neg (fun hc => hc.2 hn), if_neg (by simp [h, hn])]; rfl
  · rw [if_pos ⟨h, hn⟩, if_pos (by simp [h, hn])]; rfl
theorem visNL_take (l : List Int) (ks : List Ty) (k : Nat) (h : k < ks.length) : visNL l (ks.take (k + 1)) = visN (visNL l (ks.take k)) (ks.getD k Ty.zero) := by
  unfold visNL visN
  rw [occsL_take ks k h, List.map_append, List.foldl_append]
theorem addN_len (l : List Int) (n : Int) : (addN l n).length ≤ l.length + 1 := by unfold addN; split <;> simp
theorem foldN_len : ∀ (xs l : List Int), (xs.foldl addN l).length ≤ l.length + xs.length
  | [], l => by simp
  | x :: xs, l => by have := foldN_len xs (addN l x); have := addN_len l x; simp only [List.foldl_cons, List.length_cons]; omega
theorem visN_len (l : List Int) (t : Ty) : (visN l t).length ≤ l.length + t.sz := by
  have := foldN_len ((occs t).map Occ.n) l; have := occs_len t; rw [List.length_map] at *; unfold visN; omega
theorem visNL_len (l : List Int) (ks : List Ty) : (visNL l ks).length ≤ l.length + Ty.szL ks := by
  have := foldN_len ((occsL ks).map Occ.n) l; have := occsL_len ks; rw [List.length_map] at *; unfold visNL; omega
theorem stepN_len (l : List Int) (t : Ty) : (stepN l t).length ≤ l.length + 1 := by
  unfold stepN; split
  · exact addN_len l t.n
  · omega
def hpN (u : Ty) (l : List Int) : AHeap := [u.bx, .box [.own 2 0 l.length], .arr 1 (l.map (AVal.int .i64)) (l.map (AVal.int .i64)).length]
def hpR (u : Ty) (l : List Int) (t : Ty) : AHeap := if isV t.kind t.n = true ∧ ¬ l.contains t.n = true then [u.bx, .box [.own 2 0 (l ++ [t.n]).length], .arr 1 ((l ++ [t.n]).map (AVal.int .i64)) (l.map (AVal.int .i64)).length] else hpN u l
noncomputable def c112 : Code := bodyOf Tryz.f112
theorem num1_raw (t u : Ty) (l : List Int) (hl : l.length < 900000000) : CallsA cx 112 [Ty.v t, .ptr 1 0] (hpN u l) (fun v h => v = (.tup []) ∧ h = hpR u l t) := by
 refine func_intro (cx := cx) 17 3 [] Tryz.func112 rfl rfl rfl rfl rfl (by simp) ?_
 show wpA cx 17 3 (at_ c112 []) _ _ _
 refine qZ [(0, Ty.v t), (1, .ptr 1 0)] [u.bx, .box [.own 2 0 l.length], .arr 1 (l.map (AVal.int .i64)) (l.map (AVal.int .i64)).length] ?_ ?_
 refine qW 1 [(1, .ptr 1 0), (2, .ptr 3 0)] [u.bx, .box [.own 2 0 l.length], .arr 1 (l.map (AVal.int .i64)) (l.map (AVal.int .i64)).length, t.bx] ?_ ?_
 refine qV 1 ?_ ?_
 refine vcallH (args := [.agg [.int .i64 (t.kind), .str t.name, .int .i64 (t.n), .imm (t.names.map AVal.str), .imm (t.kids.map Ty.enc)]]) (v := .bool (isV (t.kind) (t.n))) (h' := [.box [.int .i64 (u.kind), .str u.name, .int .i64 (u.n), .imm (u.names.map AVal.str), .imm (u.kids.map Ty.enc)], .box [.own 2 0 l.length], .arr 1 (l.map (AVal.int .i64)) (l.map (AVal.int .i64)).length, .box [.int .i64 (t.kind), .str t.name, .int .i64 (t.n), .imm (t.names.map AVal.str), .imm (t.kids.map Ty.enc)]]) [.box [.int .i64 (u.kind), .str u.name, .int .i64 (u.n), .imm (u.names.map AVal.str), .imm (u.kids.map Ty.enc)], .box [.own 2 0 l.length], .arr 1 (l.map (AVal.int .i64)) (l.map (AVal.int .i64)).length, .box [.int .i64 (t.kind), .str t.name, .int .i64 (t.n), .imm (t.names.map AVal.str), .imm (t.kids.map Ty.enc)]] (by kernel_rfl) (by kernel_rfl) (by kernel_rfl) (by kernel_rfl) (by kernel_rfl) (CallsA_head (vars_any (t.kind) (t.n) t.name) rfl rfl rfl) ?_
 refine qr 1 ?_ ?_
 by_cases hb1 : (isV (t.kind) (t.n)) = true
 refine qm [4, 5] (hb1) ?_ ?_
 refine qr 3 ?_ ?_
 refine vZ (args := [.own 2 0 l.length, .int .i64 (t.n)]) (F := [.box [.int .i64 (u.kind), .str u.name, .int .i64 (u.n), .imm (u.names.map AVal.str), .imm (u.kids.map Ty.enc)], .box [.own 2 0 l.length], .arr 1 (l.map (AVal.int .i64)) (l.map (AVal.int .i64)).length, .box [.int .i64 (t.kind), .str t.name, .int .i64 (t.n), .imm (t.names.map AVal.str), .imm (t.kids.map Ty.enc)]]) (by kernel_rfl) (by kernel_rfl) (by kernel_rfl) (by kernel_rfl) (hasInt_spec l (t.n) (by omega)) [.box [.int .i64 (u.kind), .str u.name, .int .i64 (u.n), .imm (u.names.map AVal.str), .imm (u.kids.map Ty.enc)], .box [.own 2 0 l.length], .arr 1 (l.map (AVal.int .i64)) (l.map (AVal.int .i64)).length, .box [.int .i64 (t.kind), .str t.name, .int .i64 (t.n), .imm (t.names.map AVal.str), .imm (t.kids.map Ty.enc)]] (by kernel_rfl) (by simp [frzL, frzH, ownsL, AVal.frz, AVal.owns]) (by simp [Ty.v]) (by simp [frzL, frzH, ownsL, AVal.frz, AVal.owns]) ?_
 refine qR 2 [(1, .ptr 1 0), (2, .ptr 3 0), (11, .bool (!(l.contains (t.n))))] [u.bx, .box [.own 2 0 l.length], .arr 1 (l.map (AVal.int .i64)) (l.map (AVal.int .i64)).length, t.bx] ?_ ?_
 by_cases hb2 : (l.contains (t.n)) = true
 refine qf (x := (!(l.contains (t.n)))) (congrArg not (hb2)) ?_ ?_
 refine qk ?_ ?_
 refine leafA (l := []) (.inl rfl) (by kernel_rfl) (by simp [awrap]) (by simp [awrap]) (by simp [awrap]) ?_ ?_
 refine Eq.trans (b := [.box [.int .i64 (u.kind), .str u.name, .int .i64 (u.n), .imm (u.names.map AVal.str), .imm (u.kids.map Ty.enc)], .box [.own 2 0 l.length], .arr 1 (l.map (AVal.int .i64)) (l.map (AVal.int .i64)).length]) (by kernel_rfl) ?_
 rotate_left
 · first | (simp [AObj.belO, hpN, Ty.v]; done) | (unfold hpR; split <;> simp [AObj.belO, hpN, Ty.v, -List.map_append])
 iterate 2 kernel_rfl
 refine qt (x := (!(l.contains (t.n)))) (congrArg not (Bool.eq_false_iff.2 hb2)) ?_ ?_
 refine qo ?_ ?_
 refine qr 4 ?_ ?_
 refine qY (o_appmap (o := 2) (len := l.length) (l := l) (xs := [(t.n)]) (enc := (AVal.int .i64)) (sz := 1) (fr := (l.map (AVal.int .i64)).length) (x := (.full [.int .i64 (t.n)])) (by kernel_rfl) ty26 ty3 ty26 rfl (by kernel_rfl) rfl (by first | rfl | simp) (by kernel_rfl) ⟨by decide, by kernel_rfl⟩ (fun _ => rfl) (by simp only [List.length_append, List.length_map, List.length_cons, List.length_nil]; omega) (by simp only [List.length_append, List.length_map, List.length_cons, List.length_nil]; omega)) ?_ ?_ ?_
 refine qr 1 ?_ ?_
 refine qe ?_ ?_
 refine leafA (l := []) (.inl rfl) (by kernel_rfl) (by simp [awrap]) (by simp [awrap]) (by simp [awrap]) ?_ ?_
 refine Eq.trans (b := [.box [.int .i64 (u.kind), .str u.name, .int .i64 (u.n), .imm (u.names.map AVal.str), .imm (u.kids.map Ty.enc)], .box [.own 2 0 (l ++ [(t.n)]).length], .arr 1 ((l ++ [(t.n)]).map (AVal.int .i64)) (l.map (AVal.int .i64)).length]) (by kernel_rfl) ?_
 rotate_left
 · first | (simp [AObj.belO, hpN, Ty.v]; done) | (unfold hpR; split <;> simp [AObj.belO, hpN, Ty.v, -List.map_append])
 iterate 10 kernel_rfl
 refine qm [4, 5] (Bool.eq_false_iff.2 hb1) ?_ ?_
 refine qR 6 [(1, .ptr 1 0), (2, .ptr 3 0), (11, .bool false)] [u.bx, .box [.own 2 0 l.length], .arr 1 (l.map (AVal.int .i64)) (l.map (AVal.int .i64)).length, t.bx] ?_ ?_
 refine wIfF (by kernel_rfl) (by kernel_rfl) ?_
 refine qk ?_ ?_
 refine leafA (l := []) (.inl rfl) (by kernel_rfl) (by simp [awrap]) (by simp [awrap]) (by simp [awrap]) ?_ ?_
 refine Eq.trans (b := [.box [.int .i64 (u.kind), .str u.name, .int .i64 (u.n), .imm (u.names.map AVal.str), .imm (u.kids.map Ty.enc)], .box [.own 2 0 l.length], .arr 1 (l.map (AVal.int .i64)) (l.map (AVal.int .i64)).length]) (by kernel_rfl) ?_
 rotate_left
 · first | (simp [AObj.belO, hpN, Ty.v]; done) | (unfold hpR; split <;> simp [AObj.belO, hpN, Ty.v, -List.map_append])
 iterate 7 kernel_rfl
 all_goals
  unfold hpR
  first | (rw [if_pos ⟨by assumption, by assumption⟩]; done) | (rw [if_pos ⟨by assumption, by assumption⟩]; rfl) | (rw [if_neg (fun hc => absurd hc.1 (by assumption))]; rfl) | (rw [if_neg (fun hc => hc.2 (by assumption))]; rfl)
theorem num1_spec (t u : Ty) (l : List Int) (hl : l.length < 900000000) : CallsA cx 112 [t.v, .ptr 1 0] (hpN u l) (fun v h => v = .tup [] ∧ h = hpN u (stepN l t)) := by
  refine CallsA_lock [2] (num1_raw t u l hl) ?_
  unfold hpR stepN addN
  by_cases h1 : isV t.kind t.n = true
  · by_cases h2 : l.contains t.n = true
    · rw [if_neg (fun hc => hc.2 h2), if_pos h1, if_pos h2]; rfl
    · rw [if_pos ⟨h1, h2⟩, if_pos h1, if_neg h2]; rfl
  · rw [if_neg (fun hc => h1 hc.1), if_neg h1]; rfl
theorem szL_at : ∀ (ks : List Ty) (k : Nat), k < ks.length → Ty.szL (ks.take k) + (ks.getD k Ty.zero).sz ≤ Ty.szL ks
  | [], k, h => by simp at h
  | x :: ks, 0, _ => by simp only [List.take_zero, Ty.szL, List.getD_cons_zero]; omega
  | x :: ks, k + 1, h => by have := szL_at ks k (by simpa using h); simp only [List.take_succ_cons, Ty.szL, List.getD_cons_succ]; omega
theorem visitN_spec (t u : Ty) (l : List Int) (hs : t.sz < 100000000) (hl : l.length + t.sz < 800000000) : CallsA cx 54 [Ty.v t, .fn (.func 112) [] [.ptr 1 0]] (hpN u l) (fun v h => v = (.tup []) ∧ h = hpN u (visN l t)) := by
 induction hN : t.sz using Nat.strongRecOn generalizing t u l with | _ N ih =>
 have ihV : ∀ (t' u : Ty) (l : List Int), t'.sz < t.sz → l.length + t'.sz < 800000000 → CallsA cx 54 [t'.v, .fn (.func 112) [] [.ptr 1 0]] (hpN u l) (fun v h => v = .tup [] ∧ h = hpN u (visN l t')) := fun t' u l h1 h2 => ih _ (by rw [← hN]; exact h1) t' u l (by omega) h2 rfl
 have hz2 := sz_kids t
 have hzz := sz_eq t
 have hsl := stepN_len l t
 refine func_intro (cx := cx) 29 3 [] Tryz.func54 rfl rfl rfl rfl rfl (by simp) ?_
 show wpA cx 29 3 (at_ c54 []) _ _ _
 refine qZ [(0, Ty.v t), (1, .fn (.func 112) [] [.ptr 1 0])] [u.bx, .box [.own 2 0 l.length], .arr 1 (l.map (AVal.int .i64)) (l.map (AVal.int .i64)).length] ?_ ?_
 refine qW 1 [(1, .fn (.func 112) [] [.ptr 1 0]), (2, .ptr 3 0)] [u.bx, .box [.own 2 0 l.length], .arr 1 (l.map (AVal.int .i64)) (l.map (AVal.int .i64)).length, t.bx] ?_ ?_
 refine qSeq ?_ ?_
 refine qU 3 [(1, .fn (.func 112) [] [.ptr 1 0]), (2, .ptr 3 0), (8, .bool ((t.kind) != 5))] ?_ ?_
 by_cases hb1 : (t.kind) = 5
 refine qf (x := ((t.kind) != 5)) (bne_eq_false_iff_eq.2 hb1) ?_ ?_
 refine qK ?_ ?_
 refine qz [(1, .fn (.func 112) [] [.ptr 1 0]), (2, .ptr 3 0)] ?_ ?_
 refine qSeq ?_ ?_
 refine qV 2 ?_ ?_
 refine qy (o_lenmap (l := t.kids) (enc := Ty.enc) (by kernel_rfl) ty23) ?_ ?_ ?_
 refine qR 1 [(1, .fn (.func 112) [] [.ptr 1 0]), (2, .ptr 3 0), (13, .imm (t.kids.map Ty.enc)), (14, nI t.kids.length), (15, .int .i64 0)] [u.bx, .box [.own 2 0 l.length], .arr 1 (l.map (AVal.int .i64)) (l.map (AVal.int .i64)).length, t.bx] ?_ ?_
 refine qB 0 ?_ ?_ ?_
 refine wLoop (σ := Nat) (fun k => [(1, .fn (.func 112) [] [.ptr 1 0]), (2, .ptr 3 0), (13, .imm (t.kids.map Ty.enc)), (14, .int .i64 ((t.kids.length : Nat) : Int)), (15, .int .i64 ((k : Nat) : Int))]) (fun k => [.box [.int .i64 (u.kind), .str u.name, .int .i64 (u.n), .imm (u.names.map AVal.str), .imm (u.kids.map Ty.enc)], .box [.own 2 0 (visNL l (t.kids.take k)).length], .arr 1 ((visNL l (t.kids.take k)).map (AVal.int .i64)) ((visNL l (t.kids.take k)).map (AVal.int .i64)).length, .box [.int .i64 (t.kind), .str t.name, .int .i64 (t.n), .imm (t.names.map AVal.str), .imm (t.kids.map Ty.enc)]]) (fun k => k ≤ t.kids.length) (fun k => t.kids.length - k) 0 (by kernel_rfl) (by exact Nat.zero_le _) ⟨⟨(by kernel_rfl), (by kernel_rfl), (by kernel_rfl), (by kernel_rfl), (by kernel_rfl), trivial⟩, by simp [BelL, AVal.bel], by simp, (by kernel_rfl), by simp [AObj.belO]⟩ ?_
 rintro k hk
 have hvl := visNL_len l (t.kids.take k)
 have hst := szL_take t.kids k
 have hkd := fun h => szL_at t.kids k h
 refine qW 1 [(1, .fn (.func 112) [] [.ptr 1 0]), (2, .ptr 3 0), (13, .imm (t.kids.map Ty.enc)), (14, nI t.kids.length), (15, nI k), (16, .bool (decide (((k : Nat) : Int) < ((t.kids.length : Nat) : Int))))] [u.bx, .box [.own 2 0 (visNL l (t.kids.take k)).length], .arr 1 ((visNL l (t.kids.take k)).map (AVal.int .i64)) ((visNL l (t.kids.take k)).map (AVal.int .i64)).length, t.bx] ?_ ?_
 refine qSeq ?_ ?_
 by_cases hb2 : ((k : Nat) : Int) < ((t.kids.length : Nat) : Int)
 refine qt (decide_eq_true hb2) ?_ ?_
 refine qK ?_ ?_
 refine qz [(1, .fn (.func 112) [] [.ptr 1 0]), (2, .ptr 3 0), (13, .imm (t.kids.map Ty.enc)), (14, nI t.kids.length), (15, nI k)] ?_ ?_
 refine qSeq ?_ ?_
 refine qB 1 ?_ ?_ ?_
 refine qO ?_ ?_
 refine qy ((o_ixmap (k := .i64) (l := t.kids) (enc := Ty.enc) (i := ((k : Nat) : Int)) Ty.zero (by kernel_rfl) ty23 ty25 ty_size (by first | omega | exact sz_kid t k (by omega) | (have := hkd (by omega); omega)) (by first | omega | exact sz_kid t k (by omega) | (have := hkd (by omega); omega))).trans (congrArg (fun cs => some (AVal.pimm cs 0, _)) (ty_cells (t.kids.getD k Ty.zero)))) ?_ ?_ ?_
 refine qR 3 [(1, .fn (.func 112) [] [.ptr 1 0]), (2, .ptr 3 0), (5, .ptr 4 0), (13, .imm (t.kids.map Ty.enc)), (14, nI t.kids.length), (15, nI k)] [u.bx, .box [.own 2 0 (visNL l (t.kids.take k)).length], .arr 1 ((visNL l (t.kids.take k)).map (AVal.int .i64)) ((visNL l (t.kids.take k)).map (AVal.int .i64)).length, t.bx, .box [.int .i64 ((t.kids.getD k Ty.zero).kind), .str (t.kids.getD k Ty.zero).name, .int .i64 ((t.kids.getD k Ty.zero).n), .imm ((t.kids.getD k Ty.zero).names.map AVal.str), .imm ((t.kids.getD k Ty.zero).kids.map Ty.enc)]] ?_ ?_
 refine qo ?_ ?_
 refine qr 2 ?_ ?_
 refine vcallA (args := [.agg [.int .i64 ((t.kids.getD k Ty.zero).kind), .str (t.kids.getD k Ty.zero).name, .int .i64 ((t.kids.getD k Ty.zero).n), .imm ((t.kids.getD k Ty.zero).names.map AVal.str), .imm ((t.kids.getD k Ty.zero).kids.map Ty.enc)], .fn (.func 112) [] [.ptr 1 0]]) (hs := [.box [.int .i64 (u.kind), .str u.name, .int .i64 (u.n), .imm (u.names.map AVal.str), .imm (u.kids.map Ty.enc)], .box [.own 2 0 (visNL l (t.kids.take k)).length], .arr 1 ((visNL l (t.kids.take k)).map (AVal.int .i64)) ((visNL l (t.kids.take k)).map (AVal.int .i64)).length]) (hs' := [.box [.int .i64 (u.kind), .str u.name, .int .i64 (u.n), .imm (u.names.map AVal.str), .imm (u.kids.map Ty.enc)], .box [.own 2 0 (visN (visNL l (t.kids.take k)) (t.kids.getD k Ty.zero)).length], .arr 1 ((visN (visNL l (t.kids.take k)) (t.kids.getD k Ty.zero)).map (AVal.int .i64)) ((visN (visNL l (t.kids.take k)) (t.kids.getD k Ty.zero)).map (AVal.int .i64)).length]) (rest := [.box [.int .i64 (t.kind), .str t.name, .int .i64 (t.n), .imm (t.names.map AVal.str), .imm (t.kids.map Ty.enc)], .box [.int .i64 ((t.kids.getD k Ty.zero).kind), .str (t.kids.getD k Ty.zero).name, .int .i64 ((t.kids.getD k Ty.zero).n), .imm ((t.kids.getD k Ty.zero).names.map AVal.str), .imm ((t.kids.getD k Ty.zero).kids.map Ty.enc)]]) (by kernel_rfl) (by kernel_rfl) (by kernel_rfl) (by kernel_rfl) (by kernel_rfl) (ihV (t.kids.getD k Ty.zero) u (visNL l (t.kids.take k)) (by first | omega | exact sz_kid t k (by omega) | (have := hkd (by omega); omega)) (by first | omega | exact sz_kid t k (by omega) | (have := hkd (by omega); omega))) (by simp [AObj.belO, hpN, Ty.v]) (by simp [AObj.belO, hpN, Ty.v]) rfl (by simp [AObj.belO, hpN, Ty.v]) (by simp [AObj.belO, hpN, Ty.v]) (by kernel_rfl) ?_
 refine qe ?_ ?_
 refine AIn_normal ?_
 refine AThen_normal ?_
 refine qZ [(1, .fn (.func 112) [] [.ptr 1 0]), (2, .ptr 3 0), (13, .imm (t.kids.map Ty.enc)), (14, nI t.kids.length), (15, nI k)] [u.bx, .box [.own 2 0 (visN (visNL l (t.kids.take k)) (t.kids.getD k Ty.zero)).length], .arr 1 ((visN (visNL l (t.kids.take k)) (t.kids.getD k Ty.zero)).map (AVal.int .i64)) ((visN (visNL l (t.kids.take k)) (t.kids.getD k Ty.zero)).map (AVal.int .i64)).length, t.bx, .box [.int .i64 ((t.kids.getD k Ty.zero).kind), .str (t.kids.getD k Ty.zero).name, .int .i64 ((t.kids.getD k Ty.zero).n), .imm ((t.kids.getD k Ty.zero).names.map AVal.str), .imm ((t.kids.getD k Ty.zero).kids.map Ty.enc)]] ?_ ?_
 refine qo ?_ ?_
 refine qy (o_add (a := ((k : Nat) : Int)) (b := 1) (by kernel_rfl) (by first | omega | exact sz_kid t k (by omega) | (have := hkd (by omega); omega)) (by first | omega | exact sz_kid t k (by omega) | (have := hkd (by omega); omega))) ?_ ?_ ?_
 refine qr 1 ?_ ?_
 refine qe ?_ ?_
 refine AThen_normal ⟨k + 1, ?_, ?_, ⟨⟨(by kernel_rfl), (by kernel_rfl), (by kernel_rfl), (by kernel_rfl), (by kernel_rfl), trivial⟩, by simp [BelL, AVal.bel], by simp, (Eq.trans (b := [.box [.int .i64 (u.kind), .str u.name, .int .i64 (u.n), .imm (u.names.map AVal.str), .imm (u.kids.map Ty.enc)], .box [.own 2 0 (visN (visNL l (t.kids.take k)) (t.kids.getD k Ty.zero)).length], .arr 1 ((visN (visNL l (t.kids.take k)) (t.kids.getD k Ty.zero)).map (AVal.int .i64)) ((visN (visNL l (t.kids.take k)) (t.kids.getD k Ty.zero)).map (AVal.int .i64)).length, .box [.int .i64 (t.kind), .str t.name, .int .i64 (t.n), .imm (t.names.map AVal.str), .imm (t.kids.map Ty.enc)]]) (by kernel_rfl) (by exact congrArg (fun q => hpN u q ++ [t.bx]) (visNL_take _ t.kids k (by omega)).symm)), by simp [AObj.belO]⟩⟩
 · omega
 · omega
 iterate 19 kernel_rfl
 refine qf (decide_eq_false hb2) ?_ ?_
 refine wExit 0 (by kernel_rfl) (by kernel_rfl) ?_
 refine AThen_exit ?_
 refine AThen_exit ?_
 refine AIn_exit ?_
 refine AThen_normal ?_
 refine qz [(1, .fn (.func 112) [] [.ptr 1 0]), (2, .ptr 3 0)] ?_ ?_
 refine qU 3 [(1, .fn (.func 112) [] [.ptr 1 0]), (2, .ptr 3 0), (25, .bool ((t.kind) == 5))] ?_ ?_
 refine qt (beq_iff_eq.2 hb1) ?_ ?_
 refine qo ?_ ?_
 refine qr 2 ?_ ?_
 refine vcallA (args := [.agg [.int .i64 (t.kind), .str t.name, .int .i64 (t.n), .imm (t.names.map AVal.str), .imm (t.kids.map Ty.enc)], .ptr 1 0]) (hs := [.box [.int .i64 (u.kind), .str u.name, .int .i64 (u.n), .imm (u.names.map AVal.str), .imm (u.kids.map Ty.enc)], .box [.own 2 0 (visNL l (t.kids.take k)).length], .arr 1 ((visNL l (t.kids.take k)).map (AVal.int .i64)) ((visNL l (t.kids.take k)).map (AVal.int .i64)).length]) (hs' := [.box [.int .i64 (u.kind), .str u.name, .int .i64 (u.n), .imm (u.names.map AVal.str), .imm (u.kids.map Ty.enc)], .box [.own 2 0 (stepN (visNL l (t.kids.take k)) t).length], .arr 1 ((stepN (visNL l (t.kids.take k)) t).map (AVal.int .i64)) ((stepN (visNL l (t.kids.take k)) t).map (AVal.int .i64)).length]) (rest := [.box [.int .i64 (t.kind), .str t.name, .int .i64 (t.n), .imm (t.names.map AVal.str), .imm (t.kids.map Ty.enc)]]) (by kernel_rfl) (by kernel_rfl) (by kernel_rfl) (by kernel_rfl) (by kernel_rfl) (num1_spec t u (visNL l (t.kids.take k)) (by first | omega | exact sz_kid t k (by omega) | (have := hkd (by omega); omega))) (by simp [AObj.belO, hpN, Ty.v]) (by simp [AObj.belO, hpN, Ty.v]) rfl (by simp [AObj.belO, hpN, Ty.v]) (by simp [AObj.belO, hpN, Ty.v]) (by kernel_rfl) ?_
 refine qe ?_ ?_
 refine leafA (l := []) (.inl rfl) (by kernel_rfl) (by simp [awrap]) (by simp [awrap]) (by simp [awrap]) ?_ ?_
 refine Eq.trans (b := [.box [.int .i64 (u.kind), .str u.name, .int .i64 (u.n), .imm (u.names.map AVal.str), .imm (u.kids.map Ty.enc)], .box [.own 2 0 (stepN (visNL l (t.kids.take k)) t).length], .arr 1 ((stepN (visNL l (t.kids.take k)) t).map (AVal.int .i64)) ((stepN (visNL l (t.kids.take k)) t).map (AVal.int .i64)).length]) (by kernel_rfl) ?_
 rotate_left
 · simp [AObj.belO, hpN, Ty.v]
 iterate 19 kernel_rfl
 refine qt (x := ((t.kind) != 5)) (bne_iff_ne.2 hb1) ?_ ?_
 refine qo ?_ ?_
 refine qr 2 ?_ ?_
 refine vcallA (args := [.agg [.int .i64 (t.kind), .str t.name, .int .i64 (t.n), .imm (t.names.map AVal.str), .imm (t.kids.map Ty.enc)], .ptr 1 0]) (hs := [.box [.int .i64 (u.kind), .str u.name, .int .i64 (u.n), .imm (u.names.map AVal.str), .imm (u.kids.map Ty.enc)], .box [.own 2 0 l.length], .arr 1 (l.map (AVal.int .i64)) (l.map (AVal.int .i64)).length]) (hs' := [.box [.int .i64 (u.kind), .str u.name, .int .i64 (u.n), .imm (u.names.map AVal.str), .imm (u.kids.map Ty.enc)], .box [.own 2 0 (stepN l t).length], .arr 1 ((stepN l t).map (AVal.int .i64)) ((stepN l t).map (AVal.int .i64)).length]) (rest := [.box [.int .i64 (t.kind), .str t.name, .int .i64 (t.n), .imm (t.names.map AVal.str), .imm (t.kids.map Ty.enc)]]) (by kernel_rfl) (by kernel_rfl) (by kernel_rfl) (by kernel_rfl) (by kernel_rfl) (num1_spec t u l (by first | omega | exact sz_kid t k (by omega) | (have := hkd (by omega); omega))) (by simp [AObj.belO, hpN, Ty.v]) (by simp [AObj.belO, hpN, Ty.v]) rfl (by simp [AObj.belO, hpN, Ty.v]) (by simp [AObj.belO, hpN, Ty.v]) (by kernel_rfl) ?_
 refine qN [(1, .fn (.func 112) [] [.ptr 1 0]), (2, .ptr 3 0)] [u.bx, .box [.own 2 0 (stepN l t).length], .arr 1 ((stepN l t).map (AVal.int .i64)) ((stepN l t).map (AVal.int .i64)).length, t.bx] ?_ ?_
 refine qSeq ?_ ?_
 refine qV 2 ?_ ?_
 refine qy (o_lenmap (l := t.kids) (enc := Ty.enc) (by kernel_rfl) ty23) ?_ ?_ ?_
 refine qR 1 [(1, .fn (.func 112) [] [.ptr 1 0]), (2, .ptr 3 0), (13, .imm (t.kids.map Ty.enc)), (14, nI t.kids.length), (15, .int .i64 0)] [u.bx, .box [.own 2 0 (stepN l t).length], .arr 1 ((stepN l t).map (AVal.int .i64)) ((stepN l t).map (AVal.int .i64)).length, t.bx] ?_ ?_
 refine qB 0 ?_ ?_ ?_
 refine wLoop (σ := Nat) (fun k => [(1, .fn (.func 112) [] [.ptr 1 0]), (2, .ptr 3 0), (13, .imm (t.kids.map Ty.enc)), (14, .int .i64 ((t.kids.length : Nat) : Int)), (15, .int .i64 ((k : Nat) : Int))]) (fun k => [.box [.int .i64 (u.kind), .str u.name, .int .i64 (u.n), .imm (u.names.map AVal.str), .imm (u.kids.map Ty.enc)], .box [.own 2 0 (visNL (stepN l t) (t.kids.take k)).length], .arr 1 ((visNL (stepN l t) (t.kids.take k)).map (AVal.int .i64)) ((visNL (stepN l t) (t.kids.take k)).map (AVal.int .i64)).length, .box [.int .i64 (t.kind), .str t.name, .int .i64 (t.n), .imm (t.names.map AVal.str), .imm (t.kids.map Ty.enc)]]) (fun k => k ≤ t.kids.length) (fun k => t.kids.length - k) 0 (by kernel_rfl) (by exact Nat.zero_le _) ⟨⟨(by kernel_rfl), (by kernel_rfl), (by kernel_rfl), (by kernel_rfl), (by kernel_rfl), trivial⟩, by simp [BelL, AVal.bel], by simp, (by kernel_rfl), by simp [AObj.belO]⟩ ?_
 rintro k hk
 have hvl := visNL_len (stepN l t) (t.kids.take k)
 have hst := szL_take t.kids k
 have hkd := fun h => szL_at t.kids k h
 refine qW 1 [(1, .fn (.func 112) [] [.ptr 1 0]), (2, .ptr 3 0), (13, .imm (t.kids.map Ty.enc)), (14, nI t.kids.length), (15, nI k), (16, .bool (decide (((k : Nat) : Int) < ((t.kids.length : Nat) : Int))))] [u.bx, .box [.own 2 0 (visNL (stepN l t) (t.kids.take k)).length], .arr 1 ((visNL (stepN l t) (t.kids.take k)).map (AVal.int .i64)) ((visNL (stepN l t) (t.kids.take k)).map (AVal.int .i64)).length, t.bx] ?_ ?_
 refine qSeq ?_ ?_
 by_cases hb4 : ((k : Nat) : Int) < ((t.kids.length : Nat) : Int)
 refine qt (decide_eq_true hb4) ?_ ?_
 refine qK ?_ ?_
 refine qz [(1, .fn (.func 112) [] [.ptr 1 0]), (2, .ptr 3 0), (13, .imm (t.kids.map Ty.enc)), (14, nI t.kids.length), (15, nI k)] ?_ ?_
 refine qSeq ?_ ?_
 refine qB 1 ?_ ?_ ?_
 refine qO ?_ ?_
 refine qy ((o_ixmap (k := .i64) (l := t.kids) (enc := Ty.enc) (i := ((k : Nat) : Int)) Ty.zero (by kernel_rfl) ty23 ty25 ty_size (by first | omega | exact sz_kid t k (by omega) | (have := hkd (by omega); omega)) (by first | omega | exact sz_kid t k (by omega) | (have := hkd (by omega); omega))).trans (congrArg (fun cs => some (AVal.pimm cs 0, _)) (ty_cells (t.kids.getD k Ty.zero)))) ?_ ?_ ?_
 refine qR 3 [(1, .fn (.func 112) [] [.ptr 1 0]), (2, .ptr 3 0), (5, .ptr 4 0), (13, .imm (t.kids.map Ty.enc)), (14, nI t.kids.length), (15, nI k)] [u.bx, .box [.own 2 0 (visNL (stepN l t) (t.kids.take k)).length], .arr 1 ((visNL (stepN l t) (t.kids.take k)).map (AVal.int .i64)) ((visNL (stepN l t) (t.kids.take k)).map (AVal.int .i64)).length, t.bx, .box [.int .i64 ((t.kids.getD k Ty.zero).kind), .str (t.kids.getD k Ty.zero).name, .int .i64 ((t.kids.getD k Ty.zero).n), .imm ((t.kids.getD k Ty.zero).names.map AVal.str), .imm ((t.kids.getD k Ty.zero).kids.map Ty.enc)]] ?_ ?_
 refine qo ?_ ?_
 refine qr 2 ?_ ?_
 refine vcallA (args := [.agg [.int .i64 ((t.kids.getD k Ty.zero).kind), .str (t.kids.getD k Ty.zero).name, .int .i64 ((t.kids.getD k Ty.zero).n), .imm ((t.kids.getD k Ty.zero).names.map AVal.str), .imm ((t.kids.getD k Ty.zero).kids.map Ty.enc)], .fn (.func 112) [] [.ptr 1 0]]) (hs := [.box [.int .i64 (u.kind), .str u.name, .int .i64 (u.n), .imm (u.names.map AVal.str), .imm (u.kids.map Ty.enc)], .box [.own 2 0 (visNL (stepN l t) (t.kids.take k)).length], .arr 1 ((visNL (stepN l t) (t.kids.take k)).map (AVal.int .i64)) ((visNL (stepN l t) (t.kids.take k)).map (AVal.int .i64)).length]) (hs' := [.box [.int .i64 (u.kind), .str u.name, .int .i64 (u.n), .imm (u.names.map AVal.str), .imm (u.kids.map Ty.enc)], .box [.own 2 0 (visN (visNL (stepN l t) (t.kids.take k)) (t.kids.getD k Ty.zero)).length], .arr 1 ((visN (visNL (stepN l t) (t.kids.take k)) (t.kids.getD k Ty.zero)).map (AVal.int .i64)) ((visN (visNL (stepN l t) (t.kids.take k)) (t.kids.getD k Ty.zero)).map (AVal.int .i64)).length]) (rest := [.box [.int .i64 (t.kind), .str t.name, .int .i64 (t.n), .imm (t.names.map AVal.str), .imm (t.kids.map Ty.enc)], .box [.int .i64 ((t.kids.getD k Ty.zero).kind), .str (t.kids.getD k Ty.zero).name, .int .i64 ((t.kids.getD k Ty.zero).n), .imm ((t.kids.getD k Ty.zero).names.map AVal.str), .imm ((t.kids.getD k Ty.zero).kids.map Ty.enc)]]) (by kernel_rfl) (by kernel_rfl) (by kernel_rfl) (by kernel_rfl) (by kernel_rfl) (ihV (t.kids.getD k Ty.zero) u (visNL (stepN l t) (t.kids.take k)) (by first | omega | exact sz_kid t k (by omega) | (have := hkd (by omega); omega)) (by first | omega | exact sz_kid t k (by omega) | (have := hkd (by omega); omega))) (by simp [AObj.belO, hpN, Ty.v]) (by simp [AObj.belO, hpN, Ty.v]) rfl (by simp [AObj.belO, hpN, Ty.v]) (by simp [AObj.belO, hpN, Ty.v]) (by kernel_rfl) ?_
 refine qe ?_ ?_
 refine AIn_normal ?_
 refine AThen_normal ?_
 refine qZ [(1, .fn (.func 112) [] [.ptr 1 0]), (2, .ptr 3 0), (13, .imm (t.kids.map Ty.enc)), (14, nI t.kids.length), (15, nI k)] [u.bx, .box [.own 2 0 (visN (visNL (stepN l t) (t.kids.take k)) (t.kids.getD k Ty.zero)).length], .arr 1 ((visN (visNL (stepN l t) (t.kids.take k)) (t.kids.getD k Ty.zero)).map (AVal.int .i64)) ((visN (visNL (stepN l t) (t.kids.take k)) (t.kids.getD k Ty.zero)).map (AVal.int .i64)).length, t.bx, .box [.int .i64 ((t.kids.getD k Ty.zero).kind), .str (t.kids.getD k Ty.zero).name, .int .i64 ((t.kids.getD k Ty.zero).n), .imm ((t.kids.getD k Ty.zero).names.map AVal.str), .imm ((t.kids.getD k Ty.zero).kids.map Ty.enc)]] ?_ ?_
 refine qo ?_ ?_
 refine qy (o_add (a := ((k : Nat) : Int)) (b := 1) (by kernel_rfl) (by first | omega | exact sz_kid t k (by omega) | (have := hkd (by omega); omega)) (by first | omega | exact sz_kid t k (by omega) | (have := hkd (by omega); omega))) ?_ ?_ ?_
 refine qr 1 ?_ ?_
 refine qe ?_ ?_
 refine AThen_normal ⟨k + 1, ?_, ?_, ⟨⟨(by kernel_rfl), (by kernel_rfl), (by kernel_rfl), (by kernel_rfl), (by kernel_rfl), trivial⟩, by simp [BelL, AVal.bel], by simp, (Eq.trans (b := [.box [.int .i64 (u.kind), .str u.name, .int .i64 (u.n), .imm (u.names.map AVal.str), .imm (u.kids.map Ty.enc)], .box [.own 2 0 (visN (visNL (stepN l t) (t.kids.take k)) (t.kids.getD k Ty.zero)).length], .arr 1 ((visN (visNL (stepN l t) (t.kids.take k)) (t.kids.getD k Ty.zero)).map (AVal.int .i64)) ((visN (visNL (stepN l t) (t.kids.take k)) (t.kids.getD k Ty.zero)).map (AVal.int .i64)).length, .box [.int .i64 (t.kind), .str t.name, .int .i64 (t.n), .imm (t.names.map AVal.str), .imm (t.kids.map Ty.enc)]]) (by kernel_rfl) (by exact congrArg (fun q => hpN u q ++ [t.bx]) (visNL_take _ t.kids k (by omega)).symm)), by simp [AObj.belO]⟩⟩
 · omega
 · omega
 iterate 19 kernel_rfl
 refine qf (decide_eq_false hb4) ?_ ?_
 refine wExit 0 (by kernel_rfl) (by kernel_rfl) ?_
 refine AThen_exit ?_
 refine AThen_exit ?_
 refine AIn_exit ?_
 refine AThen_normal ?_
 refine qz [(1, .fn (.func 112) [] [.ptr 1 0]), (2, .ptr 3 0)] ?_ ?_
 refine qU 3 [(1, .fn (.func 112) [] [.ptr 1 0]), (2, .ptr 3 0), (25, .bool ((t.kind) == 5))] ?_ ?_
 refine qf (beq_eq_false_iff_ne.2 hb1) ?_ ?_
 refine qk ?_ ?_
 refine leafA (l := []) (.inl rfl) (by kernel_rfl) (by simp [awrap]) (by simp [awrap]) (by simp [awrap]) ?_ ?_
 refine Eq.trans (b := [.box [.int .i64 (u.kind), .str u.name, .int .i64 (u.n), .imm (u.names.map AVal.str), .imm (u.kids.map Ty.enc)], .box [.own 2 0 (visNL (stepN l t) (t.kids.take k)).length], .arr 1 ((visNL (stepN l t) (t.kids.take k)).map (AVal.int .i64)) ((visNL (stepN l t) (t.kids.take k)).map (AVal.int .i64)).length]) (by kernel_rfl) ?_
 rotate_left
 · simp [AObj.belO, hpN, Ty.v]
 iterate 22 kernel_rfl
 all_goals
  refine congrArg (hpN u) ?_
  first | rw [visN_oth l t (by assumption), List.take_of_length_le (by omega)] | rw [visN_rec l t (by assumption), List.take_of_length_le (by omega)]
end Go.Proofs.YtdikgijfekfaoaaGreatDoor
