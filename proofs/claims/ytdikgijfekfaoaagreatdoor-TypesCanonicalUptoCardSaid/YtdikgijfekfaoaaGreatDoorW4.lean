/- Canonical of both packages. Condition: sizes that can be had. -/
import Derived.Test.YtdikgijfekfaoaaGreatDoorW3
import Derived.Test.YtdikgijfekfaoaaGreatDoorAbsc
set_option linter.all false
set_option linter.unusedSimpArgs false
set_option linter.unusedVariables false
namespace Go.Proofs.YtdikgijfekfaoaaGreatDoor
open Go.Proofs.YtdikgijfekfaoaaGreatDoor.Abs
set_option maxRecDepth 20000
set_option maxHeartbeats 4000000
def stF (F : List Int) (t : Ty) : List Int := (visN [] t).foldl addN F
def frL (l : List Ty) (i : Nat) : List Int := (l.take i).foldl stF []
def inF (F : List Int) (t : Ty) (k : Nat) : List Int := ((visN [] t).take k).foldl addN F
theorem inF_succ {F : List Int} {t : Ty} {k : Nat} (h : k < (visN [] t).length) : inF F t (k + 1) = addN (inF F t k) ((visN [] t).getD k 0) := by
  unfold inF; rw [take_at _ k 0 h, List.foldl_append]; rfl
theorem inF_end {F : List Int} {t : Ty} {k : Nat} (h : (visN [] t).length ≤ k) : inF F t k = stF F t := by unfold inF stF; rw [List.take_of_length_le h]
theorem frL_succ {l : List Ty} {i : Nat} (h : i < l.length) : frL l (i + 1) = stF (frL l i) (l.getD i Ty.zero) := by
  unfold frL; rw [take_at _ i Ty.zero h, List.foldl_append]; rfl
theorem inF_len (F : List Int) (t : Ty) (k : Nat) : (inF F t k).length ≤ F.length + t.sz := by
  have h1 := foldN_len ((visN [] t).take k) F
  have h2 := visN_len [] t
  rw [List.length_take] at h1
  simp only [List.length_nil] at h2
  unfold inF; omega
theorem stF_len (F : List Int) (t : Ty) : (stF F t).length ≤ F.length + t.sz := by rw [← inF_end (Nat.le_refl _)]; exact inF_len F t _
def okT (l : List Ty) : Prop := l.length ≤ 8 ∧ ∀ i, (l.getD i Ty.zero).sz < 100000000
theorem frL_len {l : List Ty} (hl : okT l) : ∀ i, i ≤ l.length → (frL l i).length ≤ i * 100000000
  | 0, _ => by simp [frL]
  | i + 1, h => by
    have h1 := frL_len hl i (by omega)
    have h2 := stF_len (frL l i) (l.getD i Ty.zero)
    have h3 := hl.2 i
    rw [frL_succ (by omega), Nat.add_mul]
    omega
theorem fr8 {l : List Ty} (hl : okT l) {i : Nat} (hi : i ≤ l.length) : (frL l i).length ≤ 800000000 := by
  have h1 := frL_len hl i hi
  have h2 := hl.1
  have h3 : i * 100000000 ≤ 8 * 100000000 := Nat.mul_le_mul_right _ (by omega)
  omega
theorem fr7 {l : List Ty} (hl : okT l) {i : Nat} (hi : i < l.length) : (frL l i).length ≤ 700000000 := by
  have h1 := frL_len hl i (by omega)
  have h2 := hl.1
  have h3 : i * 100000000 ≤ 7 * 100000000 := Nat.mul_le_mul_right _ (by omega)
  omega
/-- The table of the numbers: each with its place from 1 on. -/
def atF : List Int → Nat → At
  | [], _ => []
  | n :: F, k => (n, ((k + 1 : Nat) : Int)) :: atF F (k + 1)
def atM (F : List Int) : At := atF F 0
theorem atF_len : ∀ (F : List Int) (k : Nat), (atF F k).length = F.length
  | [], _ => rfl
  | n :: F, k => by simp [atF, atF_len F]
theorem atM_len (F : List Int) : (atM F).length = F.length := atF_len F 0
theorem atF_get : ∀ (F : List Int) (k : Nat) (n : Int), (F.contains n = false → mget n (atF F k) = none) ∧ (∀ x, mget n (atF F k) = some x → F.contains n = true ∧ (k : Int) < x)
  | [], k, n => ⟨fun _ => rfl, fun x h => by simp [atF, mget] at h⟩
  | a :: F, k, n => by
    obtain ⟨h1, h2⟩ := atF_get F (k + 1) n
    refine ⟨fun h => ?_, fun x h => ?_⟩
    · rw [List.contains_cons, Bool.or_eq_false_iff] at h
      rw [atF, mget, if_neg (by simpa using h.1)]
      exact h1 h.2
    · rw [atF, mget] at h
      split at h
      · rename_i e
        cases h
        exact ⟨by rw [List.contains_cons]; simp [show n = a from e], by omega⟩
      · have := h2 x h
        exact ⟨by rw [List.contains_cons, this.1, Bool.or_true], by omega⟩
theorem atF_app : ∀ (F : List Int) (k : Nat) (n : Int), F.contains n = false → mset n ((F.length + k + 1 : Nat) : Int) (atF F k) = atF (F ++ [n]) k
  | [], k, n, _ => by simp [atF, mset]
  | a :: F, k, n, h => by
    rw [List.contains_cons, Bool.or_eq_false_iff] at h
    have := atF_app F (k + 1) n h.2
    rw [atF, mset, if_neg (by simpa using h.1), List.cons_append, atF, ← this]
    congr 3
    simp only [List.length_cons]; omega
theorem at_no {F : List Int} {n : Int} (h : mget n (atM F) = none) : mset n ((((atM F).length + 1) : Nat) : Int) (atM F) = atM (addN F n) := by
  have hc : F.contains n = false := by
    cases hc : F.contains n with
    | false => rfl
    | true =>
      exfalso
      revert h hc
      unfold atM
      generalize 0 = k
      induction F generalizing k with
      | nil => intro _ h; simp at h
      | cons a F ih =>
        intro h hc
        rw [atF, mget] at h
        split at h
        · cases h
        · rename_i hne
          rw [List.contains_cons] at hc
          have : (n == a) = false := by simpa using hne
          rw [this, Bool.false_or] at hc
          exact ih _ h hc
  rw [atM_len, addN, if_neg (by rw [hc]; simp)]
  exact atF_app F 0 n hc
theorem at_yes {F : List Int} {n x : Int} (h : mget n (atM F) = some x) : addN F n = F := by rw [addN, if_pos ((atF_get F 0 n).2 x h).1]
theorem at_pos {F : List Int} {n x : Int} (h : mget n (atM F) = some x) : 0 < x := ((atF_get F 0 n).2 x h).2
def numF (l : List Ty) : Int → Int := numM (atM (frL l l.length))
def cnL (l : List Ty) (k : Nat) : List Ty := (l.take k).map (renT (numF l))
def canT (l : List Ty) : List Ty := l.map (renT (numF l))
theorem cnL_succ {l : List Ty} {k : Nat} (h : k < l.length) : cnL l k ++ [renT (numM (atM (frL l l.length))) (l.getD k Ty.zero)] = cnL l (k + 1) := by
  unfold cnL; rw [take_snocT _ _ h, List.map_append]; rfl
theorem cnL_len (l : List Ty) (k : Nat) : (cnL l k).length ≤ k := by unfold cnL; rw [List.length_map, List.length_take]; omega
theorem cnL_end {l : List Ty} {k : Nat} (h : l.length ≤ k) : cnL l k = canT l := by unfold cnL canT; rw [List.take_of_length_le h]
noncomputable def c29 : Code := bodyOf Tryz.f29
theorem canon_spec (l : List Ty) (hl : okT l) : CallsP cx 29 [.imm (l.map Ty.enc)] (.imm ((canT l).map Ty.enc)) := by
 obtain ⟨hl1, hl2⟩ := id hl
 have hf7 := fun (i : Nat) h => fr7 (i := i) hl h
 have hf8 := fun (i : Nat) h => fr8 (i := i) hl h
 refine func_intro (cx := cx) 50 0 [(ResultVar.tmp 2)] Tryz.func29 rfl rfl rfl rfl rfl (by simp) ?_
 show wpA cx 50 0 (at_ c29 []) _ _ _
 refine qZ [(0, .imm (l.map Ty.enc))] [] ?_ ?_
 refine qU 1 [(0, .imm (l.map Ty.enc))] ?_ ?_
 refine qW 3 [(0, .imm (l.map Ty.enc)), (3, .ptr 1 0)] [.map (encM (AVal.int .i64) (AVal.int .i64) ([] : List (Int × Int))), .box [.map 0]] ?_ ?_
 refine qSeq ?_ ?_
 refine qV 1 ?_ ?_
 refine qy (o_lenmap (l := l) (enc := Ty.enc) (by kernel_rfl) ty23) ?_ ?_ ?_
 refine qR 1 [(0, .imm (l.map Ty.enc)), (3, .ptr 1 0), (12, .imm (l.map Ty.enc)), (13, nI l.length), (14, .int .i64 0)] [.map (encM (AVal.int .i64) (AVal.int .i64) ([] : List (Int × Int))), .box [.map 0]] ?_ ?_
 refine qB 0 ?_ ?_ ?_
 refine wLoop (σ := Nat) (fun i => [(0, .imm (l.map Ty.enc)), (3, .ptr 1 0), (12, .imm (l.map Ty.enc)), (13, .int .i64 ((l.length : Nat) : Int)), (14, .int .i64 ((i : Nat) : Int))]) (fun i => [.map (encM (AVal.int .i64) (AVal.int .i64) (atM (frL l i))), .box [.map 0]]) (fun i => i ≤ l.length) (fun i => l.length - i) 0 (by kernel_rfl) (by exact Nat.zero_le _) ⟨⟨(by kernel_rfl), (by kernel_rfl), (by kernel_rfl), (by kernel_rfl), (by kernel_rfl), trivial⟩, by simp [BelL, AVal.bel], by simp, (by kernel_rfl), by simp [AObj.belO]⟩ ?_
 rintro i hi
 refine qW 1 [(0, .imm (l.map Ty.enc)), (3, .ptr 1 0), (12, .imm (l.map Ty.enc)), (13, nI l.length), (14, nI i), (15, .bool (decide (((i : Nat) : Int) < ((l.length : Nat) : Int))))] [.map (encM (AVal.int .i64) (AVal.int .i64) (atM (frL l i))), .box [.map 0]] ?_ ?_
 refine qSeq ?_ ?_
 by_cases hb1 : ((i : Nat) : Int) < ((l.length : Nat) : Int)
 refine qt (decide_eq_true hb1) ?_ ?_
 refine qK ?_ ?_
 refine qz [(0, .imm (l.map Ty.enc)), (3, .ptr 1 0), (12, .imm (l.map Ty.enc)), (13, nI l.length), (14, nI i)] ?_ ?_
 refine qSeq ?_ ?_
 refine qB 1 ?_ ?_ ?_
 refine qO ?_ ?_
 refine qy ((o_ixmap (k := .i64) (l := l) (enc := Ty.enc) (i := ((i : Nat) : Int)) Ty.zero (by kernel_rfl) ty23 ty25 ty_size (by first | omega | exact hl2 _ | (have := hl2 i; have := hf7 i (by omega); omega)) (by first | omega | exact hl2 _ | (have := hl2 i; have := hf7 i (by omega); omega))).trans (congrArg (fun cs => some (AVal.pimm cs 0, _)) (ty_cells (l.getD i Ty.zero)))) ?_ ?_ ?_
 refine qR 3 [(0, .imm (l.map Ty.enc)), (3, .ptr 1 0), (5, .ptr 2 0), (12, .imm (l.map Ty.enc)), (13, nI l.length), (14, nI i)] [.map (encM (AVal.int .i64) (AVal.int .i64) (atM (frL l i))), .box [.map 0], .box [.int .i64 ((l.getD i Ty.zero).kind), .str (l.getD i Ty.zero).name, .int .i64 ((l.getD i Ty.zero).n), .imm ((l.getD i Ty.zero).names.map AVal.str), .imm ((l.getD i Ty.zero).kids.map Ty.enc)]] ?_ ?_
 refine qV 1 ?_ ?_
 refine vcallP (args := [.agg [.int .i64 ((l.getD i Ty.zero).kind), .str (l.getD i Ty.zero).name, .int .i64 ((l.getD i Ty.zero).n), .imm ((l.getD i Ty.zero).names.map AVal.str), .imm ((l.getD i Ty.zero).kids.map Ty.enc)]]) (by kernel_rfl) (by kernel_rfl) (by kernel_rfl) (by kernel_rfl) (numbers_spec (l.getD i Ty.zero) (by first | omega | exact hl2 _ | (have := hl2 i; have := hf7 i (by omega); omega))) (by simp [Ty.v, frzL_app, Occ.v]) (by simp [Ty.v]) (by simp [Ty.v, ownsL_app]) ?_
 refine qy (o_lenmap (l := (visN [] (l.getD i Ty.zero))) (enc := (AVal.int .i64)) (by kernel_rfl) ty26) ?_ ?_ ?_
 refine qR 1 [(0, .imm (l.map Ty.enc)), (3, .ptr 1 0), (12, .imm (l.map Ty.enc)), (13, nI l.length), (14, nI i), (19, .imm ((visN [] (l.getD i Ty.zero)).map (AVal.int .i64))), (20, nI ((visN [] (l.getD i Ty.zero)).length)), (21, .int .i64 0)] [.map (encM (AVal.int .i64) (AVal.int .i64) (atM (frL l i))), .box [.map 0], .box [.int .i64 ((l.getD i Ty.zero).kind), .str (l.getD i Ty.zero).name, .int .i64 ((l.getD i Ty.zero).n), .imm ((l.getD i Ty.zero).names.map AVal.str), .imm ((l.getD i Ty.zero).kids.map Ty.enc)]] ?_ ?_
 refine qB 2 ?_ ?_ ?_
 refine wLoop (σ := Nat) (fun k => [(0, .imm (l.map Ty.enc)), (3, .ptr 1 0), (12, .imm (l.map Ty.enc)), (13, .int .i64 ((l.length : Nat) : Int)), (14, .int .i64 ((i : Nat) : Int)), (19, .imm ((visN [] (l.getD i Ty.zero)).map (AVal.int .i64))), (20, .int .i64 (((visN [] (l.getD i Ty.zero)).length : Nat) : Int)), (21, .int .i64 ((k : Nat) : Int))]) (fun k => [.map (encM (AVal.int .i64) (AVal.int .i64) (atM (inF (frL l i) (l.getD i Ty.zero) k))), .box [.map 0], .box [.int .i64 ((l.getD i Ty.zero).kind), .str (l.getD i Ty.zero).name, .int .i64 ((l.getD i Ty.zero).n), .imm ((l.getD i Ty.zero).names.map AVal.str), .imm ((l.getD i Ty.zero).kids.map Ty.enc)]]) (fun k => k ≤ (visN [] (l.getD i Ty.zero)).length) (fun k => (visN [] (l.getD i Ty.zero)).length - k) 0 (by kernel_rfl) (by exact Nat.zero_le _) ⟨⟨(by kernel_rfl), (by kernel_rfl), (by kernel_rfl), (by kernel_rfl), (by kernel_rfl), (by kernel_rfl), (by kernel_rfl), (by kernel_rfl), trivial⟩, by simp [BelL, AVal.bel], by simp, (by kernel_rfl), by simp [AObj.belO]⟩ ?_
 rintro k hk
 have hvl : (visN [] (l.getD i Ty.zero)).length ≤ (l.getD i Ty.zero).sz := by have := visN_len [] (l.getD i Ty.zero); simpa using this
 have hil := inF_len (frL l i) (l.getD i Ty.zero) k
 have hal := atM_len (inF (frL l i) (l.getD i Ty.zero) k)
 refine qW 1 [(0, .imm (l.map Ty.enc)), (3, .ptr 1 0), (12, .imm (l.map Ty.enc)), (13, nI l.length), (14, nI i), (19, .imm ((visN [] (l.getD i Ty.zero)).map (AVal.int .i64))), (20, nI ((visN [] (l.getD i Ty.zero)).length)), (21, nI k), (22, .bool (decide (((k : Nat) : Int) < (((visN [] (l.getD i Ty.zero)).length : Nat) : Int))))] [.map (encM (AVal.int .i64) (AVal.int .i64) (atM (inF (frL l i) (l.getD i Ty.zero) k))), .box [.map 0], .box [.int .i64 ((l.getD i Ty.zero).kind), .str (l.getD i Ty.zero).name, .int .i64 ((l.getD i Ty.zero).n), .imm ((l.getD i Ty.zero).names.map AVal.str), .imm ((l.getD i Ty.zero).kids.map Ty.enc)]] ?_ ?_
 refine qSeq ?_ ?_
 by_cases hb2 : ((k : Nat) : Int) < (((visN [] (l.getD i Ty.zero)).length : Nat) : Int)
 refine qt (decide_eq_true hb2) ?_ ?_
 refine qK ?_ ?_
 refine qz [(0, .imm (l.map Ty.enc)), (3, .ptr 1 0), (12, .imm (l.map Ty.enc)), (13, nI l.length), (14, nI i), (19, .imm ((visN [] (l.getD i Ty.zero)).map (AVal.int .i64))), (20, nI ((visN [] (l.getD i Ty.zero)).length)), (21, nI k)] ?_ ?_
 refine qSeq ?_ ?_
 refine qB 3 ?_ ?_ ?_
 refine qO ?_ ?_
 refine qy (o_ixmap (k := .i64) (l := (visN [] (l.getD i Ty.zero))) (enc := (AVal.int .i64)) (i := ((k : Nat) : Int)) 0 (by kernel_rfl) ty26 ty3 (fun _ => rfl) (by first | omega | exact hl2 _ | (have := hl2 i; have := hf7 i (by omega); omega)) (by first | omega | exact hl2 _ | (have := hl2 i; have := hf7 i (by omega); omega))) ?_ ?_ ?_
 refine qR 2 [(0, .imm (l.map Ty.enc)), (3, .ptr 1 0), (7, .int .i64 (((visN [] (l.getD i Ty.zero)).getD k 0))), (12, .imm (l.map Ty.enc)), (13, nI l.length), (14, nI i), (19, .imm ((visN [] (l.getD i Ty.zero)).map (AVal.int .i64))), (20, nI ((visN [] (l.getD i Ty.zero)).length)), (21, nI k)] [.map (encM (AVal.int .i64) (AVal.int .i64) (atM (inF (frL l i) (l.getD i Ty.zero) k))), .box [.map 0], .box [.int .i64 ((l.getD i Ty.zero).kind), .str (l.getD i Ty.zero).name, .int .i64 ((l.getD i Ty.zero).n), .imm ((l.getD i Ty.zero).names.map AVal.str), .imm ((l.getD i Ty.zero).kids.map Ty.enc)]] ?_ ?_
 refine qV 2 ?_ ?_
 rcases hm3 : mget (((visN [] (l.getD i Ty.zero)).getD k 0)) (atM (inF (frL l i) (l.getD i Ty.zero) k)) with _ | x3
 refine qy (o_lookN (ok := false) (o := 0) (ek := (AVal.int .i64)) (ev := (AVal.int .i64)) (l := (atM (inF (frL l i) (l.getD i Ty.zero) k))) (k := (((visN [] (l.getD i Ty.zero)).getD k 0))) keyI hm3 (by kernel_rfl) ty98 ty3 rfl ty3 (by kernel_rfl)) ?_ ?_ ?_
 refine qR 1 [(0, .imm (l.map Ty.enc)), (3, .ptr 1 0), (7, .int .i64 (((visN [] (l.getD i Ty.zero)).getD k 0))), (12, .imm (l.map Ty.enc)), (13, nI l.length), (14, nI i), (19, .imm ((visN [] (l.getD i Ty.zero)).map (AVal.int .i64))), (20, nI ((visN [] (l.getD i Ty.zero)).length)), (21, nI k), (28, .bool true)] [.map (encM (AVal.int .i64) (AVal.int .i64) (atM (inF (frL l i) (l.getD i Ty.zero) k))), .box [.map 0], .box [.int .i64 ((l.getD i Ty.zero).kind), .str (l.getD i Ty.zero).name, .int .i64 ((l.getD i Ty.zero).n), .imm ((l.getD i Ty.zero).names.map AVal.str), .imm ((l.getD i Ty.zero).kids.map Ty.enc)]] ?_ ?_
 refine wIfT (by kernel_rfl) (by kernel_rfl) ?_
 refine qo ?_ ?_
 refine qr 3 ?_ ?_
 refine qy (o_lenM (o := 0) (ek := (AVal.int .i64)) (ev := (AVal.int .i64)) (l := (atM (inF (frL l i) (l.getD i Ty.zero) k))) (by kernel_rfl) ty98 (by kernel_rfl)) ?_ ?_ ?_
 refine qy (o_add (a := (((atM (inF (frL l i) (l.getD i Ty.zero) k)).length : Nat) : Int)) (b := 1) (by kernel_rfl) (by first | omega | exact hl2 _ | (have := hl2 i; have := hf7 i (by omega); omega)) (by first | omega | exact hl2 _ | (have := hl2 i; have := hf7 i (by omega); omega))) ?_ ?_ ?_
 refine qY (o_mset (o := 0) (ek := (AVal.int .i64)) (ev := (AVal.int .i64)) (l := (atM (inF (frL l i) (l.getD i Ty.zero) k))) (k := (((visN [] (l.getD i Ty.zero)).getD k 0))) (x := ((((atM (inF (frL l i) (l.getD i Ty.zero) k)).length + 1) : Nat) : Int)) keyI (by kernel_rfl) ty98 ty3 rfl (by kernel_rfl) (by kernel_rfl)) ?_ ?_ ?_
 refine qe ?_ ?_
 refine AIn_normal ?_
 refine AThen_normal ?_
 refine qZ [(0, .imm (l.map Ty.enc)), (3, .ptr 1 0), (12, .imm (l.map Ty.enc)), (13, nI l.length), (14, nI i), (19, .imm ((visN [] (l.getD i Ty.zero)).map (AVal.int .i64))), (20, nI ((visN [] (l.getD i Ty.zero)).length)), (21, nI k)] [.map (encM (AVal.int .i64) (AVal.int .i64) (mset (((visN [] (l.getD i Ty.zero)).getD k 0)) ((((atM (inF (frL l i) (l.getD i Ty.zero) k)).length + 1) : Nat) : Int) (atM (inF (frL l i) (l.getD i Ty.zero) k)))), .box [.map 0], .box [.int .i64 ((l.getD i Ty.zero).kind), .str (l.getD i Ty.zero).name, .int .i64 ((l.getD i Ty.zero).n), .imm ((l.getD i Ty.zero).names.map AVal.str), .imm ((l.getD i Ty.zero).kids.map Ty.enc)]] ?_ ?_
 refine qo ?_ ?_
 refine qy (o_add (a := ((k : Nat) : Int)) (b := 1) (by kernel_rfl) (by first | omega | exact hl2 _ | (have := hl2 i; have := hf7 i (by omega); omega)) (by first | omega | exact hl2 _ | (have := hl2 i; have := hf7 i (by omega); omega))) ?_ ?_ ?_
 refine qr 1 ?_ ?_
 refine qe ?_ ?_
 refine AThen_normal ⟨k + 1, ?_, ?_, ⟨⟨(by kernel_rfl), (by kernel_rfl), (by kernel_rfl), (by kernel_rfl), (by kernel_rfl), (by kernel_rfl), (by kernel_rfl), (by kernel_rfl), trivial⟩, by simp [BelL, AVal.bel], by simp, (Eq.trans (b := [.map (encM (AVal.int .i64) (AVal.int .i64) (mset (((visN [] (l.getD i Ty.zero)).getD k 0)) ((((atM (inF (frL l i) (l.getD i Ty.zero) k)).length + 1) : Nat) : Int) (atM (inF (frL l i) (l.getD i Ty.zero) k)))), .box [.map 0], .box [.int .i64 ((l.getD i Ty.zero).kind), .str (l.getD i Ty.zero).name, .int .i64 ((l.getD i Ty.zero).n), .imm ((l.getD i Ty.zero).names.map AVal.str), .imm ((l.getD i Ty.zero).kids.map Ty.enc)]]) (by kernel_rfl) (by first | rw [inF_succ (by omega), at_no (by assumption)] | rw [inF_succ (by omega), at_yes (by assumption)])), by simp [AObj.belO]⟩⟩
 · omega
 · omega
 iterate 18 kernel_rfl
 refine qy (o_lookS (ok := false) (o := 0) (ek := (AVal.int .i64)) (ev := (AVal.int .i64)) (l := (atM (inF (frL l i) (l.getD i Ty.zero) k))) (k := (((visN [] (l.getD i Ty.zero)).getD k 0))) (x := x3) keyI hm3 (by kernel_rfl) ty98 ty3 rfl ty3 (by kernel_rfl)) ?_ ?_ ?_
 refine qR 1 [(0, .imm (l.map Ty.enc)), (3, .ptr 1 0), (7, .int .i64 (((visN [] (l.getD i Ty.zero)).getD k 0))), (12, .imm (l.map Ty.enc)), (13, nI l.length), (14, nI i), (19, .imm ((visN [] (l.getD i Ty.zero)).map (AVal.int .i64))), (20, nI ((visN [] (l.getD i Ty.zero)).length)), (21, nI k), (28, .bool ((x3) == 0))] [.map (encM (AVal.int .i64) (AVal.int .i64) (atM (inF (frL l i) (l.getD i Ty.zero) k))), .box [.map 0], .box [.int .i64 ((l.getD i Ty.zero).kind), .str (l.getD i Ty.zero).name, .int .i64 ((l.getD i Ty.zero).n), .imm ((l.getD i Ty.zero).names.map AVal.str), .imm ((l.getD i Ty.zero).kids.map Ty.enc)]] ?_ ?_
 by_cases hb4 : (x3) = 0
 · exfalso; (have hz := at_pos (by assumption); omega)
 refine qf (beq_eq_false_iff_ne.2 hb4) ?_ ?_
 refine qk ?_ ?_
 refine AIn_normal ?_
 refine AThen_normal ?_
 refine qz [(0, .imm (l.map Ty.enc)), (3, .ptr 1 0), (12, .imm (l.map Ty.enc)), (13, nI l.length), (14, nI i), (19, .imm ((visN [] (l.getD i Ty.zero)).map (AVal.int .i64))), (20, nI ((visN [] (l.getD i Ty.zero)).length)), (21, nI k)] ?_ ?_
 refine qo ?_ ?_
 refine qy (o_add (a := ((k : Nat) : Int)) (b := 1) (by kernel_rfl) (by first | omega | exact hl2 _ | (have := hl2 i; have := hf7 i (by omega); omega)) (by first | omega | exact hl2 _ | (have := hl2 i; have := hf7 i (by omega); omega))) ?_ ?_ ?_
 refine qr 1 ?_ ?_
 refine qe ?_ ?_
 refine AThen_normal ⟨k + 1, ?_, ?_, ⟨⟨(by kernel_rfl), (by kernel_rfl), (by kernel_rfl), (by kernel_rfl), (by kernel_rfl), (by kernel_rfl), (by kernel_rfl), (by kernel_rfl), trivial⟩, by simp [BelL, AVal.bel], by simp, (Eq.trans (b := [.map (encM (AVal.int .i64) (AVal.int .i64) (atM (inF (frL l i) (l.getD i Ty.zero) k))), .box [.map 0], .box [.int .i64 ((l.getD i Ty.zero).kind), .str (l.getD i Ty.zero).name, .int .i64 ((l.getD i Ty.zero).n), .imm ((l.getD i Ty.zero).names.map AVal.str), .imm ((l.getD i Ty.zero).kids.map Ty.enc)]]) (by kernel_rfl) (by first | rw [inF_succ (by omega), at_no (by assumption)] | rw [inF_succ (by omega), at_yes (by assumption)])), by simp [AObj.belO]⟩⟩
 · omega
 · omega
 iterate 22 kernel_rfl
 refine qf (decide_eq_false hb2) ?_ ?_
 refine wExit 2 (by kernel_rfl) (by kernel_rfl) ?_
 refine AThen_exit ?_
 refine AThen_exit ?_
 refine AIn_exit ?_
 refine AIn_normal ?_
 refine AThen_normal ?_
 refine qz [(0, .imm (l.map Ty.enc)), (3, .ptr 1 0), (12, .imm (l.map Ty.enc)), (13, nI l.length), (14, nI i)] ?_ ?_
 refine qo ?_ ?_
 refine qy (o_add (a := ((i : Nat) : Int)) (b := 1) (by kernel_rfl) (by first | omega | exact hl2 _ | (have := hl2 i; have := hf7 i (by omega); omega)) (by first | omega | exact hl2 _ | (have := hl2 i; have := hf7 i (by omega); omega))) ?_ ?_ ?_
 refine qr 1 ?_ ?_
 refine qe ?_ ?_
 refine AThen_normal ⟨i + 1, ?_, ?_, ⟨⟨(by kernel_rfl), (by kernel_rfl), (by kernel_rfl), (by kernel_rfl), (by kernel_rfl), trivial⟩, by simp [BelL, AVal.bel], by simp, (Eq.trans (b := [.map (encM (AVal.int .i64) (AVal.int .i64) (atM (inF (frL l i) (l.getD i Ty.zero) k))), .box [.map 0]]) (by kernel_rfl) (by rw [inF_end (by omega), frL_succ (by omega)])), by simp [AObj.belO]⟩⟩
 · omega
 · omega
 iterate 25 kernel_rfl
 refine qf (decide_eq_false hb1) ?_ ?_
 refine wExit 0 (by kernel_rfl) (by kernel_rfl) ?_
 refine AThen_exit ?_
 refine AThen_exit ?_
 refine AIn_exit ?_
 refine AThen_normal ?_
 refine qz [(0, .imm (l.map Ty.enc)), (3, .ptr 1 0)] ?_ ?_
 refine qU 1 [(0, .imm (l.map Ty.enc)), (3, .ptr 1 0), (8, .full [])] ?_ ?_
 refine wOwn 8 5 (by decide) (by kernel_rfl) ?_
 refine qZ [(0, .imm (l.map Ty.enc)), (3, .ptr 1 0), (8, .own 2 0 0)] [.map (encM (AVal.int .i64) (AVal.int .i64) (atM (frL l i))), .box [.map 0], .arr 5 (([] : List (Ty)).map Ty.enc) 0] ?_ ?_
 refine qSeq ?_ ?_
 refine qV 1 ?_ ?_
 refine qy (o_lenmap (l := l) (enc := Ty.enc) (by kernel_rfl) ty23) ?_ ?_ ?_
 refine qR 1 [(3, .ptr 1 0), (8, .own 2 0 0), (36, .imm (l.map Ty.enc)), (37, nI l.length), (38, .int .i64 0)] [.map (encM (AVal.int .i64) (AVal.int .i64) (atM (frL l i))), .box [.map 0], .arr 5 (([] : List (Ty)).map Ty.enc) 0] ?_ ?_
 refine qB 4 ?_ ?_ ?_
 refine wLoop (σ := Nat) (fun k => [(3, .ptr 1 0), (8, .own 2 0 (cnL l k).length), (36, .imm (l.map Ty.enc)), (37, .int .i64 ((l.length : Nat) : Int)), (38, .int .i64 ((k : Nat) : Int))]) (fun k => [.map (encM (AVal.int .i64) (AVal.int .i64) (atM (frL l l.length))), .box [.map 0], .arr 5 ((cnL l k).map Ty.enc) 0]) (fun k => k ≤ l.length) (fun k => l.length - k) 0 (by kernel_rfl) (by exact Nat.zero_le _) ⟨⟨(by kernel_rfl), (by kernel_rfl), (by kernel_rfl), (by kernel_rfl), (by kernel_rfl), trivial⟩, by simp [BelL, AVal.bel], by simp, (Eq.trans (b := [.map (encM (AVal.int .i64) (AVal.int .i64) (atM (frL l i))), .box [.map 0], .arr 5 (([] : List (Ty)).map Ty.enc) 0]) (by kernel_rfl) (by simp only [show i = l.length by omega]; rfl)), by simp [AObj.belO, belL_app, Ty.enc_v]⟩ ?_
 rintro k hk
 have hcl := cnL_len l k
 refine qW 1 [(3, .ptr 1 0), (8, .own 2 0 (cnL l k).length), (36, .imm (l.map Ty.enc)), (37, nI l.length), (38, nI k), (39, .bool (decide (((k : Nat) : Int) < ((l.length : Nat) : Int))))] [.map (encM (AVal.int .i64) (AVal.int .i64) (atM (frL l l.length))), .box [.map 0], .arr 5 ((cnL l k).map Ty.enc) 0] ?_ ?_
 refine qSeq ?_ ?_
 by_cases hb5 : ((k : Nat) : Int) < ((l.length : Nat) : Int)
 refine qt (decide_eq_true hb5) ?_ ?_
 refine qK ?_ ?_
 refine qz [(3, .ptr 1 0), (8, .own 2 0 (cnL l k).length), (36, .imm (l.map Ty.enc)), (37, nI l.length), (38, nI k)] ?_ ?_
 refine qSeq ?_ ?_
 refine qB 5 ?_ ?_ ?_
 refine qO ?_ ?_
 refine qy ((o_ixmap (k := .i64) (l := l) (enc := Ty.enc) (i := ((k : Nat) : Int)) Ty.zero (by kernel_rfl) ty23 ty25 ty_size (by first | omega | exact hl2 _ | (have := hl2 i; have := hf7 i (by omega); omega)) (by first | omega | exact hl2 _ | (have := hl2 i; have := hf7 i (by omega); omega))).trans (congrArg (fun cs => some (AVal.pimm cs 0, _)) (ty_cells (l.getD k Ty.zero)))) ?_ ?_ ?_
 refine qR 3 [(3, .ptr 1 0), (8, .own 2 0 (cnL l k).length), (10, .ptr 3 0), (36, .imm (l.map Ty.enc)), (37, nI l.length), (38, nI k)] [.map (encM (AVal.int .i64) (AVal.int .i64) (atM (frL l l.length))), .box [.map 0], .arr 5 ((cnL l k).map Ty.enc) 0, .box [.int .i64 ((l.getD k Ty.zero).kind), .str (l.getD k Ty.zero).name, .int .i64 ((l.getD k Ty.zero).n), .imm ((l.getD k Ty.zero).names.map AVal.str), .imm ((l.getD k Ty.zero).kids.map Ty.enc)]] ?_ ?_
 refine qo ?_ ?_
 refine qr 3 ?_ ?_
 refine vcallA (args := [.agg [.int .i64 ((l.getD k Ty.zero).kind), .str (l.getD k Ty.zero).name, .int .i64 ((l.getD k Ty.zero).n), .imm ((l.getD k Ty.zero).names.map AVal.str), .imm ((l.getD k Ty.zero).kids.map Ty.enc)], .fn (.func 78) [] [.ptr 1 0]]) (hs := [.map (encM (AVal.int .i64) (AVal.int .i64) (atM (frL l l.length))), .box [.map 0]]) (hs' := [.map (encM (AVal.int .i64) (AVal.int .i64) (atM (frL l l.length))), .box [.map 0]]) (rest := [.arr 5 ((cnL l k).map Ty.enc) 0, .box [.int .i64 ((l.getD k Ty.zero).kind), .str (l.getD k Ty.zero).name, .int .i64 ((l.getD k Ty.zero).n), .imm ((l.getD k Ty.zero).names.map AVal.str), .imm ((l.getD k Ty.zero).kids.map Ty.enc)]]) (by kernel_rfl) (by kernel_rfl) (by kernel_rfl) (by kernel_rfl) (by kernel_rfl) (renum_spec (l.getD k Ty.zero) (atM (frL l l.length)) (by first | omega | exact hl2 _ | (have := hl2 i; have := hf7 i (by omega); omega))) (by simp [AObj.belO, Ty.v]) (by simp [AObj.belO, Ty.v]) rfl (by simp [AObj.belO, Ty.v]) (by simp [AObj.belO, Ty.v]) (by kernel_rfl) ?_
 refine qr 1 ?_ ?_
 refine qY (o_appmap (o := 2) (len := ((cnL l k).length)) (l := (cnL l k)) (xs := [(renT (numM (atM (frL l l.length))) (l.getD k Ty.zero))]) (enc := Ty.enc) (sz := 5) (fr := 0) (x := (.full [Ty.v (renT (numM (atM (frL l l.length))) (l.getD k Ty.zero))])) (by kernel_rfl) ty23 ty25 ty23 rfl (by kernel_rfl) rfl (by first | rfl | simp) (Eq.trans (b := some [Ty.v (renT (numM (atM (frL l l.length))) (l.getD k Ty.zero))]) (by kernel_rfl) (by simp [Ty.enc_v])) ⟨by decide, by kernel_rfl⟩ ty_ok (by simp only [List.length_append, List.length_cons, List.length_nil]; omega) (by simp only [List.length_append, List.length_cons, List.length_nil]; omega)) ?_ ?_ ?_
 refine qr 1 ?_ ?_
 refine qe ?_ ?_
 refine AIn_normal ?_
 refine AThen_normal ?_
 refine qZ [(3, .ptr 1 0), (8, .own 2 0 ((cnL l k) ++ [(renT (numM (atM (frL l l.length))) (l.getD k Ty.zero))]).length), (36, .imm (l.map Ty.enc)), (37, nI l.length), (38, nI k)] [.map (encM (AVal.int .i64) (AVal.int .i64) (atM (frL l l.length))), .box [.map 0], .arr 5 (((cnL l k) ++ [(renT (numM (atM (frL l l.length))) (l.getD k Ty.zero))]).map Ty.enc) 0, .box [.int .i64 ((l.getD k Ty.zero).kind), .str (l.getD k Ty.zero).name, .int .i64 ((l.getD k Ty.zero).n), .imm ((l.getD k Ty.zero).names.map AVal.str), .imm ((l.getD k Ty.zero).kids.map Ty.enc)]] ?_ ?_
 refine qo ?_ ?_
 refine qy (o_add (a := ((k : Nat) : Int)) (b := 1) (by kernel_rfl) (by first | omega | exact hl2 _ | (have := hl2 i; have := hf7 i (by omega); omega)) (by first | omega | exact hl2 _ | (have := hl2 i; have := hf7 i (by omega); omega))) ?_ ?_ ?_
 refine qr 1 ?_ ?_
 refine qe ?_ ?_
 refine AThen_normal ⟨k + 1, ?_, ?_, ⟨⟨(by kernel_rfl), (Eq.trans (b := .own 2 0 ((cnL l k) ++ [(renT (numM (atM (frL l l.length))) (l.getD k Ty.zero))]).length) (by kernel_rfl) (by rw [cnL_succ (by omega)])), (by kernel_rfl), (by kernel_rfl), (by kernel_rfl), trivial⟩, by simp [BelL, AVal.bel], by simp, (Eq.trans (b := [.map (encM (AVal.int .i64) (AVal.int .i64) (atM (frL l l.length))), .box [.map 0], .arr 5 (((cnL l k) ++ [(renT (numM (atM (frL l l.length))) (l.getD k Ty.zero))]).map Ty.enc) 0]) (by kernel_rfl) (by rw [cnL_succ (by omega)])), by simp [AObj.belO, belL_app, Ty.enc_v]⟩⟩
 · omega
 · omega
 iterate 23 kernel_rfl
 refine qf (decide_eq_false hb5) ?_ ?_
 refine wExit 4 (by kernel_rfl) (by kernel_rfl) ?_
 refine AThen_exit ?_
 refine AThen_exit ?_
 refine AIn_exit ?_
 refine AThen_normal ?_
 refine qz [(8, .own 2 0 (cnL l k).length)] ?_ ?_
 refine qU 2 [(2, .own 2 0 (cnL l k).length)] ?_ ?_
 refine wRet (by kernel_rfl) ?_
 refine leafP (l := [.own 2 0 (cnL l k).length]) (.inr rfl) (by kernel_rfl) ?_
 · rw [cnL_end (by omega)]
   simp [awrap, AVal.frz, frzL]
 iterate 28 kernel_rfl
def toL (k : Nat) : List Int := (List.range k).map fun i => ((i + 1 : Nat) : Int)
theorem toL_succ (F : List Int) (n : Int) : toL F.length ++ [(((F ++ [n]).length : Nat) : Int)] = toL (F ++ [n]).length := by
  unfold toL; rw [List.length_append, List.length_singleton, List.range_succ, List.map_append]; rfl
theorem toL_len (k : Nat) : (toL k).length = k := by simp [toL]
def rnumF (l : List Ty) : Int → Int := refN (frL l l.length) (toL (frL l l.length).length)
def rcnL (l : List Ty) (k : Nat) : List Ty := (l.take k).map (renT (rnumF l))
def rcanT (l : List Ty) : List Ty := l.map (renT (rnumF l))
theorem rcnL_succ {l : List Ty} {k : Nat} (h : k < l.length) : rcnL l k ++ [renT (refN (frL l l.length) (toL (frL l l.length).length)) (l.getD k Ty.zero)] = rcnL l (k + 1) := by
  unfold rcnL; rw [take_snocT _ _ h, List.map_append]; rfl
theorem rcnL_len (l : List Ty) (k : Nat) : (rcnL l k).length ≤ k := by unfold rcnL; rw [List.length_map, List.length_take]; omega
theorem rcnL_end {l : List Ty} {k : Nat} (h : l.length ≤ k) : rcnL l k = rcanT l := by unfold rcnL rcanT; rw [List.take_of_length_le h]
theorem ad_yes {F : List Int} {n : Int} (h : F.contains n = true) : F = addN F n := by rw [addN, if_pos h]
theorem ad_no {F : List Int} {n : Int} (h : ¬ F.contains n = true) : F ++ [n] = addN F n := by rw [addN, if_neg h]
noncomputable def c30 : Code := bodyOf Tryz.f30
theorem rcanon_spec (l : List Ty) (hl : okT l) : CallsP cx 30 [.imm (l.map Ty.enc)] (.imm ((rcanT l).map Ty.enc)) := by
 obtain ⟨hl1, hl2⟩ := id hl
 have hf7 := fun (i : Nat) h => fr7 (i := i) hl h
 have hf9 := fr8 hl (Nat.le_refl _)
 refine func_intro (cx := cx) 65 0 [(ResultVar.tmp 2)] Tryz.func30 rfl rfl rfl rfl rfl (by simp) ?_
 show wpA cx 65 0 (at_ c30 []) _ _ _
 refine qZ [(0, .imm (l.map Ty.enc))] [] ?_ ?_
 refine qU 1 [(0, .imm (l.map Ty.enc))] ?_ ?_
 refine qU 2 [(0, .imm (l.map Ty.enc)), (3, .full []), (4, .full [])] ?_ ?_
 refine wOwn 3 1 (by decide) (by kernel_rfl) ?_
 refine wOwn 4 1 (by decide) (by kernel_rfl) ?_
 refine qZ [(0, .imm (l.map Ty.enc)), (3, .own 0 0 0), (4, .own 1 0 0)] [.arr 1 (([] : List (Int)).map (AVal.int .i64)) 0, .arr 1 (([] : List (Int)).map (AVal.int .i64)) 0] ?_ ?_
 refine qSeq ?_ ?_
 refine qU 1 [(0, .imm (l.map Ty.enc)), (3, .own 0 0 0), (4, .own 1 0 0), (5, .int .i64 0)] ?_ ?_
 refine qB 0 ?_ ?_ ?_
 refine wLoop (σ := Nat) (fun i => [(0, .imm (l.map Ty.enc)), (3, .own 0 0 (frL l i).length), (4, .own 1 0 (toL (frL l i).length).length), (5, .int .i64 ((i : Nat) : Int))]) (fun i => [.arr 1 ((frL l i).map (AVal.int .i64)) ((frL l i).map (AVal.int .i64)).length, .arr 1 ((toL (frL l i).length).map (AVal.int .i64)) 0]) (fun i => i ≤ l.length) (fun i => l.length - i) 0 (by kernel_rfl) (by exact Nat.zero_le _) ⟨⟨(by kernel_rfl), (by kernel_rfl), (by kernel_rfl), (by kernel_rfl), trivial⟩, by simp [BelL, AVal.bel], by simp, (by kernel_rfl), by simp [AObj.belO]⟩ ?_
 rintro i hi
 have htl := toL_len (frL l i).length
 refine qSeq ?_ ?_
 refine qV 2 ?_ ?_
 refine qy (o_lenmap (l := l) (enc := Ty.enc) (by kernel_rfl) ty23) ?_ ?_ ?_
 refine qR 1 [(0, .imm (l.map Ty.enc)), (3, .own 0 0 (frL l i).length), (4, .own 1 0 (toL (frL l i).length).length), (5, nI i), (14, .bool (decide (((i : Nat) : Int) < ((l.length : Nat) : Int))))] [.arr 1 ((frL l i).map (AVal.int .i64)) ((frL l i).map (AVal.int .i64)).length, .arr 1 ((toL (frL l i).length).map (AVal.int .i64)) 0] ?_ ?_
 by_cases hb1 : ((i : Nat) : Int) < ((l.length : Nat) : Int)
 refine qt (decide_eq_true hb1) ?_ ?_
 refine qK ?_ ?_
 refine qz [(0, .imm (l.map Ty.enc)), (3, .own 0 0 (frL l i).length), (4, .own 1 0 (toL (frL l i).length).length), (5, nI i)] ?_ ?_
 refine qSeq ?_ ?_
 refine qB 1 ?_ ?_ ?_
 refine qV 2 ?_ ?_
 refine qy ((o_ixmap (k := .i64) (l := l) (enc := Ty.enc) (i := ((i : Nat) : Int)) Ty.zero (by kernel_rfl) ty23 ty25 ty_size (by first | omega | exact hl2 _ | (have := hl2 i; have := hf7 i (by omega); omega)) (by first | omega | exact hl2 _ | (have := hl2 i; have := hf7 i (by omega); omega))).trans (congrArg (fun cs => some (AVal.pimm cs 0, _)) (ty_cells (l.getD i Ty.zero)))) ?_ ?_ ?_
 refine qr 1 ?_ ?_
 refine vcallP (args := [.agg [.int .i64 ((l.getD i Ty.zero).kind), .str (l.getD i Ty.zero).name, .int .i64 ((l.getD i Ty.zero).n), .imm ((l.getD i Ty.zero).names.map AVal.str), .imm ((l.getD i Ty.zero).kids.map Ty.enc)]]) (by kernel_rfl) (by kernel_rfl) (by kernel_rfl) (by kernel_rfl) (rnumbers_spec (l.getD i Ty.zero) (by first | omega | exact hl2 _ | (have := hl2 i; have := hf7 i (by omega); omega))) (by simp [Ty.v, frzL_app, Occ.v]) (by simp [Ty.v]) (by simp [Ty.v, ownsL_app]) ?_
 refine qR 1 [(0, .imm (l.map Ty.enc)), (3, .own 0 0 (frL l i).length), (4, .own 1 0 (toL (frL l i).length).length), (5, nI i), (6, .imm ((visN [] (l.getD i Ty.zero)).map (AVal.int .i64)))] [.arr 1 ((frL l i).map (AVal.int .i64)) ((frL l i).map (AVal.int .i64)).length, .arr 1 ((toL (frL l i).length).map (AVal.int .i64)) 0] ?_ ?_
 refine qU 1 [(0, .imm (l.map Ty.enc)), (3, .own 0 0 (frL l i).length), (4, .own 1 0 (toL (frL l i).length).length), (5, nI i), (6, .imm ((visN [] (l.getD i Ty.zero)).map (AVal.int .i64))), (7, .int .i64 0)] ?_ ?_
 refine qB 2 ?_ ?_ ?_
 refine wLoop (σ := Nat) (fun k => [(0, .imm (l.map Ty.enc)), (3, .own 0 0 (inF (frL l i) (l.getD i Ty.zero) k).length), (4, .own 1 0 (toL (inF (frL l i) (l.getD i Ty.zero) k).length).length), (5, .int .i64 ((i : Nat) : Int)), (6, .imm ((visN [] (l.getD i Ty.zero)).map (AVal.int .i64))), (7, .int .i64 ((k : Nat) : Int))]) (fun k => [.arr 1 ((inF (frL l i) (l.getD i Ty.zero) k).map (AVal.int .i64)) ((inF (frL l i) (l.getD i Ty.zero) k).map (AVal.int .i64)).length, .arr 1 ((toL (inF (frL l i) (l.getD i Ty.zero) k).length).map (AVal.int .i64)) 0]) (fun k => k ≤ (visN [] (l.getD i Ty.zero)).length) (fun k => (visN [] (l.getD i Ty.zero)).length - k) 0 (by kernel_rfl) (by exact Nat.zero_le _) ⟨⟨(by kernel_rfl), (by kernel_rfl), (by kernel_rfl), (by kernel_rfl), (by kernel_rfl), (by kernel_rfl), trivial⟩, by simp [BelL, AVal.bel], by simp, (by kernel_rfl), by simp [AObj.belO, -List.map_append]⟩ ?_
 rintro k hk
 have hvl : (visN [] (l.getD i Ty.zero)).length ≤ (l.getD i Ty.zero).sz := by have := visN_len [] (l.getD i Ty.zero); simpa using this
 have hil := inF_len (frL l i) (l.getD i Ty.zero) k
 have htl2 := toL_len (inF (frL l i) (l.getD i Ty.zero) k).length
 refine qSeq ?_ ?_
 refine qV 2 ?_ ?_
 refine qy (o_lenmap (l := (visN [] (l.getD i Ty.zero))) (enc := (AVal.int .i64)) (by kernel_rfl) ty26) ?_ ?_ ?_
 refine qR 1 [(0, .imm (l.map Ty.enc)), (3, .own 0 0 (inF (frL l i) (l.getD i Ty.zero) k).length), (4, .own 1 0 (toL (inF (frL l i) (l.getD i Ty.zero) k).length).length), (5, nI i), (6, .imm ((visN [] (l.getD i Ty.zero)).map (AVal.int .i64))), (7, nI k), (25, .bool (decide (((k : Nat) : Int) < (((visN [] (l.getD i Ty.zero)).length : Nat) : Int))))] [.arr 1 ((inF (frL l i) (l.getD i Ty.zero) k).map (AVal.int .i64)) ((inF (frL l i) (l.getD i Ty.zero) k).map (AVal.int .i64)).length, .arr 1 ((toL (inF (frL l i) (l.getD i Ty.zero) k).length).map (AVal.int .i64)) 0] ?_ ?_
 by_cases hb2 : ((k : Nat) : Int) < (((visN [] (l.getD i Ty.zero)).length : Nat) : Int)
 refine qt (decide_eq_true hb2) ?_ ?_
 refine qK ?_ ?_
 refine qz [(0, .imm (l.map Ty.enc)), (3, .own 0 0 (inF (frL l i) (l.getD i Ty.zero) k).length), (4, .own 1 0 (toL (inF (frL l i) (l.getD i Ty.zero) k).length).length), (5, nI i), (6, .imm ((visN [] (l.getD i Ty.zero)).map (AVal.int .i64))), (7, nI k)] ?_ ?_
 refine qSeq ?_ ?_
 refine qB 3 ?_ ?_ ?_
 refine qV 3 ?_ ?_
 refine qy (o_ixmap (k := .i64) (l := (visN [] (l.getD i Ty.zero))) (enc := (AVal.int .i64)) (i := ((k : Nat) : Int)) 0 (by kernel_rfl) ty26 ty3 (fun _ => rfl) (by first | omega | exact hl2 _ | (have := hl2 i; have := hf7 i (by omega); omega)) (by first | omega | exact hl2 _ | (have := hl2 i; have := hf7 i (by omega); omega))) ?_ ?_ ?_
 refine qr 1 ?_ ?_
 refine vZ (args := [.own 0 0 (inF (frL l i) (l.getD i Ty.zero) k).length, .int .i64 (((visN [] (l.getD i Ty.zero)).getD k 0))]) (F := [.arr 1 ((inF (frL l i) (l.getD i Ty.zero) k).map (AVal.int .i64)) ((inF (frL l i) (l.getD i Ty.zero) k).map (AVal.int .i64)).length, .arr 1 ((toL (inF (frL l i) (l.getD i Ty.zero) k).length).map (AVal.int .i64)) 0]) (by kernel_rfl) (by kernel_rfl) (by kernel_rfl) (by kernel_rfl) (hasR_spec (inF (frL l i) (l.getD i Ty.zero) k) (((visN [] (l.getD i Ty.zero)).getD k 0)) (by first | omega | exact hl2 _ | (have := hl2 i; have := hf7 i (by omega); omega))) [.arr 1 ((inF (frL l i) (l.getD i Ty.zero) k).map (AVal.int .i64)) ((inF (frL l i) (l.getD i Ty.zero) k).map (AVal.int .i64)).length, .arr 1 ((toL (inF (frL l i) (l.getD i Ty.zero) k).length).map (AVal.int .i64)) 0] (by kernel_rfl) (by simp [frzL, frzH, ownsL, AVal.frz, AVal.owns, Ty.v]) (by simp [Ty.v]) (by simp [frzL, frzH, ownsL, AVal.frz, AVal.owns, Ty.v]) ?_
 refine qR 1 [(0, .imm (l.map Ty.enc)), (3, .own 0 0 (inF (frL l i) (l.getD i Ty.zero) k).length), (4, .own 1 0 (toL (inF (frL l i) (l.getD i Ty.zero) k).length).length), (5, nI i), (6, .imm ((visN [] (l.getD i Ty.zero)).map (AVal.int .i64))), (7, nI k), (8, .bool ((inF (frL l i) (l.getD i Ty.zero) k).contains (((visN [] (l.getD i Ty.zero)).getD k 0))))] [.arr 1 ((inF (frL l i) (l.getD i Ty.zero) k).map (AVal.int .i64)) ((inF (frL l i) (l.getD i Ty.zero) k).map (AVal.int .i64)).length, .arr 1 ((toL (inF (frL l i) (l.getD i Ty.zero) k).length).map (AVal.int .i64)) 0] ?_ ?_
 refine qU 2 [(0, .imm (l.map Ty.enc)), (3, .own 0 0 (inF (frL l i) (l.getD i Ty.zero) k).length), (4, .own 1 0 (toL (inF (frL l i) (l.getD i Ty.zero) k).length).length), (5, nI i), (6, .imm ((visN [] (l.getD i Ty.zero)).map (AVal.int .i64))), (7, nI k), (35, .bool (!((inF (frL l i) (l.getD i Ty.zero) k).contains (((visN [] (l.getD i Ty.zero)).getD k 0)))))] ?_ ?_
 by_cases hb3 : ((inF (frL l i) (l.getD i Ty.zero) k).contains (((visN [] (l.getD i Ty.zero)).getD k 0))) = true
 refine qf (x := (!((inF (frL l i) (l.getD i Ty.zero) k).contains (((visN [] (l.getD i Ty.zero)).getD k 0))))) (congrArg not (hb3)) ?_ ?_
 refine qk ?_ ?_
 refine AIn_normal ?_
 refine AThen_normal ?_
 refine qz [(0, .imm (l.map Ty.enc)), (3, .own 0 0 (inF (frL l i) (l.getD i Ty.zero) k).length), (4, .own 1 0 (toL (inF (frL l i) (l.getD i Ty.zero) k).length).length), (5, nI i), (6, .imm ((visN [] (l.getD i Ty.zero)).map (AVal.int .i64))), (7, nI k)] ?_ ?_
 refine wLock 0 [.arr 1 ((inF (frL l i) (l.getD i Ty.zero) k).map (AVal.int .i64)) ((inF (frL l i) (l.getD i Ty.zero) k).map (AVal.int .i64)).length, .arr 1 ((toL (inF (frL l i) (l.getD i Ty.zero) k).length).map (AVal.int .i64)) 0] (by simp [frzH]) ?_
 refine qz [(0, .imm (l.map Ty.enc)), (3, .own 0 0 (inF (frL l i) (l.getD i Ty.zero) k).length), (4, .own 1 0 (toL (inF (frL l i) (l.getD i Ty.zero) k).length).length), (5, nI i), (6, .imm ((visN [] (l.getD i Ty.zero)).map (AVal.int .i64))), (7, nI k)] ?_ ?_
 refine qo ?_ ?_
 refine qr 1 ?_ ?_
 refine qy (o_add (a := ((k : Nat) : Int)) (b := 1) (by kernel_rfl) (by first | omega | exact hl2 _ | (have := hl2 i; have := hf7 i (by omega); omega)) (by first | omega | exact hl2 _ | (have := hl2 i; have := hf7 i (by omega); omega))) ?_ ?_ ?_
 refine qr 1 ?_ ?_
 refine qe ?_ ?_
 refine AThen_normal ⟨k + 1, ?_, ?_, ⟨⟨(by kernel_rfl), (Eq.trans (b := .own 0 0 (inF (frL l i) (l.getD i Ty.zero) k).length) (by kernel_rfl) (by first | (rw [inF_succ (by omega), ← ad_yes (by assumption)]; done) | (rw [inF_succ (by omega), ← ad_no (by assumption)]; done) | (rw [toL_succ, inF_succ (by omega), ← ad_no (by assumption)]; done))), (Eq.trans (b := .own 1 0 (toL (inF (frL l i) (l.getD i Ty.zero) k).length).length) (by kernel_rfl) (by first | (rw [inF_succ (by omega), ← ad_yes (by assumption)]; done) | (rw [inF_succ (by omega), ← ad_no (by assumption)]; done) | (rw [toL_succ, inF_succ (by omega), ← ad_no (by assumption)]; done))), (by kernel_rfl), (by kernel_rfl), (by kernel_rfl), trivial⟩, by simp [BelL, AVal.bel], by simp, (Eq.trans (b := [.arr 1 ((inF (frL l i) (l.getD i Ty.zero) k).map (AVal.int .i64)) ((inF (frL l i) (l.getD i Ty.zero) k).map (AVal.int .i64)).length, .arr 1 ((toL (inF (frL l i) (l.getD i Ty.zero) k).length).map (AVal.int .i64)) 0]) (by kernel_rfl) (by first | (rw [inF_succ (by omega), ← ad_yes (by assumption)]; done) | (rw [inF_succ (by omega), ← ad_no (by assumption)]; done) | (rw [toL_succ, inF_succ (by omega), ← ad_no (by assumption)]; done))), by simp [AObj.belO, -List.map_append]⟩⟩
 · omega
 · omega
 iterate 10 kernel_rfl
 refine qt (x := (!((inF (frL l i) (l.getD i Ty.zero) k).contains (((visN [] (l.getD i Ty.zero)).getD k 0))))) (congrArg not (Bool.eq_false_iff.2 hb3)) ?_ ?_
 refine qV 3 ?_ ?_
 refine qy (o_ixmap (k := .i64) (l := (visN [] (l.getD i Ty.zero))) (enc := (AVal.int .i64)) (i := ((k : Nat) : Int)) 0 (by kernel_rfl) ty26 ty3 (fun _ => rfl) (by first | omega | exact hl2 _ | (have := hl2 i; have := hf7 i (by omega); omega)) (by first | omega | exact hl2 _ | (have := hl2 i; have := hf7 i (by omega); omega))) ?_ ?_ ?_
 refine qr 2 ?_ ?_
 refine qY (o_appmap (o := 0) (len := ((inF (frL l i) (l.getD i Ty.zero) k).length)) (l := (inF (frL l i) (l.getD i Ty.zero) k)) (xs := [(((visN [] (l.getD i Ty.zero)).getD k 0))]) (enc := (AVal.int .i64)) (sz := 1) (fr := ((inF (frL l i) (l.getD i Ty.zero) k).map (AVal.int .i64)).length) (x := (.full [.int .i64 (((visN [] (l.getD i Ty.zero)).getD k 0))])) (by kernel_rfl) ty26 ty3 ty26 rfl (by kernel_rfl) rfl (by first | rfl | simp) (by kernel_rfl) ⟨by decide, by kernel_rfl⟩ (fun _ => rfl) (by simp only [List.length_append, List.length_map, List.length_cons, List.length_nil]; first | omega | (have := hl2 i; have := hf7 i (by omega); omega)) (by simp only [List.length_append, List.length_map, List.length_cons, List.length_nil]; first | omega | (have := hl2 i; have := hf7 i (by omega); omega))) ?_ ?_ ?_
 refine qR 1 [(0, .imm (l.map Ty.enc)), (3, .own 0 0 ((inF (frL l i) (l.getD i Ty.zero) k) ++ [(((visN [] (l.getD i Ty.zero)).getD k 0))]).length), (4, .own 1 0 (toL (inF (frL l i) (l.getD i Ty.zero) k).length).length), (5, nI i), (6, .imm ((visN [] (l.getD i Ty.zero)).map (AVal.int .i64))), (7, nI k)] [.arr 1 (((inF (frL l i) (l.getD i Ty.zero) k) ++ [(((visN [] (l.getD i Ty.zero)).getD k 0))]).map (AVal.int .i64)) ((inF (frL l i) (l.getD i Ty.zero) k).map (AVal.int .i64)).length, .arr 1 ((toL (inF (frL l i) (l.getD i Ty.zero) k).length).map (AVal.int .i64)) 0] ?_ ?_
 refine qo ?_ ?_
 refine qr 2 ?_ ?_
 refine qy (o_lenown (o := 0) (off := 0) (len := (((inF (frL l i) (l.getD i Ty.zero) k) ++ [(((visN [] (l.getD i Ty.zero)).getD k 0))]).length)) (sz := 1) (es := (((inF (frL l i) (l.getD i Ty.zero) k) ++ [(((visN [] (l.getD i Ty.zero)).getD k 0))]).map (AVal.int .i64))) (fr := ((inF (frL l i) (l.getD i Ty.zero) k).map (AVal.int .i64)).length) (by kernel_rfl) ty26 (by kernel_rfl) (by simp)) ?_ ?_ ?_
 refine qr 1 ?_ ?_
 refine qY (o_appmap (o := 1) (len := ((toL (inF (frL l i) (l.getD i Ty.zero) k).length).length)) (l := (toL (inF (frL l i) (l.getD i Ty.zero) k).length)) (xs := [((((inF (frL l i) (l.getD i Ty.zero) k) ++ [(((visN [] (l.getD i Ty.zero)).getD k 0))]).length : Nat) : Int)]) (enc := (AVal.int .i64)) (sz := 1) (fr := 0) (x := (.full [.int .i64 ((((inF (frL l i) (l.getD i Ty.zero) k) ++ [(((visN [] (l.getD i Ty.zero)).getD k 0))]).length : Nat) : Int)])) (by kernel_rfl) ty26 ty3 ty26 rfl (by kernel_rfl) rfl (by first | rfl | simp) (by kernel_rfl) ⟨by decide, by kernel_rfl⟩ (fun _ => rfl) (by simp only [List.length_append, List.length_map, List.length_cons, List.length_nil]; first | omega | (have := hl2 i; have := hf7 i (by omega); omega)) (by simp only [List.length_append, List.length_map, List.length_cons, List.length_nil]; first | omega | (have := hl2 i; have := hf7 i (by omega); omega))) ?_ ?_ ?_
 refine qr 1 ?_ ?_
 refine qe ?_ ?_
 refine AIn_normal ?_
 refine AThen_normal ?_
 refine qZ [(0, .imm (l.map Ty.enc)), (3, .own 0 0 ((inF (frL l i) (l.getD i Ty.zero) k) ++ [(((visN [] (l.getD i Ty.zero)).getD k 0))]).length), (4, .own 1 0 ((toL (inF (frL l i) (l.getD i Ty.zero) k).length) ++ [((((inF (frL l i) (l.getD i Ty.zero) k) ++ [(((visN [] (l.getD i Ty.zero)).getD k 0))]).length : Nat) : Int)]).length), (5, nI i), (6, .imm ((visN [] (l.getD i Ty.zero)).map (AVal.int .i64))), (7, nI k)] [.arr 1 (((inF (frL l i) (l.getD i Ty.zero) k) ++ [(((visN [] (l.getD i Ty.zero)).getD k 0))]).map (AVal.int .i64)) ((inF (frL l i) (l.getD i Ty.zero) k).map (AVal.int .i64)).length, .arr 1 (((toL (inF (frL l i) (l.getD i Ty.zero) k).length) ++ [((((inF (frL l i) (l.getD i Ty.zero) k) ++ [(((visN [] (l.getD i Ty.zero)).getD k 0))]).length : Nat) : Int)]).map (AVal.int .i64)) 0] ?_ ?_
 refine wLock 0 [.arr 1 (((inF (frL l i) (l.getD i Ty.zero) k) ++ [(((visN [] (l.getD i Ty.zero)).getD k 0))]).map (AVal.int .i64)) (((inF (frL l i) (l.getD i Ty.zero) k) ++ [(((visN [] (l.getD i Ty.zero)).getD k 0))]).map (AVal.int .i64)).length, .arr 1 (((toL (inF (frL l i) (l.getD i Ty.zero) k).length) ++ [((((inF (frL l i) (l.getD i Ty.zero) k) ++ [(((visN [] (l.getD i Ty.zero)).getD k 0))]).length : Nat) : Int)]).map (AVal.int .i64)) 0] (by simp [frzH]) ?_
 refine qZ [(0, .imm (l.map Ty.enc)), (3, .own 0 0 ((inF (frL l i) (l.getD i Ty.zero) k) ++ [(((visN [] (l.getD i Ty.zero)).getD k 0))]).length), (4, .own 1 0 ((toL (inF (frL l i) (l.getD i Ty.zero) k).length) ++ [((((inF (frL l i) (l.getD i Ty.zero) k) ++ [(((visN [] (l.getD i Ty.zero)).getD k 0))]).length : Nat) : Int)]).length), (5, nI i), (6, .imm ((visN [] (l.getD i Ty.zero)).map (AVal.int .i64))), (7, nI k)] [.arr 1 (((inF (frL l i) (l.getD i Ty.zero) k) ++ [(((visN [] (l.getD i Ty.zero)).getD k 0))]).map (AVal.int .i64)) (((inF (frL l i) (l.getD i Ty.zero) k) ++ [(((visN [] (l.getD i Ty.zero)).getD k 0))]).map (AVal.int .i64)).length, .arr 1 (((toL (inF (frL l i) (l.getD i Ty.zero) k).length) ++ [((((inF (frL l i) (l.getD i Ty.zero) k) ++ [(((visN [] (l.getD i Ty.zero)).getD k 0))]).length : Nat) : Int)]).map (AVal.int .i64)) 0] ?_ ?_
 refine qo ?_ ?_
 refine qr 1 ?_ ?_
 refine qy (o_add (a := ((k : Nat) : Int)) (b := 1) (by kernel_rfl) (by first | omega | exact hl2 _ | (have := hl2 i; have := hf7 i (by omega); omega)) (by first | omega | exact hl2 _ | (have := hl2 i; have := hf7 i (by omega); omega))) ?_ ?_ ?_
 refine qr 1 ?_ ?_
 refine qe ?_ ?_
 refine AThen_normal ⟨k + 1, ?_, ?_, ⟨⟨(by kernel_rfl), (Eq.trans (b := .own 0 0 ((inF (frL l i) (l.getD i Ty.zero) k) ++ [(((visN [] (l.getD i Ty.zero)).getD k 0))]).length) (by kernel_rfl) (by first | (rw [inF_succ (by omega), ← ad_yes (by assumption)]; done) | (rw [inF_succ (by omega), ← ad_no (by assumption)]; done) | (rw [toL_succ, inF_succ (by omega), ← ad_no (by assumption)]; done))), (Eq.trans (b := .own 1 0 ((toL (inF (frL l i) (l.getD i Ty.zero) k).length) ++ [((((inF (frL l i) (l.getD i Ty.zero) k) ++ [(((visN [] (l.getD i Ty.zero)).getD k 0))]).length : Nat) : Int)]).length) (by kernel_rfl) (by first | (rw [inF_succ (by omega), ← ad_yes (by assumption)]; done) | (rw [inF_succ (by omega), ← ad_no (by assumption)]; done) | (rw [toL_succ, inF_succ (by omega), ← ad_no (by assumption)]; done))), (by kernel_rfl), (by kernel_rfl), (by kernel_rfl), trivial⟩, by simp [BelL, AVal.bel], by simp, (Eq.trans (b := [.arr 1 (((inF (frL l i) (l.getD i Ty.zero) k) ++ [(((visN [] (l.getD i Ty.zero)).getD k 0))]).map (AVal.int .i64)) (((inF (frL l i) (l.getD i Ty.zero) k) ++ [(((visN [] (l.getD i Ty.zero)).getD k 0))]).map (AVal.int .i64)).length, .arr 1 (((toL (inF (frL l i) (l.getD i Ty.zero) k).length) ++ [((((inF (frL l i) (l.getD i Ty.zero) k) ++ [(((visN [] (l.getD i Ty.zero)).getD k 0))]).length : Nat) : Int)]).map (AVal.int .i64)) 0]) (by kernel_rfl) (by first | (rw [inF_succ (by omega), ← ad_yes (by assumption)]; done) | (rw [inF_succ (by omega), ← ad_no (by assumption)]; done) | (rw [toL_succ, inF_succ (by omega), ← ad_no (by assumption)]; done))), by simp [AObj.belO, -List.map_append]⟩⟩
 · omega
 · omega
 iterate 37 kernel_rfl
 refine qf (decide_eq_false hb2) ?_ ?_
 refine wExit 2 (by kernel_rfl) (by kernel_rfl) ?_
 refine AThen_exit ?_
 refine AThen_exit ?_
 refine AIn_exit ?_
 refine AIn_normal ?_
 refine AThen_normal ?_
 refine qz [(0, .imm (l.map Ty.enc)), (3, .own 0 0 (inF (frL l i) (l.getD i Ty.zero) k).length), (4, .own 1 0 (toL (inF (frL l i) (l.getD i Ty.zero) k).length).length), (5, nI i)] ?_ ?_
 refine qo ?_ ?_
 refine qr 1 ?_ ?_
 refine qy (o_add (a := ((i : Nat) : Int)) (b := 1) (by kernel_rfl) (by first | omega | exact hl2 _ | (have := hl2 i; have := hf7 i (by omega); omega)) (by first | omega | exact hl2 _ | (have := hl2 i; have := hf7 i (by omega); omega))) ?_ ?_ ?_
 refine qr 1 ?_ ?_
 refine qe ?_ ?_
 refine AThen_normal ⟨i + 1, ?_, ?_, ⟨⟨(by kernel_rfl), (Eq.trans (b := .own 0 0 (inF (frL l i) (l.getD i Ty.zero) k).length) (by kernel_rfl) (by rw [inF_end (by omega), frL_succ (by omega)])), (Eq.trans (b := .own 1 0 (toL (inF (frL l i) (l.getD i Ty.zero) k).length).length) (by kernel_rfl) (by rw [inF_end (by omega), frL_succ (by omega)])), (by kernel_rfl), trivial⟩, by simp [BelL, AVal.bel], by simp, (Eq.trans (b := [.arr 1 ((inF (frL l i) (l.getD i Ty.zero) k).map (AVal.int .i64)) ((inF (frL l i) (l.getD i Ty.zero) k).map (AVal.int .i64)).length, .arr 1 ((toL (inF (frL l i) (l.getD i Ty.zero) k).length).map (AVal.int .i64)) 0]) (by kernel_rfl) (by rw [inF_end (by omega), frL_succ (by omega)])), by simp [AObj.belO]⟩⟩
 · omega
 · omega
 iterate 27 kernel_rfl
 refine qf (decide_eq_false hb1) ?_ ?_
 refine wExit 0 (by kernel_rfl) (by kernel_rfl) ?_
 refine AThen_exit ?_
 refine AThen_exit ?_
 refine AIn_exit ?_
 refine AThen_normal ?_
 refine qz [(0, .imm (l.map Ty.enc)), (3, .own 0 0 (frL l i).length), (4, .own 1 0 (toL (frL l i).length).length)] ?_ ?_
 refine qU 1 [(0, .imm (l.map Ty.enc)), (3, .own 0 0 (frL l i).length), (4, .own 1 0 (toL (frL l i).length).length), (9, .full [])] ?_ ?_
 refine wOwn 9 5 (by decide) (by kernel_rfl) ?_
 refine wLock 1 [.arr 1 ((frL l i).map (AVal.int .i64)) ((frL l i).map (AVal.int .i64)).length, .arr 1 ((toL (frL l i).length).map (AVal.int .i64)) ((toL (frL l i).length).map (AVal.int .i64)).length, .arr 5 (([] : List (Ty)).map Ty.enc) 0] (by simp [frzH]) ?_
 refine qZ [(0, .imm (l.map Ty.enc)), (3, .own 0 0 (frL l i).length), (4, .own 1 0 (toL (frL l i).length).length), (9, .own 2 0 0)] [.arr 1 ((frL l i).map (AVal.int .i64)) ((frL l i).map (AVal.int .i64)).length, .arr 1 ((toL (frL l i).length).map (AVal.int .i64)) ((toL (frL l i).length).map (AVal.int .i64)).length, .arr 5 (([] : List (Ty)).map Ty.enc) 0] ?_ ?_
 refine qSeq ?_ ?_
 refine qU 1 [(0, .imm (l.map Ty.enc)), (3, .own 0 0 (frL l i).length), (4, .own 1 0 (toL (frL l i).length).length), (9, .own 2 0 0), (10, .int .i64 0)] ?_ ?_
 refine qB 4 ?_ ?_ ?_
 refine wLoop (σ := Nat) (fun k => [(0, .imm (l.map Ty.enc)), (3, .own 0 0 (frL l l.length).length), (4, .own 1 0 (toL (frL l l.length).length).length), (9, .own 2 0 (rcnL l k).length), (10, .int .i64 ((k : Nat) : Int))]) (fun k => [.arr 1 ((frL l l.length).map (AVal.int .i64)) ((frL l l.length).map (AVal.int .i64)).length, .arr 1 ((toL (frL l l.length).length).map (AVal.int .i64)) ((toL (frL l l.length).length).map (AVal.int .i64)).length, .arr 5 ((rcnL l k).map Ty.enc) 0]) (fun k => k ≤ l.length) (fun k => l.length - k) 0 (by kernel_rfl) (by exact Nat.zero_le _) ⟨⟨(by kernel_rfl), (Eq.trans (b := .own 0 0 (frL l i).length) (by kernel_rfl) (by rw [show i = l.length by omega])), (Eq.trans (b := .own 1 0 (toL (frL l i).length).length) (by kernel_rfl) (by rw [show i = l.length by omega])), (by kernel_rfl), (by kernel_rfl), trivial⟩, by simp [BelL, AVal.bel], by simp, (Eq.trans (b := [.arr 1 ((frL l i).map (AVal.int .i64)) ((frL l i).map (AVal.int .i64)).length, .arr 1 ((toL (frL l i).length).map (AVal.int .i64)) ((toL (frL l i).length).map (AVal.int .i64)).length, .arr 5 (([] : List (Ty)).map Ty.enc) 0]) (by kernel_rfl) (by rw [show i = l.length by omega]; rfl)), by simp [AObj.belO, belL_app, Ty.enc_v]⟩ ?_
 rintro k hk
 have hcl := rcnL_len l k
 have htl := toL_len (frL l l.length).length
 refine qSeq ?_ ?_
 refine qV 2 ?_ ?_
 refine qy (o_lenmap (l := l) (enc := Ty.enc) (by kernel_rfl) ty23) ?_ ?_ ?_
 refine qR 1 [(0, .imm (l.map Ty.enc)), (3, .own 0 0 (frL l l.length).length), (4, .own 1 0 (toL (frL l l.length).length).length), (9, .own 2 0 (rcnL l k).length), (10, nI k), (51, .bool (decide (((k : Nat) : Int) < ((l.length : Nat) : Int))))] [.arr 1 ((frL l l.length).map (AVal.int .i64)) ((frL l l.length).map (AVal.int .i64)).length, .arr 1 ((toL (frL l l.length).length).map (AVal.int .i64)) ((toL (frL l l.length).length).map (AVal.int .i64)).length, .arr 5 ((rcnL l k).map Ty.enc) 0] ?_ ?_
 by_cases hb4 : ((k : Nat) : Int) < ((l.length : Nat) : Int)
 refine qt (decide_eq_true hb4) ?_ ?_
 refine qK ?_ ?_
 refine qz [(0, .imm (l.map Ty.enc)), (3, .own 0 0 (frL l l.length).length), (4, .own 1 0 (toL (frL l l.length).length).length), (9, .own 2 0 (rcnL l k).length), (10, nI k)] ?_ ?_
 refine qSeq ?_ ?_
 refine qB 5 ?_ ?_ ?_
 refine qo ?_ ?_
 refine qr 3 ?_ ?_
 refine qy ((o_ixmap (k := .i64) (l := l) (enc := Ty.enc) (i := ((k : Nat) : Int)) Ty.zero (by kernel_rfl) ty23 ty25 ty_size (by first | omega | exact hl2 _ | (have := hl2 i; have := hf7 i (by omega); omega)) (by first | omega | exact hl2 _ | (have := hl2 i; have := hf7 i (by omega); omega))).trans (congrArg (fun cs => some (AVal.pimm cs 0, _)) (ty_cells (l.getD k Ty.zero)))) ?_ ?_ ?_
 refine qr 3 ?_ ?_
 refine vZ (args := [.agg [.int .i64 ((l.getD k Ty.zero).kind), .str (l.getD k Ty.zero).name, .int .i64 ((l.getD k Ty.zero).n), .imm ((l.getD k Ty.zero).names.map AVal.str), .imm ((l.getD k Ty.zero).kids.map Ty.enc)], .own 0 0 (frL l l.length).length, .own 1 0 (toL (frL l l.length).length).length]) (F := [.arr 1 ((frL l l.length).map (AVal.int .i64)) ((frL l l.length).map (AVal.int .i64)).length, .arr 1 ((toL (frL l l.length).length).map (AVal.int .i64)) ((toL (frL l l.length).length).map (AVal.int .i64)).length, .arr 5 ((rcnL l k).map Ty.enc) 0]) (by kernel_rfl) (by kernel_rfl) (by kernel_rfl) (by kernel_rfl) (rrenum_spec (l.getD k Ty.zero) (frL l l.length) (toL (frL l l.length).length) (by first | omega | exact hl2 _ | (have := hl2 i; have := hf7 i (by omega); omega)) (by first | omega | exact hl2 _ | (have := hl2 i; have := hf7 i (by omega); omega)) (by first | omega | exact hl2 _ | (have := hl2 i; have := hf7 i (by omega); omega))) [.arr 1 ((frL l l.length).map (AVal.int .i64)) ((frL l l.length).map (AVal.int .i64)).length, .arr 1 ((toL (frL l l.length).length).map (AVal.int .i64)) ((toL (frL l l.length).length).map (AVal.int .i64)).length, .arr 5 ((rcnL l k).map Ty.enc) 0] (by kernel_rfl) (by simp [frzL, frzH, ownsL, AVal.frz, AVal.owns, Ty.v]) (by simp [Ty.v]) (by simp [frzL, frzH, ownsL, AVal.frz, AVal.owns, Ty.v]) ?_
 refine qr 1 ?_ ?_
 refine qY (o_appmap (o := 2) (len := ((rcnL l k).length)) (l := (rcnL l k)) (xs := [(renT (refN (frL l l.length) (toL (frL l l.length).length)) (l.getD k Ty.zero))]) (enc := Ty.enc) (sz := 5) (fr := 0) (x := (.full [Ty.v (renT (refN (frL l l.length) (toL (frL l l.length).length)) (l.getD k Ty.zero))])) (by kernel_rfl) ty23 ty25 ty23 rfl (by kernel_rfl) rfl (by first | rfl | simp) (Eq.trans (b := some [Ty.v (renT (refN (frL l l.length) (toL (frL l l.length).length)) (l.getD k Ty.zero))]) (by kernel_rfl) (by simp [Ty.enc_v])) ⟨by decide, by kernel_rfl⟩ ty_ok (by simp only [List.length_append, List.length_map, List.length_cons, List.length_nil]; first | omega | (have := hl2 i; have := hf7 i (by omega); omega)) (by simp only [List.length_append, List.length_map, List.length_cons, List.length_nil]; first | omega | (have := hl2 i; have := hf7 i (by omega); omega))) ?_ ?_ ?_
 refine qr 1 ?_ ?_
 refine qe ?_ ?_
 refine AIn_normal ?_
 refine AThen_normal ?_
 refine qZ [(0, .imm (l.map Ty.enc)), (3, .own 0 0 (frL l l.length).length), (4, .own 1 0 (toL (frL l l.length).length).length), (9, .own 2 0 ((rcnL l k) ++ [(renT (refN (frL l l.length) (toL (frL l l.length).length)) (l.getD k Ty.zero))]).length), (10, nI k)] [.arr 1 ((frL l l.length).map (AVal.int .i64)) ((frL l l.length).map (AVal.int .i64)).length, .arr 1 ((toL (frL l l.length).length).map (AVal.int .i64)) ((toL (frL l l.length).length).map (AVal.int .i64)).length, .arr 5 (((rcnL l k) ++ [(renT (refN (frL l l.length) (toL (frL l l.length).length)) (l.getD k Ty.zero))]).map Ty.enc) 0] ?_ ?_
 refine qo ?_ ?_
 refine qr 1 ?_ ?_
 refine qy (o_add (a := ((k : Nat) : Int)) (b := 1) (by kernel_rfl) (by first | omega | exact hl2 _ | (have := hl2 i; have := hf7 i (by omega); omega)) (by first | omega | exact hl2 _ | (have := hl2 i; have := hf7 i (by omega); omega))) ?_ ?_ ?_
 refine qr 1 ?_ ?_
 refine qe ?_ ?_
 refine AThen_normal ⟨k + 1, ?_, ?_, ⟨⟨(by kernel_rfl), (by kernel_rfl), (by kernel_rfl), (Eq.trans (b := .own 2 0 ((rcnL l k) ++ [(renT (refN (frL l l.length) (toL (frL l l.length).length)) (l.getD k Ty.zero))]).length) (by kernel_rfl) (by rw [rcnL_succ (by omega)])), (by kernel_rfl), trivial⟩, by simp [BelL, AVal.bel], by simp, (Eq.trans (b := [.arr 1 ((frL l l.length).map (AVal.int .i64)) ((frL l l.length).map (AVal.int .i64)).length, .arr 1 ((toL (frL l l.length).length).map (AVal.int .i64)) ((toL (frL l l.length).length).map (AVal.int .i64)).length, .arr 5 (((rcnL l k) ++ [(renT (refN (frL l l.length) (toL (frL l l.length).length)) (l.getD k Ty.zero))]).map Ty.enc) 0]) (by kernel_rfl) (by rw [rcnL_succ (by omega)])), by simp [AObj.belO, belL_app, Ty.enc_v]⟩⟩
 · omega
 · omega
 iterate 23 kernel_rfl
 refine qf (decide_eq_false hb4) ?_ ?_
 refine wExit 4 (by kernel_rfl) (by kernel_rfl) ?_
 refine AThen_exit ?_
 refine AThen_exit ?_
 refine AIn_exit ?_
 refine AThen_normal ?_
 refine qz [(9, .own 2 0 (rcnL l k).length)] ?_ ?_
 refine qU 2 [(2, .own 2 0 (rcnL l k).length)] ?_ ?_
 refine wRet (by kernel_rfl) ?_
 refine leafP (l := [.own 2 0 (rcnL l k).length]) (.inr rfl) (by kernel_rfl) ?_
 · rw [rcnL_end (by omega)]
   simp [awrap, AVal.frz, frzL]
 iterate 29 kernel_rfl
end Go.Proofs.YtdikgijfekfaoaaGreatDoor
