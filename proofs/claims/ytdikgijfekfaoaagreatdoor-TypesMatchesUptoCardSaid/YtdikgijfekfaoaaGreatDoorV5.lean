/- match of package types, walked. Condition: types that are formed, of sizes that can be had. -/
import Derived.Test.YtdikgijfekfaoaaGreatDoorV4
set_option linter.all false
set_option linter.unusedSimpArgs false
set_option linter.unusedVariables false
namespace Go.Proofs.YtdikgijfekfaoaaGreatDoor
open Go.Proofs.YtdikgijfekfaoaaGreatDoor.Abs
set_option maxRecDepth 20000
set_option maxHeartbeats 4000000
theorem mT_a {t c : Ty} {m r : Bd} (h5 : t.kind = 5) (h : ¬ (¬ t.kind = c.kind ∨ ¬ t.name = c.name)) (hL : mTL t.names t.kids c m = (false, r)) : mT t c m = (false, r) := by
  rw [mT_5f h5 h (by rw [hL]; simp), hL]
theorem mT_b {t c : Ty} {m r : Bd} (h5 : t.kind = 5) (h : ¬ (¬ t.kind = c.kind ∨ ¬ t.name = c.name)) (hL : mTL t.names t.kids c m = (true, r)) (hn : ¬ t.n = 0) : mT t c m = (bdOk r t.n (recT (onL c t c.names.length) c.n), mset t.n (recT (onL c t c.names.length) c.n) r) := by
  rw [mT_5n h5 h (by rw [hL]) hn, hL]
theorem mT_c {t c : Ty} {m r : Bd} (h5 : t.kind = 5) (h : ¬ (¬ t.kind = c.kind ∨ ¬ t.name = c.name)) (hL : mTL t.names t.kids c m = (true, r)) (hn : t.n = 0) : mT t c m = (decide (c.n = 0) && decide (t.names.length = c.names.length), r) := by
  rw [mT_5z h5 h (by rw [hL]) hn, hL]
theorem rec_sz {t c : Ty} (hg : gd c) (h : c.kind = 5) (hs : c.sz < 100000000) : (recT (onL c t c.names.length) c.n).sz < 100000000 := by
  have := (gd_ok hg).2 h
  rw [recT_wo this.2 this.1]
  exact Nat.lt_of_le_of_lt (woT_sz this.1 _) hs
theorem ne_ok {a b : Int} {x y : List UInt8} (h1 : a = b) (h2 : x = y) : ¬ (¬ a = b ∨ ¬ x = y) := by
  rintro (h | h)
  · exact h h1
  · exact h h2
noncomputable def c62 : Code := bodyOf Tryz.f62
theorem match_spec (t c : Ty) (m : Bd) (hs : t.sz < 100000000) (hsc : c.sz < 100000000) (hg : gd t) (hgc : gd c) (hm : bdSm m) : CallsA cx 62 [Ty.v t, Ty.v c, .map 0] [.map (encM (AVal.int .i64) Ty.v m)] (fun v h => v = (.bool ((mT t c m).1)) ∧ h = [.map (encM (AVal.int .i64) Ty.v (mT t c m).2)]) := by
 induction hN : t.sz using Nat.strongRecOn generalizing t c m with | _ N ih =>
 have ihM : ∀ (x y : Ty) (m : Bd), x.sz < t.sz → y.sz < 100000000 → gd x → gd y → bdSm m → CallsA cx 62 [Ty.v x, Ty.v y, .map 0] [.map (encM (AVal.int .i64) Ty.v m)] (fun v h => v = (.bool (mT x y m).1) ∧ h = [.map (encM (AVal.int .i64) Ty.v (mT x y m).2)]) := fun x y m h1 h2 h3 h4 h5 => ih _ (by rw [← hN]; exact h1) x y m (by omega) h2 h3 h4 h5 rfl
 have hz1 := sz_names t
 have hz2 := sz_kids t
 have hz3 := sz_names c
 have hz4 := sz_kids c
 have h4t := (gd_ok hg).1
 have h4c := (gd_ok hgc).1
 refine func_intro (cx := cx) 107 1 [(ResultVar.tmp 6)] Tryz.func62 rfl rfl rfl rfl rfl (by simp) ?_
 show wpA cx 107 1 (at_ c62 []) _ _ _
 refine qZ [(0, Ty.v t), (1, Ty.v c), (2, .map 0)] [.map (encM (AVal.int .i64) Ty.v m)] ?_ ?_
 refine qW 4 [(3, .ptr 1 0), (4, .ptr 2 0), (5, .ptr 3 0)] [.map (encM (AVal.int .i64) Ty.v m), t.bx, c.bx, .box [.map 0]] ?_ ?_
 refine qU 2 [(3, .ptr 1 0), (4, .ptr 2 0), (5, .ptr 3 0), (7, .fn (.func 98) [] [.ptr 3 0])] ?_ ?_
 refine qSeq ?_ ?_
 refine qB 0 ?_ ?_ ?_
 refine qU 4 [(3, .ptr 1 0), (4, .ptr 2 0), (5, .ptr 3 0), (7, .fn (.func 98) [] [.ptr 3 0]), (12, .bool ((t.kind) == 6))] ?_ ?_
 by_cases hb1 : (t.kind) = 6
 refine qt (beq_iff_eq.2 hb1) ?_ ?_
 refine qV 4 ?_ ?_
 refine vcallA (args := [.int .i64 (t.n), .agg [.int .i64 (c.kind), .str c.name, .int .i64 (c.n), .imm (c.names.map AVal.str), .imm (c.kids.map Ty.enc)], .ptr 3 0]) (hs := [.map (encM (AVal.int .i64) Ty.v m), .box [.int .i64 (t.kind), .str t.name, .int .i64 (t.n), .imm (t.names.map AVal.str), .imm (t.kids.map Ty.enc)], .box [.int .i64 (c.kind), .str c.name, .int .i64 (c.n), .imm (c.names.map AVal.str), .imm (c.kids.map Ty.enc)], .box [.map 0]]) (hs' := [.map (encM (AVal.int .i64) Ty.v (mset (t.n) c m)), .box [.int .i64 (t.kind), .str t.name, .int .i64 (t.n), .imm (t.names.map AVal.str), .imm (t.kids.map Ty.enc)], .box [.int .i64 (c.kind), .str c.name, .int .i64 (c.n), .imm (c.names.map AVal.str), .imm (c.kids.map Ty.enc)], .box [.map 0]]) (rest := []) (by kernel_rfl) (by kernel_rfl) (by kernel_rfl) (by kernel_rfl) (by kernel_rfl) (tset_spec (t.n) c t c m (by first | omega | assumption | exact sz_kid t _ (by omega) | exact Nat.lt_trans (sz_kid c _ (by omega)) hsc | exact gd_at hg _ (by omega) | exact gd_at hgc _ (by omega) | exact rec_sz hgc (by omega) hsc) (by first | exact hm | exact hq)) (by simp [AObj.belO, hpV, Ty.v]) (by simp [AObj.belO, hpV, Ty.v]) rfl (by simp [AObj.belO, hpV, Ty.v]) (by simp [AObj.belO, hpV, Ty.v]) (by kernel_rfl) ?_
 refine qR 1 [(6, .bool (bdOk m (t.n) c))] [.map (encM (AVal.int .i64) Ty.v (mset (t.n) c m)), t.bx, c.bx, .box [.map 0]] ?_ ?_
 refine wRet (by kernel_rfl) ?_
 apply iR
 apply aR
 refine leafA (l := [.bool (bdOk m (t.n) c)]) (.inr rfl) (by kernel_rfl) (by first | exact congrArg AVal.bool (congrArg Prod.fst (mT_6 (by assumption))).symm | exact congrArg AVal.bool (congrArg Prod.fst (mT_ne (by assumption) (.inl (by assumption)))).symm | exact congrArg AVal.bool (congrArg Prod.fst (mT_ne (by assumption) (.inr (by assumption)))).symm | exact congrArg AVal.bool (congrArg Prod.fst (mT_a (by assumption) (ne_ok (by assumption) (by assumption)) (hL.trans ((mTL_step (by omega) hnk).trans (if_pos (by assumption)))))).symm | exact congrArg AVal.bool (congrArg Prod.fst (mT_a (by assumption) (ne_ok (by assumption) (by assumption)) (hL.trans ((mTL_step (by omega) hnk).trans ((if_neg (by assumption)).trans (if_neg (by assumption))))))).symm | exact congrArg AVal.bool (congrArg Prod.fst (mT_b (by assumption) (ne_ok (by assumption) (by assumption)) (hL.trans (mTL_end (by omega))) (by assumption))).symm | exact congrArg AVal.bool (congrArg Prod.fst (mT_4 (by assumption) (ne_ok (by assumption) (by assumption)) (by omega))).symm | exact congrArg AVal.bool (congrArg Prod.fst (mT_o (by assumption) (ne_ok (by assumption) (by assumption)) (by assumption) (by assumption))).symm | (rw [mT_c (by assumption) (ne_ok (by assumption) (by assumption)) (hL.trans (mTL_end (by omega))) (by assumption)]; simp [awrap, *]; done) | (rw [mT_c (by assumption) (ne_ok (by assumption) (by assumption)) (hL.trans (mTL_end (by omega))) (by assumption)]; simp [awrap, *]; rw [Bool.eq_iff_iff, beq_iff_eq, decide_eq_true_eq]; omega)) (by simp [awrap]) (by simp [awrap]) ?_ ?_
 refine Eq.trans (b := [.map (encM (AVal.int .i64) Ty.v (mset (t.n) c m))]) (by kernel_rfl) ?_
 rotate_left
 · simp [AObj.belO, hpV, Ty.v]
 iterate 3 kernel_rfl
 refine qf (beq_eq_false_iff_ne.2 hb1) ?_ ?_
 refine qV 6 ?_ ?_
 by_cases hb2 : (t.kind) = (c.kind)
 refine qm [26, 27] (x := ((t.kind) != (c.kind))) (bne_eq_false_iff_eq.2 hb2) ?_ ?_
 refine qR 7 [(3, .ptr 1 0), (4, .ptr 2 0), (5, .ptr 3 0), (7, .fn (.func 98) [] [.ptr 3 0]), (21, .bool (!(t.name == c.name)))] [.map (encM (AVal.int .i64) Ty.v m), t.bx, c.bx, .box [.map 0]] ?_ ?_
 by_cases hb3 : t.name = c.name
 refine qf (x := (!(t.name == c.name))) (congrArg not (beq_iff_eq.2 hb3)) ?_ ?_
 refine qU 4 [(3, .ptr 1 0), (4, .ptr 2 0), (5, .ptr 3 0), (7, .fn (.func 98) [] [.ptr 3 0]), (34, .bool ((t.kind) == 5))] ?_ ?_
 by_cases hb4 : (t.kind) = 5
 refine qt (beq_iff_eq.2 hb4) ?_ ?_
 refine qSeq ?_ ?_
 refine qV 2 ?_ ?_
 refine qy (o_lenmap (l := t.names) (enc := AVal.str) (by kernel_rfl) ty22) ?_ ?_ ?_
 refine qR 1 [(3, .ptr 1 0), (4, .ptr 2 0), (5, .ptr 3 0), (7, .fn (.func 98) [] [.ptr 3 0]), (39, .imm (t.names.map AVal.str)), (40, nI t.names.length), (41, .int .i64 0)] [.map (encM (AVal.int .i64) Ty.v m), t.bx, c.bx, .box [.map 0]] ?_ ?_
 refine qB 1 ?_ ?_ ?_
 refine wLoop (σ := (Nat × Bd)) (fun ⟨k, q⟩ => [(3, .ptr 1 0), (4, .ptr 2 0), (5, .ptr 3 0), (7, .fn (.func 98) [] [.ptr 3 0]), (39, .imm (t.names.map AVal.str)), (40, .int .i64 ((t.names.length : Nat) : Int)), (41, .int .i64 ((k : Nat) : Int))]) (fun ⟨k, q⟩ => [.map (encM (AVal.int .i64) Ty.v q), .box [.int .i64 (t.kind), .str t.name, .int .i64 (t.n), .imm (t.names.map AVal.str), .imm (t.kids.map Ty.enc)], .box [.int .i64 (c.kind), .str c.name, .int .i64 (c.n), .imm (c.names.map AVal.str), .imm (c.kids.map Ty.enc)], .box [.map 0]]) (fun ⟨k, q⟩ => k ≤ t.names.length ∧ mTL t.names t.kids c m = mTL (t.names.drop k) (t.kids.drop k) c q ∧ bdSm q) (fun ⟨k, q⟩ => t.names.length - k) (0, m) (by kernel_rfl) (by exact ⟨Nat.zero_le _, rfl, hm⟩) ⟨⟨(by kernel_rfl), (by kernel_rfl), (by kernel_rfl), (by kernel_rfl), (by kernel_rfl), (by kernel_rfl), (by kernel_rfl), trivial⟩, by simp [BelL, AVal.bel], by simp, (by kernel_rfl), by simp [AObj.belO]⟩ ?_
 rintro ⟨k, q⟩ ⟨hk, hL, hq⟩
 have hix := idxS_le c.names (t.names.getD k [])
 have hnk := ((gd_ok hg).2 (by omega)).1
 have hnc := ((gd_ok hgc).2 (by omega)).1
 refine qZ [(3, .ptr 1 0), (4, .ptr 2 0), (5, .ptr 3 0), (7, .fn (.func 98) [] [.ptr 3 0]), (39, .imm (t.names.map AVal.str)), (40, nI t.names.length), (41, nI k)] [.map (encM (AVal.int .i64) Ty.v q), t.bx, c.bx, .box [.map 0]] ?_ ?_
 refine qU 1 [(3, .ptr 1 0), (4, .ptr 2 0), (5, .ptr 3 0), (7, .fn (.func 98) [] [.ptr 3 0]), (39, .imm (t.names.map AVal.str)), (40, nI t.names.length), (41, nI k), (42, .bool (decide (((k : Nat) : Int) < ((t.names.length : Nat) : Int))))] ?_ ?_
 refine qSeq ?_ ?_
 by_cases hb5 : ((k : Nat) : Int) < ((t.names.length : Nat) : Int)
 refine qt (decide_eq_true hb5) ?_ ?_
 refine qK ?_ ?_
 refine qz [(3, .ptr 1 0), (4, .ptr 2 0), (5, .ptr 3 0), (7, .fn (.func 98) [] [.ptr 3 0]), (39, .imm (t.names.map AVal.str)), (40, nI t.names.length), (41, nI k)] ?_ ?_
 refine qSeq ?_ ?_
 refine qB 2 ?_ ?_ ?_
 refine qV 1 ?_ ?_
 refine qy (o_ixmap (k := .i64) (l := t.names) (enc := AVal.str) (i := ((k : Nat) : Int)) [] (by kernel_rfl) ty22 ty9 (fun _ => rfl) (by first | omega | assumption | exact sz_kid t _ (by omega) | exact Nat.lt_trans (sz_kid c _ (by omega)) hsc | exact gd_at hg _ (by omega) | exact gd_at hgc _ (by omega) | exact rec_sz hgc (by omega) hsc) (by first | omega | assumption | exact sz_kid t _ (by omega) | exact Nat.lt_trans (sz_kid c _ (by omega)) hsc | exact gd_at hg _ (by omega) | exact gd_at hgc _ (by omega) | exact rec_sz hgc (by omega) hsc)) ?_ ?_ ?_
 refine qR 3 [(3, .ptr 1 0), (4, .ptr 2 0), (5, .ptr 3 0), (7, .fn (.func 98) [] [.ptr 3 0]), (8, nI k), (9, .str (t.names.getD k [])), (39, .imm (t.names.map AVal.str)), (40, nI t.names.length), (41, nI k)] [.map (encM (AVal.int .i64) Ty.v q), t.bx, c.bx, .box [.map 0]] ?_ ?_
 refine qV 3 ?_ ?_
 refine vcallP (args := [.imm (c.names.map AVal.str), .str (t.names.getD k [])]) (by kernel_rfl) (by kernel_rfl) (by kernel_rfl) (by kernel_rfl) (slIndex_spec c.names (t.names.getD k []) (by first | omega | assumption | exact sz_kid t _ (by omega) | exact Nat.lt_trans (sz_kid c _ (by omega)) hsc | exact gd_at hg _ (by omega) | exact gd_at hgc _ (by omega) | exact rec_sz hgc (by omega) hsc)) (by simp [Ty.v, frzL_app, Occ.v]) (by simp [Ty.v]) (by simp [Ty.v, ownsL_app]) ?_
 refine qR 1 [(3, .ptr 1 0), (4, .ptr 2 0), (5, .ptr 3 0), (7, .fn (.func 98) [] [.ptr 3 0]), (8, nI k), (10, .int .i64 (idxS c.names (t.names.getD k []))), (39, .imm (t.names.map AVal.str)), (40, nI t.names.length), (41, nI k)] [.map (encM (AVal.int .i64) Ty.v q), t.bx, c.bx, .box [.map 0]] ?_ ?_
 refine qSeq ?_ ?_
 refine wDrw cxM (by kernel_rfl) extThen (dstart ?_)
 refine qu 3 ?_ ?_
 by_cases hb6 : (idxS c.names (t.names.getD k [])) < 0
 refine dset 51 (.bool (decide ((idxS c.names (t.names.getD k [])) < 0))) (.bool true) (extD extThen) (by kernel_rfl) (congrArg AVal.bool (decide_eq_true hb6)) ?_
 refine dset 52 (.bool (decide ((idxS c.names (t.names.getD k [])) < 0))) (.bool true) (extD extThen) (by kernel_rfl) (congrArg AVal.bool (decide_eq_true hb6)) ?_
 refine qu 14 ?_ ?_
 refine dend (by kernel_rfl) ⟨(by kernel_rfl), ?_⟩
 refine AThen_normal ?_
 refine qZ [(3, .ptr 1 0), (4, .ptr 2 0), (5, .ptr 3 0), (7, .fn (.func 98) [] [.ptr 3 0]), (39, .imm (t.names.map AVal.str)), (40, nI t.names.length), (41, nI k), (53, .tup []), (54, .tup []), (55, .tup []), (56, .tup []), (57, .tup []), (58, .tup []), (59, .tup []), (60, .tup []), (61, .tup []), (62, .tup []), (63, .tup []), (64, .tup []), (65, .tup []), (66, .bool true)] [.map (encM (AVal.int .i64) Ty.v q), t.bx, c.bx, .box [.map 0]] ?_ ?_
 refine wIfT (by kernel_rfl) (by kernel_rfl) ?_
 refine qU 1 [(6, .bool false)] ?_ ?_
 refine wRet (by kernel_rfl) ?_
 apply iR
 apply aR
 apply aR
 apply iR
 apply aR
 apply iR
 apply aR
 refine leafA (l := [.bool false]) (.inr rfl) (by kernel_rfl) (by first | exact congrArg AVal.bool (congrArg Prod.fst (mT_6 (by assumption))).symm | exact congrArg AVal.bool (congrArg Prod.fst (mT_ne (by assumption) (.inl (by assumption)))).symm | exact congrArg AVal.bool (congrArg Prod.fst (mT_ne (by assumption) (.inr (by assumption)))).symm | exact congrArg AVal.bool (congrArg Prod.fst (mT_a (by assumption) (ne_ok (by assumption) (by assumption)) (hL.trans ((mTL_step (by omega) hnk).trans (if_pos (by assumption)))))).symm | exact congrArg AVal.bool (congrArg Prod.fst (mT_a (by assumption) (ne_ok (by assumption) (by assumption)) (hL.trans ((mTL_step (by omega) hnk).trans ((if_neg (by assumption)).trans (if_neg (by assumption))))))).symm | exact congrArg AVal.bool (congrArg Prod.fst (mT_b (by assumption) (ne_ok (by assumption) (by assumption)) (hL.trans (mTL_end (by omega))) (by assumption))).symm | exact congrArg AVal.bool (congrArg Prod.fst (mT_4 (by assumption) (ne_ok (by assumption) (by assumption)) (by omega))).symm | exact congrArg AVal.bool (congrArg Prod.fst (mT_o (by assumption) (ne_ok (by assumption) (by assumption)) (by assumption) (by assumption))).symm | (rw [mT_c (by assumption) (ne_ok (by assumption) (by assumption)) (hL.trans (mTL_end (by omega))) (by assumption)]; simp [awrap, *]; done) | (rw [mT_c (by assumption) (ne_ok (by assumption) (by assumption)) (hL.trans (mTL_end (by omega))) (by assumption)]; simp [awrap, *]; rw [Bool.eq_iff_iff, beq_iff_eq, decide_eq_true_eq]; omega)) (by simp [awrap]) (by simp [awrap]) ?_ ?_
 refine Eq.trans (b := [.map (encM (AVal.int .i64) Ty.v q)]) (by kernel_rfl) ?_
 rotate_left
 · simp [AObj.belO, hpV, Ty.v]
 iterate 3 kernel_rfl
 refine dset 51 (.bool (decide ((idxS c.names (t.names.getD k [])) < 0))) (.bool false) (extD extThen) (by kernel_rfl) (congrArg AVal.bool (decide_eq_false hb6)) ?_
 refine dset 52 (.bool (decide ((idxS c.names (t.names.getD k [])) < 0))) (.bool false) (extD extThen) (by kernel_rfl) (congrArg AVal.bool (decide_eq_false hb6)) ?_
 refine qu 3 ?_ ?_
 refine qd ((o_ixmap (k := .i64) (l := t.kids) (enc := Ty.enc) (i := ((k : Nat) : Int)) Ty.zero (by kernel_rfl) ty23 ty25 ty_size (by first | omega | assumption | exact sz_kid t _ (by omega) | exact Nat.lt_trans (sz_kid c _ (by omega)) hsc | exact gd_at hg _ (by omega) | exact gd_at hgc _ (by omega) | exact rec_sz hgc (by omega) hsc) (by first | omega | assumption | exact sz_kid t _ (by omega) | exact Nat.lt_trans (sz_kid c _ (by omega)) hsc | exact gd_at hg _ (by omega) | exact gd_at hgc _ (by omega) | exact rec_sz hgc (by omega) hsc)).trans (congrArg (fun cs => some (AVal.pimm cs 0, _)) (ty_cells (t.kids.getD k Ty.zero)))) ?_ ?_ ?_ ?_
 refine qu 4 ?_ ?_
 refine qd ((o_ixmap (k := .i64) (l := c.kids) (enc := Ty.enc) (i := (idxS c.names (t.names.getD k []))) Ty.zero (by kernel_rfl) ty23 ty25 ty_size (by first | omega | assumption | exact sz_kid t _ (by omega) | exact Nat.lt_trans (sz_kid c _ (by omega)) hsc | exact gd_at hg _ (by omega) | exact gd_at hgc _ (by omega) | exact rec_sz hgc (by omega) hsc) (by first | omega | assumption | exact sz_kid t _ (by omega) | exact Nat.lt_trans (sz_kid c _ (by omega)) hsc | exact gd_at hg _ (by omega) | exact gd_at hgc _ (by omega) | exact rec_sz hgc (by omega) hsc)).trans (congrArg (fun cs => some (AVal.pimm cs 0, _)) (ty_cells (c.kids.getD (((idxS c.names (t.names.getD k []))).toNat) Ty.zero)))) ?_ ?_ ?_ ?_
 refine qu 2 ?_ ?_
 refine dcallA (args := [.agg [.int .i64 ((t.kids.getD k Ty.zero).kind), .str (t.kids.getD k Ty.zero).name, .int .i64 ((t.kids.getD k Ty.zero).n), .imm ((t.kids.getD k Ty.zero).names.map AVal.str), .imm ((t.kids.getD k Ty.zero).kids.map Ty.enc)], .agg [.int .i64 ((c.kids.getD (((idxS c.names (t.names.getD k []))).toNat) Ty.zero).kind), .str (c.kids.getD (((idxS c.names (t.names.getD k []))).toNat) Ty.zero).name, .int .i64 ((c.kids.getD (((idxS c.names (t.names.getD k []))).toNat) Ty.zero).n), .imm ((c.kids.getD (((idxS c.names (t.names.getD k []))).toNat) Ty.zero).names.map AVal.str), .imm ((c.kids.getD (((idxS c.names (t.names.getD k []))).toNat) Ty.zero).kids.map Ty.enc)], .map 0]) (hs := [.map (encM (AVal.int .i64) Ty.v q)]) (hs' := [.map (encM (AVal.int .i64) Ty.v (mT (t.kids.getD k Ty.zero) (c.kids.getD (((idxS c.names (t.names.getD k []))).toNat) Ty.zero) q).2)]) (rest := [.box [.int .i64 (t.kind), .str t.name, .int .i64 (t.n), .imm (t.names.map AVal.str), .imm (t.kids.map Ty.enc)], .box [.int .i64 (c.kind), .str c.name, .int .i64 (c.n), .imm (c.names.map AVal.str), .imm (c.kids.map Ty.enc)], .box [.map 0]]) (L := [0]) (by kernel_rfl) (by kernel_rfl) (by kernel_rfl) (by kernel_rfl) (by kernel_rfl) (by kernel_rfl) (ihM (t.kids.getD k Ty.zero) (c.kids.getD (((idxS c.names (t.names.getD k []))).toNat) Ty.zero) q (by first | omega | assumption | exact sz_kid t _ (by omega) | exact Nat.lt_trans (sz_kid c _ (by omega)) hsc | exact gd_at hg _ (by omega) | exact gd_at hgc _ (by omega) | exact rec_sz hgc (by omega) hsc) (by first | omega | assumption | exact sz_kid t _ (by omega) | exact Nat.lt_trans (sz_kid c _ (by omega)) hsc | exact gd_at hg _ (by omega) | exact gd_at hgc _ (by omega) | exact rec_sz hgc (by omega) hsc) (by first | omega | assumption | exact sz_kid t _ (by omega) | exact Nat.lt_trans (sz_kid c _ (by omega)) hsc | exact gd_at hg _ (by omega) | exact gd_at hgc _ (by omega) | exact rec_sz hgc (by omega) hsc) (by first | omega | assumption | exact sz_kid t _ (by omega) | exact Nat.lt_trans (sz_kid c _ (by omega)) hsc | exact gd_at hg _ (by omega) | exact gd_at hgc _ (by omega) | exact rec_sz hgc (by omega) hsc) (by first | exact hm | exact hq)) (by simp [AObj.belO, hpV, Ty.v]) (by simp [AObj.belO, hpV, Ty.v]) rfl (by simp [AObj.belO, hpV, Ty.v]) (by simp [AObj.belO, hpV, Ty.v]) (by kernel_rfl) rfl rfl ?_
 refine qu 2 ?_ ?_
 refine dend (by kernel_rfl) ⟨(by kernel_rfl), ?_⟩
 refine AThen_normal ?_
 refine qZ [(3, .ptr 1 0), (4, .ptr 2 0), (5, .ptr 3 0), (7, .fn (.func 98) [] [.ptr 3 0]), (39, .imm (t.names.map AVal.str)), (40, nI t.names.length), (41, nI k), (53, .ptr 1 4), (54, .imm (t.kids.map Ty.enc)), (55, nI k), (56, .pimm [.int .i64 ((t.kids.getD k Ty.zero).kind), .str (t.kids.getD k Ty.zero).name, .int .i64 ((t.kids.getD k Ty.zero).n), .imm ((t.kids.getD k Ty.zero).names.map AVal.str), .imm ((t.kids.getD k Ty.zero).kids.map Ty.enc)] 0), (57, .agg [.int .i64 ((t.kids.getD k Ty.zero).kind), .str (t.kids.getD k Ty.zero).name, .int .i64 ((t.kids.getD k Ty.zero).n), .imm ((t.kids.getD k Ty.zero).names.map AVal.str), .imm ((t.kids.getD k Ty.zero).kids.map Ty.enc)]), (58, .ptr 2 4), (59, .imm (c.kids.map Ty.enc)), (60, .int .i64 (idxS c.names (t.names.getD k []))), (61, .pimm [.int .i64 ((c.kids.getD (((idxS c.names (t.names.getD k []))).toNat) Ty.zero).kind), .str (c.kids.getD (((idxS c.names (t.names.getD k []))).toNat) Ty.zero).name, .int .i64 ((c.kids.getD (((idxS c.names (t.names.getD k []))).toNat) Ty.zero).n), .imm ((c.kids.getD (((idxS c.names (t.names.getD k []))).toNat) Ty.zero).names.map AVal.str), .imm ((c.kids.getD (((idxS c.names (t.names.getD k []))).toNat) Ty.zero).kids.map Ty.enc)] 0), (62, .agg [.int .i64 ((c.kids.getD (((idxS c.names (t.names.getD k []))).toNat) Ty.zero).kind), .str (c.kids.getD (((idxS c.names (t.names.getD k []))).toNat) Ty.zero).name, .int .i64 ((c.kids.getD (((idxS c.names (t.names.getD k []))).toNat) Ty.zero).n), .imm ((c.kids.getD (((idxS c.names (t.names.getD k []))).toNat) Ty.zero).names.map AVal.str), .imm ((c.kids.getD (((idxS c.names (t.names.getD k []))).toNat) Ty.zero).kids.map Ty.enc)]), (63, .map 0), (64, .bool ((mT (t.kids.getD k Ty.zero) (c.kids.getD (((idxS c.names (t.names.getD k []))).toNat) Ty.zero) q).1)), (65, .bool (!((mT (t.kids.getD k Ty.zero) (c.kids.getD (((idxS c.names (t.names.getD k []))).toNat) Ty.zero) q).1))), (66, .bool (!((mT (t.kids.getD k Ty.zero) (c.kids.getD (((idxS c.names (t.names.getD k []))).toNat) Ty.zero) q).1)))] [.map (encM (AVal.int .i64) Ty.v (mT (t.kids.getD k Ty.zero) (c.kids.getD (((idxS c.names (t.names.getD k []))).toNat) Ty.zero) q).2), t.bx, c.bx, .box [.map 0]] ?_ ?_
 by_cases hb7 : ((mT (t.kids.getD k Ty.zero) (c.kids.getD (((idxS c.names (t.names.getD k []))).toNat) Ty.zero) q).1) = true
 refine qf (x := (!((mT (t.kids.getD k Ty.zero) (c.kids.getD (((idxS c.names (t.names.getD k []))).toNat) Ty.zero) q).1))) (congrArg not (hb7)) ?_ ?_
 refine qk ?_ ?_
 refine AIn_normal ?_
 refine AThen_normal ?_
 refine qz [(3, .ptr 1 0), (4, .ptr 2 0), (5, .ptr 3 0), (7, .fn (.func 98) [] [.ptr 3 0]), (39, .imm (t.names.map AVal.str)), (40, nI t.names.length), (41, nI k), (53, .ptr 1 4), (54, .imm (t.kids.map Ty.enc)), (55, nI k), (56, .pimm [.int .i64 ((t.kids.getD k Ty.zero).kind), .str (t.kids.getD k Ty.zero).name, .int .i64 ((t.kids.getD k Ty.zero).n), .imm ((t.kids.getD k Ty.zero).names.map AVal.str), .imm ((t.kids.getD k Ty.zero).kids.map Ty.enc)] 0), (57, .agg [.int .i64 ((t.kids.getD k Ty.zero).kind), .str (t.kids.getD k Ty.zero).name, .int .i64 ((t.kids.getD k Ty.zero).n), .imm ((t.kids.getD k Ty.zero).names.map AVal.str), .imm ((t.kids.getD k Ty.zero).kids.map Ty.enc)]), (58, .ptr 2 4), (59, .imm (c.kids.map Ty.enc)), (60, .int .i64 (idxS c.names (t.names.getD k []))), (61, .pimm [.int .i64 ((c.kids.getD (((idxS c.names (t.names.getD k []))).toNat) Ty.zero).kind), .str (c.kids.getD (((idxS c.names (t.names.getD k []))).toNat) Ty.zero).name, .int .i64 ((c.kids.getD (((idxS c.names (t.names.getD k []))).toNat) Ty.zero).n), .imm ((c.kids.getD (((idxS c.names (t.names.getD k []))).toNat) Ty.zero).names.map AVal.str), .imm ((c.kids.getD (((idxS c.names (t.names.getD k []))).toNat) Ty.zero).kids.map Ty.enc)] 0), (62, .agg [.int .i64 ((c.kids.getD (((idxS c.names (t.names.getD k []))).toNat) Ty.zero).kind), .str (c.kids.getD (((idxS c.names (t.names.getD k []))).toNat) Ty.zero).name, .int .i64 ((c.kids.getD (((idxS c.names (t.names.getD k []))).toNat) Ty.zero).n), .imm ((c.kids.getD (((idxS c.names (t.names.getD k []))).toNat) Ty.zero).names.map AVal.str), .imm ((c.kids.getD (((idxS c.names (t.names.getD k []))).toNat) Ty.zero).kids.map Ty.enc)]), (63, .map 0), (64, .bool ((mT (t.kids.getD k Ty.zero) (c.kids.getD (((idxS c.names (t.names.getD k []))).toNat) Ty.zero) q).1)), (65, .bool (!((mT (t.kids.getD k Ty.zero) (c.kids.getD (((idxS c.names (t.names.getD k []))).toNat) Ty.zero) q).1)))] ?_ ?_
 refine qo ?_ ?_
 refine qy (o_add (a := ((k : Nat) : Int)) (b := 1) (by kernel_rfl) (by first | omega | assumption | exact sz_kid t _ (by omega) | exact Nat.lt_trans (sz_kid c _ (by omega)) hsc | exact gd_at hg _ (by omega) | exact gd_at hgc _ (by omega) | exact rec_sz hgc (by omega) hsc) (by first | omega | assumption | exact sz_kid t _ (by omega) | exact Nat.lt_trans (sz_kid c _ (by omega)) hsc | exact gd_at hg _ (by omega) | exact gd_at hgc _ (by omega) | exact rec_sz hgc (by omega) hsc)) ?_ ?_ ?_
 refine qr 1 ?_ ?_
 refine qe ?_ ?_
 refine AThen_normal ⟨(k + 1, (mT (t.kids.getD k Ty.zero) (c.kids.getD (idxS c.names (t.names.getD k [])).toNat Ty.zero) q).2), ?_, ?_, ⟨⟨(by kernel_rfl), (by kernel_rfl), (by kernel_rfl), (by kernel_rfl), (by kernel_rfl), (by kernel_rfl), (by kernel_rfl), trivial⟩, by simp [BelL, AVal.bel], by simp, (by kernel_rfl), by simp [AObj.belO]⟩⟩
 · try dsimp only
   omega
 · try dsimp only
   refine ⟨by omega, ?_, ?_⟩
   · rw [hL, mTL_step (by omega) hnk, if_neg (by assumption), if_pos (by assumption)]
   · exact sm_mT _ _ _ (gd_at hgc _ (by omega)) (Nat.lt_trans (sz_kid c _ (by omega)) hsc) hq
 iterate 8 kernel_rfl
 refine qt (x := (!((mT (t.kids.getD k Ty.zero) (c.kids.getD (((idxS c.names (t.names.getD k []))).toNat) Ty.zero) q).1))) (congrArg not (Bool.eq_false_iff.2 hb7)) ?_ ?_
 refine qU 1 [(6, .bool false)] ?_ ?_
 refine wRet (by kernel_rfl) ?_
 apply iR
 apply aR
 apply aR
 apply iR
 apply aR
 apply iR
 apply aR
 refine leafA (l := [.bool false]) (.inr rfl) (by kernel_rfl) (by first | exact congrArg AVal.bool (congrArg Prod.fst (mT_6 (by assumption))).symm | exact congrArg AVal.bool (congrArg Prod.fst (mT_ne (by assumption) (.inl (by assumption)))).symm | exact congrArg AVal.bool (congrArg Prod.fst (mT_ne (by assumption) (.inr (by assumption)))).symm | exact congrArg AVal.bool (congrArg Prod.fst (mT_a (by assumption) (ne_ok (by assumption) (by assumption)) (hL.trans ((mTL_step (by omega) hnk).trans (if_pos (by assumption)))))).symm | exact congrArg AVal.bool (congrArg Prod.fst (mT_a (by assumption) (ne_ok (by assumption) (by assumption)) (hL.trans ((mTL_step (by omega) hnk).trans ((if_neg (by assumption)).trans (if_neg (by assumption))))))).symm | exact congrArg AVal.bool (congrArg Prod.fst (mT_b (by assumption) (ne_ok (by assumption) (by assumption)) (hL.trans (mTL_end (by omega))) (by assumption))).symm | exact congrArg AVal.bool (congrArg Prod.fst (mT_4 (by assumption) (ne_ok (by assumption) (by assumption)) (by omega))).symm | exact congrArg AVal.bool (congrArg Prod.fst (mT_o (by assumption) (ne_ok (by assumption) (by assumption)) (by assumption) (by assumption))).symm | (rw [mT_c (by assumption) (ne_ok (by assumption) (by assumption)) (hL.trans (mTL_end (by omega))) (by assumption)]; simp [awrap, *]; done) | (rw [mT_c (by assumption) (ne_ok (by assumption) (by assumption)) (hL.trans (mTL_end (by omega))) (by assumption)]; simp [awrap, *]; rw [Bool.eq_iff_iff, beq_iff_eq, decide_eq_true_eq]; omega)) (by simp [awrap]) (by simp [awrap]) ?_ ?_
 refine Eq.trans (b := [.map (encM (AVal.int .i64) Ty.v (mT (t.kids.getD k Ty.zero) (c.kids.getD (((idxS c.names (t.names.getD k []))).toNat) Ty.zero) q).2)]) (by kernel_rfl) ?_
 rotate_left
 · simp [AObj.belO, hpV, Ty.v]
 iterate 27 kernel_rfl
 refine qf (decide_eq_false hb5) ?_ ?_
 refine wExit 1 (by kernel_rfl) (by kernel_rfl) ?_
 refine AThen_exit ?_
 refine AThen_exit ?_
 refine AIn_exit ?_
 refine AThen_normal ?_
 refine qz [(3, .ptr 1 0), (4, .ptr 2 0), (7, .fn (.func 98) [] [.ptr 3 0])] ?_ ?_
 refine qSeq ?_ ?_
 refine qU 3 [(3, .ptr 1 0), (4, .ptr 2 0), (7, .fn (.func 98) [] [.ptr 3 0]), (70, .bool ((t.n) != 0))] ?_ ?_
 by_cases hb8 : (t.n) = 0
 refine qf (x := ((t.n) != 0)) (bne_eq_false_iff_eq.2 hb8) ?_ ?_
 refine qK ?_ ?_
 refine qz [(3, .ptr 1 0), (4, .ptr 2 0)] ?_ ?_
 refine qV 4 ?_ ?_
 by_cases hb9 : (c.n) = 0
 refine qm [82, 83] (beq_iff_eq.2 hb9) ?_ ?_
 refine qr 2 ?_ ?_
 refine qy (o_lenmap (l := t.names) (enc := AVal.str) (by kernel_rfl) ty22) ?_ ?_ ?_
 refine qr 2 ?_ ?_
 refine qy (o_lenmap (l := c.names) (enc := AVal.str) (by kernel_rfl) ty22) ?_ ?_ ?_
 refine qR 3 [(6, .bool (((t.names.length : Nat) : Int) == ((c.names.length : Nat) : Int)))] [.map (encM (AVal.int .i64) Ty.v q), t.bx, c.bx, .box [.map 0]] ?_ ?_
 refine wRet (by kernel_rfl) ?_
 apply iR
 apply aR
 refine leafA (l := [.bool (((t.names.length : Nat) : Int) == ((c.names.length : Nat) : Int))]) (.inr rfl) (by kernel_rfl) (by first | exact congrArg AVal.bool (congrArg Prod.fst (mT_6 (by assumption))).symm | exact congrArg AVal.bool (congrArg Prod.fst (mT_ne (by assumption) (.inl (by assumption)))).symm | exact congrArg AVal.bool (congrArg Prod.fst (mT_ne (by assumption) (.inr (by assumption)))).symm | exact congrArg AVal.bool (congrArg Prod.fst (mT_a (by assumption) (ne_ok (by assumption) (by assumption)) (hL.trans ((mTL_step (by omega) hnk).trans (if_pos (by assumption)))))).symm | exact congrArg AVal.bool (congrArg Prod.fst (mT_a (by assumption) (ne_ok (by assumption) (by assumption)) (hL.trans ((mTL_step (by omega) hnk).trans ((if_neg (by assumption)).trans (if_neg (by assumption))))))).symm | exact congrArg AVal.bool (congrArg Prod.fst (mT_b (by assumption) (ne_ok (by assumption) (by assumption)) (hL.trans (mTL_end (by omega))) (by assumption))).symm | exact congrArg AVal.bool (congrArg Prod.fst (mT_4 (by assumption) (ne_ok (by assumption) (by assumption)) (by omega))).symm | exact congrArg AVal.bool (congrArg Prod.fst (mT_o (by assumption) (ne_ok (by assumption) (by assumption)) (by assumption) (by assumption))).symm | (rw [mT_c (by assumption) (ne_ok (by assumption) (by assumption)) (hL.trans (mTL_end (by omega))) (by assumption)]; simp [awrap, *]; done) | (rw [mT_c (by assumption) (ne_ok (by assumption) (by assumption)) (hL.trans (mTL_end (by omega))) (by assumption)]; simp [awrap, *]; rw [Bool.eq_iff_iff, beq_iff_eq, decide_eq_true_eq]; omega)) (by simp [awrap]) (by simp [awrap]) ?_ ?_
 refine Eq.trans (b := [.map (encM (AVal.int .i64) Ty.v q)]) (by kernel_rfl) ?_
 rotate_left
 · simp [AObj.belO, hpV, Ty.v]
 iterate 8 kernel_rfl
 refine qm [82, 83] (beq_eq_false_iff_ne.2 hb9) ?_ ?_
 refine qR 9 [(6, .bool false)] [.map (encM (AVal.int .i64) Ty.v q), t.bx, c.bx, .box [.map 0]] ?_ ?_
 refine wRet (by kernel_rfl) ?_
 apply iR
 apply aR
 refine leafA (l := [.bool false]) (.inr rfl) (by kernel_rfl) (by first | exact congrArg AVal.bool (congrArg Prod.fst (mT_6 (by assumption))).symm | exact congrArg AVal.bool (congrArg Prod.fst (mT_ne (by assumption) (.inl (by assumption)))).symm | exact congrArg AVal.bool (congrArg Prod.fst (mT_ne (by assumption) (.inr (by assumption)))).symm | exact congrArg AVal.bool (congrArg Prod.fst (mT_a (by assumption) (ne_ok (by assumption) (by assumption)) (hL.trans ((mTL_step (by omega) hnk).trans (if_pos (by assumption)))))).symm | exact congrArg AVal.bool (congrArg Prod.fst (mT_a (by assumption) (ne_ok (by assumption) (by assumption)) (hL.trans ((mTL_step (by omega) hnk).trans ((if_neg (by assumption)).trans (if_neg (by assumption))))))).symm | exact congrArg AVal.bool (congrArg Prod.fst (mT_b (by assumption) (ne_ok (by assumption) (by assumption)) (hL.trans (mTL_end (by omega))) (by assumption))).symm | exact congrArg AVal.bool (congrArg Prod.fst (mT_4 (by assumption) (ne_ok (by assumption) (by assumption)) (by omega))).symm | exact congrArg AVal.bool (congrArg Prod.fst (mT_o (by assumption) (ne_ok (by assumption) (by assumption)) (by assumption) (by assumption))).symm | (rw [mT_c (by assumption) (ne_ok (by assumption) (by assumption)) (hL.trans (mTL_end (by omega))) (by assumption)]; simp [awrap, *]; done) | (rw [mT_c (by assumption) (ne_ok (by assumption) (by assumption)) (hL.trans (mTL_end (by omega))) (by assumption)]; simp [awrap, *]; rw [Bool.eq_iff_iff, beq_iff_eq, decide_eq_true_eq]; omega)) (by simp [awrap]) (by simp [awrap]) ?_ ?_
 refine Eq.trans (b := [.map (encM (AVal.int .i64) Ty.v q)]) (by kernel_rfl) ?_
 rotate_left
 · simp [AObj.belO, hpV, Ty.v]
 iterate 6 kernel_rfl
 refine qt (x := ((t.n) != 0)) (bne_iff_ne.2 hb8) ?_ ?_
 refine qSeq ?_ ?_
 refine wDrw cxM (by kernel_rfl) extThen (dstart ?_)
 refine qu 7 ?_ ?_
 refine dcallP (args := [.agg [.int .i64 (c.kind), .str c.name, .int .i64 (c.n), .imm (c.names.map AVal.str), .imm (c.kids.map Ty.enc)], .agg [.int .i64 (t.kind), .str t.name, .int .i64 (t.n), .imm (t.names.map AVal.str), .imm (t.kids.map Ty.enc)], .int .i64 (c.n)]) (by kernel_rfl) (by kernel_rfl) (by kernel_rfl) (by kernel_rfl) (by kernel_rfl) (only_spec c t (c.n) (by first | omega | assumption | exact sz_kid t _ (by omega) | exact Nat.lt_trans (sz_kid c _ (by omega)) hsc | exact gd_at hg _ (by omega) | exact gd_at hgc _ (by omega) | exact rec_sz hgc (by omega) hsc) (by first | omega | assumption | exact sz_kid t _ (by omega) | exact Nat.lt_trans (sz_kid c _ (by omega)) hsc | exact gd_at hg _ (by omega) | exact gd_at hgc _ (by omega) | exact rec_sz hgc (by omega) hsc) (by first | omega | assumption | exact sz_kid t _ (by omega) | exact Nat.lt_trans (sz_kid c _ (by omega)) hsc | exact gd_at hg _ (by omega) | exact gd_at hgc _ (by omega) | exact rec_sz hgc (by omega) hsc)) (by intro _; simp [Ty.v, frzL_app, Occ.v]) (by simp [Ty.v]) (by simp [Ty.v, ownsL_app]) ?_
 refine dcallA (args := [.int .i64 (t.n), Ty.v (recT (onL c t c.names.length) (c.n)), .ptr 3 0]) (hs := [.map (encM (AVal.int .i64) Ty.v q), .box [.int .i64 (t.kind), .str t.name, .int .i64 (t.n), .imm (t.names.map AVal.str), .imm (t.kids.map Ty.enc)], .box [.int .i64 (c.kind), .str c.name, .int .i64 (c.n), .imm (c.names.map AVal.str), .imm (c.kids.map Ty.enc)], .box [.map 0]]) (hs' := [.map (encM (AVal.int .i64) Ty.v (mset (t.n) (recT (onL c t c.names.length) (c.n)) q)), .box [.int .i64 (t.kind), .str t.name, .int .i64 (t.n), .imm (t.names.map AVal.str), .imm (t.kids.map Ty.enc)], .box [.int .i64 (c.kind), .str c.name, .int .i64 (c.n), .imm (c.names.map AVal.str), .imm (c.kids.map Ty.enc)], .box [.map 0]]) (rest := []) (L := [0, 1, 2, 3]) (by kernel_rfl) (by kernel_rfl) (by kernel_rfl) (by kernel_rfl) (by kernel_rfl) (by kernel_rfl) (tset_spec (t.n) (recT (onL c t c.names.length) (c.n)) t c q (by first | omega | assumption | exact sz_kid t _ (by omega) | exact Nat.lt_trans (sz_kid c _ (by omega)) hsc | exact gd_at hg _ (by omega) | exact gd_at hgc _ (by omega) | exact rec_sz hgc (by omega) hsc) (by first | exact hm | exact hq)) (by simp [AObj.belO, hpV, Ty.v]) (by simp [AObj.belO, hpV, Ty.v]) rfl (by simp [AObj.belO, hpV, Ty.v]) (by simp [AObj.belO, hpV, Ty.v]) (by kernel_rfl) rfl rfl ?_
 refine qu 1 ?_ ?_
 refine dend (by kernel_rfl) ⟨(by kernel_rfl), ?_⟩
 refine AThen_normal ?_
 refine qZ [(6, .bool (bdOk q (t.n) (recT (onL c t c.names.length) (c.n))))] [.map (encM (AVal.int .i64) Ty.v (mset (t.n) (recT (onL c t c.names.length) (c.n)) q)), t.bx, c.bx, .box [.map 0]] ?_ ?_
 refine wRet (by kernel_rfl) ?_
 apply aR
 apply iR
 apply aR
 refine leafA (l := [.bool (bdOk q (t.n) (recT (onL c t c.names.length) (c.n)))]) (.inr rfl) (by kernel_rfl) (by first | exact congrArg AVal.bool (congrArg Prod.fst (mT_6 (by assumption))).symm | exact congrArg AVal.bool (congrArg Prod.fst (mT_ne (by assumption) (.inl (by assumption)))).symm | exact congrArg AVal.bool (congrArg Prod.fst (mT_ne (by assumption) (.inr (by assumption)))).symm | exact congrArg AVal.bool (congrArg Prod.fst (mT_a (by assumption) (ne_ok (by assumption) (by assumption)) (hL.trans ((mTL_step (by omega) hnk).trans (if_pos (by assumption)))))).symm | exact congrArg AVal.bool (congrArg Prod.fst (mT_a (by assumption) (ne_ok (by assumption) (by assumption)) (hL.trans ((mTL_step (by omega) hnk).trans ((if_neg (by assumption)).trans (if_neg (by assumption))))))).symm | exact congrArg AVal.bool (congrArg Prod.fst (mT_b (by assumption) (ne_ok (by assumption) (by assumption)) (hL.trans (mTL_end (by omega))) (by assumption))).symm | exact congrArg AVal.bool (congrArg Prod.fst (mT_4 (by assumption) (ne_ok (by assumption) (by assumption)) (by omega))).symm | exact congrArg AVal.bool (congrArg Prod.fst (mT_o (by assumption) (ne_ok (by assumption) (by assumption)) (by assumption) (by assumption))).symm | (rw [mT_c (by assumption) (ne_ok (by assumption) (by assumption)) (hL.trans (mTL_end (by omega))) (by assumption)]; simp [awrap, *]; done) | (rw [mT_c (by assumption) (ne_ok (by assumption) (by assumption)) (hL.trans (mTL_end (by omega))) (by assumption)]; simp [awrap, *]; rw [Bool.eq_iff_iff, beq_iff_eq, decide_eq_true_eq]; omega)) (by simp [awrap]) (by simp [awrap]) ?_ ?_
 refine Eq.trans (b := [.map (encM (AVal.int .i64) Ty.v (mset (t.n) (recT (onL c t c.names.length) (c.n)) q))]) (by kernel_rfl) ?_
 rotate_left
 · simp [AObj.belO, hpV, Ty.v]
 iterate 20 kernel_rfl
 refine qf (beq_eq_false_iff_ne.2 hb4) ?_ ?_
 refine qk ?_ ?_
 refine AIn_normal ?_
 refine AThen_normal ?_
 refine qz [(3, .ptr 1 0), (4, .ptr 2 0), (5, .ptr 3 0)] ?_ ?_
 refine qSeq ?_ ?_
 refine wDrw cxM (by kernel_rfl) extThen (dstart ?_)
 refine qu 4 ?_ ?_
 by_cases hb10 : (t.kind) = 4
 refine dset 94 (.bool ((t.kind) != 4)) (.bool false) (extD extThen) (by kernel_rfl) (congrArg AVal.bool (bne_eq_false_iff_eq.2 hb10)) ?_
 refine dset 95 (.bool ((t.kind) != 4)) (.bool false) (extD extThen) (by kernel_rfl) (congrArg AVal.bool (bne_eq_false_iff_eq.2 hb10)) ?_
 refine qu 2 ?_ ?_
 refine qd ((o_ixmap (k := .i64) (l := t.kids) (enc := Ty.enc) (i := 0) Ty.zero (by kernel_rfl) ty23 ty25 ty_size (by first | omega | assumption | exact sz_kid t _ (by omega) | exact Nat.lt_trans (sz_kid c _ (by omega)) hsc | exact gd_at hg _ (by omega) | exact gd_at hgc _ (by omega) | exact rec_sz hgc (by omega) hsc) (by first | omega | assumption | exact sz_kid t _ (by omega) | exact Nat.lt_trans (sz_kid c _ (by omega)) hsc | exact gd_at hg _ (by omega) | exact gd_at hgc _ (by omega) | exact rec_sz hgc (by omega) hsc)).trans (congrArg (fun cs => some (AVal.pimm cs 0, _)) (ty_cells (t.kids.getD 0 Ty.zero)))) ?_ ?_ ?_ ?_
 refine qu 3 ?_ ?_
 refine qd ((o_ixmap (k := .i64) (l := c.kids) (enc := Ty.enc) (i := 0) Ty.zero (by kernel_rfl) ty23 ty25 ty_size (by first | omega | assumption | exact sz_kid t _ (by omega) | exact Nat.lt_trans (sz_kid c _ (by omega)) hsc | exact gd_at hg _ (by omega) | exact gd_at hgc _ (by omega) | exact rec_sz hgc (by omega) hsc) (by first | omega | assumption | exact sz_kid t _ (by omega) | exact Nat.lt_trans (sz_kid c _ (by omega)) hsc | exact gd_at hg _ (by omega) | exact gd_at hgc _ (by omega) | exact rec_sz hgc (by omega) hsc)).trans (congrArg (fun cs => some (AVal.pimm cs 0, _)) (ty_cells (c.kids.getD 0 Ty.zero)))) ?_ ?_ ?_ ?_
 refine qu 2 ?_ ?_
 refine dcallA (args := [.agg [.int .i64 ((t.kids.getD 0 Ty.zero).kind), .str (t.kids.getD 0 Ty.zero).name, .int .i64 ((t.kids.getD 0 Ty.zero).n), .imm ((t.kids.getD 0 Ty.zero).names.map AVal.str), .imm ((t.kids.getD 0 Ty.zero).kids.map Ty.enc)], .agg [.int .i64 ((c.kids.getD 0 Ty.zero).kind), .str (c.kids.getD 0 Ty.zero).name, .int .i64 ((c.kids.getD 0 Ty.zero).n), .imm ((c.kids.getD 0 Ty.zero).names.map AVal.str), .imm ((c.kids.getD 0 Ty.zero).kids.map Ty.enc)], .map 0]) (hs := [.map (encM (AVal.int .i64) Ty.v m)]) (hs' := [.map (encM (AVal.int .i64) Ty.v (mT (t.kids.getD 0 Ty.zero) (c.kids.getD 0 Ty.zero) m).2)]) (rest := [.box [.int .i64 (t.kind), .str t.name, .int .i64 (t.n), .imm (t.names.map AVal.str), .imm (t.kids.map Ty.enc)], .box [.int .i64 (c.kind), .str c.name, .int .i64 (c.n), .imm (c.names.map AVal.str), .imm (c.kids.map Ty.enc)], .box [.map 0]]) (L := [0]) (by kernel_rfl) (by kernel_rfl) (by kernel_rfl) (by kernel_rfl) (by kernel_rfl) (by kernel_rfl) (ihM (t.kids.getD 0 Ty.zero) (c.kids.getD 0 Ty.zero) m (by first | omega | assumption | exact sz_kid t _ (by omega) | exact Nat.lt_trans (sz_kid c _ (by omega)) hsc | exact gd_at hg _ (by omega) | exact gd_at hgc _ (by omega) | exact rec_sz hgc (by omega) hsc) (by first | omega | assumption | exact sz_kid t _ (by omega) | exact Nat.lt_trans (sz_kid c _ (by omega)) hsc | exact gd_at hg _ (by omega) | exact gd_at hgc _ (by omega) | exact rec_sz hgc (by omega) hsc) (by first | omega | assumption | exact sz_kid t _ (by omega) | exact Nat.lt_trans (sz_kid c _ (by omega)) hsc | exact gd_at hg _ (by omega) | exact gd_at hgc _ (by omega) | exact rec_sz hgc (by omega) hsc) (by first | omega | assumption | exact sz_kid t _ (by omega) | exact Nat.lt_trans (sz_kid c _ (by omega)) hsc | exact gd_at hg _ (by omega) | exact gd_at hgc _ (by omega) | exact rec_sz hgc (by omega) hsc) (by first | exact hm | exact hq)) (by simp [AObj.belO, hpV, Ty.v]) (by simp [AObj.belO, hpV, Ty.v]) rfl (by simp [AObj.belO, hpV, Ty.v]) (by simp [AObj.belO, hpV, Ty.v]) (by kernel_rfl) rfl rfl ?_
 refine qu 2 ?_ ?_
 refine dend (by kernel_rfl) ⟨(by kernel_rfl), ?_⟩
 refine AThen_normal ?_
 refine qZ [(6, .bool ((mT (t.kids.getD 0 Ty.zero) (c.kids.getD 0 Ty.zero) m).1))] [.map (encM (AVal.int .i64) Ty.v (mT (t.kids.getD 0 Ty.zero) (c.kids.getD 0 Ty.zero) m).2), t.bx, c.bx, .box [.map 0]] ?_ ?_
 refine wRet (by kernel_rfl) ?_
 refine leafA (l := [.bool ((mT (t.kids.getD 0 Ty.zero) (c.kids.getD 0 Ty.zero) m).1)]) (.inr rfl) (by kernel_rfl) (by first | exact congrArg AVal.bool (congrArg Prod.fst (mT_6 (by assumption))).symm | exact congrArg AVal.bool (congrArg Prod.fst (mT_ne (by assumption) (.inl (by assumption)))).symm | exact congrArg AVal.bool (congrArg Prod.fst (mT_ne (by assumption) (.inr (by assumption)))).symm | exact congrArg AVal.bool (congrArg Prod.fst (mT_a (by assumption) (ne_ok (by assumption) (by assumption)) (hL.trans ((mTL_step (by omega) hnk).trans (if_pos (by assumption)))))).symm | exact congrArg AVal.bool (congrArg Prod.fst (mT_a (by assumption) (ne_ok (by assumption) (by assumption)) (hL.trans ((mTL_step (by omega) hnk).trans ((if_neg (by assumption)).trans (if_neg (by assumption))))))).symm | exact congrArg AVal.bool (congrArg Prod.fst (mT_b (by assumption) (ne_ok (by assumption) (by assumption)) (hL.trans (mTL_end (by omega))) (by assumption))).symm | exact congrArg AVal.bool (congrArg Prod.fst (mT_4 (by assumption) (ne_ok (by assumption) (by assumption)) (by omega))).symm | exact congrArg AVal.bool (congrArg Prod.fst (mT_o (by assumption) (ne_ok (by assumption) (by assumption)) (by assumption) (by assumption))).symm | (rw [mT_c (by assumption) (ne_ok (by assumption) (by assumption)) (hL.trans (mTL_end (by omega))) (by assumption)]; simp [awrap, *]; done) | (rw [mT_c (by assumption) (ne_ok (by assumption) (by assumption)) (hL.trans (mTL_end (by omega))) (by assumption)]; simp [awrap, *]; rw [Bool.eq_iff_iff, beq_iff_eq, decide_eq_true_eq]; omega)) (by simp [awrap]) (by simp [awrap]) ?_ ?_
 refine Eq.trans (b := [.map (encM (AVal.int .i64) Ty.v (mT (t.kids.getD 0 Ty.zero) (c.kids.getD 0 Ty.zero) m).2)]) (by kernel_rfl) ?_
 rotate_left
 · simp [AObj.belO, hpV, Ty.v]
 iterate 11 kernel_rfl
 refine dset 94 (.bool ((t.kind) != 4)) (.bool true) (extD extThen) (by kernel_rfl) (congrArg AVal.bool (bne_iff_ne.2 hb10)) ?_
 refine dset 95 (.bool ((t.kind) != 4)) (.bool true) (extD extThen) (by kernel_rfl) (congrArg AVal.bool (bne_iff_ne.2 hb10)) ?_
 refine qu 12 ?_ ?_
 refine dend (by kernel_rfl) ⟨(by kernel_rfl), ?_⟩
 refine AThen_normal ?_
 refine qZ [(6, .bool true)] [.map (encM (AVal.int .i64) Ty.v m), t.bx, c.bx, .box [.map 0]] ?_ ?_
 refine wRet (by kernel_rfl) ?_
 refine leafA (l := [.bool true]) (.inr rfl) (by kernel_rfl) (by first | exact congrArg AVal.bool (congrArg Prod.fst (mT_6 (by assumption))).symm | exact congrArg AVal.bool (congrArg Prod.fst (mT_ne (by assumption) (.inl (by assumption)))).symm | exact congrArg AVal.bool (congrArg Prod.fst (mT_ne (by assumption) (.inr (by assumption)))).symm | exact congrArg AVal.bool (congrArg Prod.fst (mT_a (by assumption) (ne_ok (by assumption) (by assumption)) (hL.trans ((mTL_step (by omega) hnk).trans (if_pos (by assumption)))))).symm | exact congrArg AVal.bool (congrArg Prod.fst (mT_a (by assumption) (ne_ok (by assumption) (by assumption)) (hL.trans ((mTL_step (by omega) hnk).trans ((if_neg (by assumption)).trans (if_neg (by assumption))))))).symm | exact congrArg AVal.bool (congrArg Prod.fst (mT_b (by assumption) (ne_ok (by assumption) (by assumption)) (hL.trans (mTL_end (by omega))) (by assumption))).symm | exact congrArg AVal.bool (congrArg Prod.fst (mT_4 (by assumption) (ne_ok (by assumption) (by assumption)) (by omega))).symm | exact congrArg AVal.bool (congrArg Prod.fst (mT_o (by assumption) (ne_ok (by assumption) (by assumption)) (by assumption) (by assumption))).symm | (rw [mT_c (by assumption) (ne_ok (by assumption) (by assumption)) (hL.trans (mTL_end (by omega))) (by assumption)]; simp [awrap, *]; done) | (rw [mT_c (by assumption) (ne_ok (by assumption) (by assumption)) (hL.trans (mTL_end (by omega))) (by assumption)]; simp [awrap, *]; rw [Bool.eq_iff_iff, beq_iff_eq, decide_eq_true_eq]; omega)) (by simp [awrap]) (by simp [awrap]) ?_ ?_
 refine Eq.trans (b := [.map (encM (AVal.int .i64) Ty.v m)]) (by kernel_rfl) ?_
 rotate_left
 · simp [AObj.belO, hpV, Ty.v]
 iterate 9 kernel_rfl
 refine qt (x := (!(t.name == c.name))) (congrArg not (beq_eq_false_iff_ne.2 hb3)) ?_ ?_
 refine qU 1 [(6, .bool false)] ?_ ?_
 refine wRet (by kernel_rfl) ?_
 apply iR
 apply aR
 refine leafA (l := [.bool false]) (.inr rfl) (by kernel_rfl) (by first | exact congrArg AVal.bool (congrArg Prod.fst (mT_6 (by assumption))).symm | exact congrArg AVal.bool (congrArg Prod.fst (mT_ne (by assumption) (.inl (by assumption)))).symm | exact congrArg AVal.bool (congrArg Prod.fst (mT_ne (by assumption) (.inr (by assumption)))).symm | exact congrArg AVal.bool (congrArg Prod.fst (mT_a (by assumption) (ne_ok (by assumption) (by assumption)) (hL.trans ((mTL_step (by omega) hnk).trans (if_pos (by assumption)))))).symm | exact congrArg AVal.bool (congrArg Prod.fst (mT_a (by assumption) (ne_ok (by assumption) (by assumption)) (hL.trans ((mTL_step (by omega) hnk).trans ((if_neg (by assumption)).trans (if_neg (by assumption))))))).symm | exact congrArg AVal.bool (congrArg Prod.fst (mT_b (by assumption) (ne_ok (by assumption) (by assumption)) (hL.trans (mTL_end (by omega))) (by assumption))).symm | exact congrArg AVal.bool (congrArg Prod.fst (mT_4 (by assumption) (ne_ok (by assumption) (by assumption)) (by omega))).symm | exact congrArg AVal.bool (congrArg Prod.fst (mT_o (by assumption) (ne_ok (by assumption) (by assumption)) (by assumption) (by assumption))).symm | (rw [mT_c (by assumption) (ne_ok (by assumption) (by assumption)) (hL.trans (mTL_end (by omega))) (by assumption)]; simp [awrap, *]; done) | (rw [mT_c (by assumption) (ne_ok (by assumption) (by assumption)) (hL.trans (mTL_end (by omega))) (by assumption)]; simp [awrap, *]; rw [Bool.eq_iff_iff, beq_iff_eq, decide_eq_true_eq]; omega)) (by simp [awrap]) (by simp [awrap]) ?_ ?_
 refine Eq.trans (b := [.map (encM (AVal.int .i64) Ty.v m)]) (by kernel_rfl) ?_
 rotate_left
 · simp [AObj.belO, hpV, Ty.v]
 iterate 4 kernel_rfl
 refine qm [26, 27] (x := ((t.kind) != (c.kind))) (bne_iff_ne.2 hb2) ?_ ?_
 refine qR 7 [(3, .ptr 1 0), (4, .ptr 2 0), (5, .ptr 3 0), (7, .fn (.func 98) [] [.ptr 3 0]), (21, .bool true)] [.map (encM (AVal.int .i64) Ty.v m), t.bx, c.bx, .box [.map 0]] ?_ ?_
 refine wIfT (by kernel_rfl) (by kernel_rfl) ?_
 refine qU 1 [(6, .bool false)] ?_ ?_
 refine wRet (by kernel_rfl) ?_
 apply iR
 apply aR
 refine leafA (l := [.bool false]) (.inr rfl) (by kernel_rfl) (by first | exact congrArg AVal.bool (congrArg Prod.fst (mT_6 (by assumption))).symm | exact congrArg AVal.bool (congrArg Prod.fst (mT_ne (by assumption) (.inl (by assumption)))).symm | exact congrArg AVal.bool (congrArg Prod.fst (mT_ne (by assumption) (.inr (by assumption)))).symm | exact congrArg AVal.bool (congrArg Prod.fst (mT_a (by assumption) (ne_ok (by assumption) (by assumption)) (hL.trans ((mTL_step (by omega) hnk).trans (if_pos (by assumption)))))).symm | exact congrArg AVal.bool (congrArg Prod.fst (mT_a (by assumption) (ne_ok (by assumption) (by assumption)) (hL.trans ((mTL_step (by omega) hnk).trans ((if_neg (by assumption)).trans (if_neg (by assumption))))))).symm | exact congrArg AVal.bool (congrArg Prod.fst (mT_b (by assumption) (ne_ok (by assumption) (by assumption)) (hL.trans (mTL_end (by omega))) (by assumption))).symm | exact congrArg AVal.bool (congrArg Prod.fst (mT_4 (by assumption) (ne_ok (by assumption) (by assumption)) (by omega))).symm | exact congrArg AVal.bool (congrArg Prod.fst (mT_o (by assumption) (ne_ok (by assumption) (by assumption)) (by assumption) (by assumption))).symm | (rw [mT_c (by assumption) (ne_ok (by assumption) (by assumption)) (hL.trans (mTL_end (by omega))) (by assumption)]; simp [awrap, *]; done) | (rw [mT_c (by assumption) (ne_ok (by assumption) (by assumption)) (hL.trans (mTL_end (by omega))) (by assumption)]; simp [awrap, *]; rw [Bool.eq_iff_iff, beq_iff_eq, decide_eq_true_eq]; omega)) (by simp [awrap]) (by simp [awrap]) ?_ ?_
 refine Eq.trans (b := [.map (encM (AVal.int .i64) Ty.v m)]) (by kernel_rfl) ?_
 rotate_left
 · simp [AObj.belO, hpV, Ty.v]
 iterate 12 kernel_rfl
 all_goals
  refine congrArg (fun z => [AObj.map (encM (AVal.int .i64) Ty.v z)]) ?_
  first | exact (congrArg Prod.snd (mT_6 (by assumption))).symm | exact (congrArg Prod.snd (mT_ne (by assumption) (.inl (by assumption)))).symm | exact (congrArg Prod.snd (mT_ne (by assumption) (.inr (by assumption)))).symm | exact (congrArg Prod.snd (mT_a (by assumption) (ne_ok (by assumption) (by assumption)) (hL.trans ((mTL_step (by omega) hnk).trans (if_pos (by assumption)))))).symm | exact (congrArg Prod.snd (mT_a (by assumption) (ne_ok (by assumption) (by assumption)) (hL.trans ((mTL_step (by omega) hnk).trans ((if_neg (by assumption)).trans (if_neg (by assumption))))))).symm | exact (congrArg Prod.snd (mT_b (by assumption) (ne_ok (by assumption) (by assumption)) (hL.trans (mTL_end (by omega))) (by assumption))).symm | exact (congrArg Prod.snd (mT_4 (by assumption) (ne_ok (by assumption) (by assumption)) (by omega))).symm | exact (congrArg Prod.snd (mT_o (by assumption) (ne_ok (by assumption) (by assumption)) (by assumption) (by assumption))).symm | exact (congrArg Prod.snd (mT_c (by assumption) (ne_ok (by assumption) (by assumption)) (hL.trans (mTL_end (by omega))) (by assumption))).symm
end Go.Proofs.YtdikgijfekfaoaaGreatDoor
