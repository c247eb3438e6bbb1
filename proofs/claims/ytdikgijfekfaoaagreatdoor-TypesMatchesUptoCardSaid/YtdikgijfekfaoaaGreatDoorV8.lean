/- fits of the reference, walked. Condition: types that are formed, of sizes that can be had. -/
import Derived.Test.YtdikgijfekfaoaaGreatDoorV7
set_option linter.all false
set_option linter.unusedSimpArgs false
set_option linter.unusedVariables false
namespace Go.Proofs.YtdikgijfekfaoaaGreatDoor
open Go.Proofs.YtdikgijfekfaoaaGreatDoor.Abs
set_option maxRecDepth 20000
set_option maxHeartbeats 4000000
theorem szL_drop (l : List Ty) (k : Nat) (h : k < l.length) : (l.getD k Ty.zero).sz + Ty.szL (l.drop (k + 1)) ≤ Ty.szL (l.drop k) := by
  rw [drop_at (d := Ty.zero) h]; simp only [Ty.szL]; omega
theorem nk_le {t : Ty} (hg : gd t) (hgn : gn t) (h6 : ¬ t.kind = 6) : t.names.length ≤ t.kids.length := by
  by_cases h5 : t.kind = 5
  · rw [((gd_ok hg).2 h5).1]; exact Nat.le_refl _
  · rw [(gn_ok hgn h5 h6).2]; exact Nat.zero_le _
noncomputable def c63 : Code := bodyOf Tryz.f63
theorem fits_spec (t c : Ty) (m : Bd) (hs : m.length + t.sz < 100000000) (hsc : c.sz < 100000000) (hg : gd t) (hgn : gn t) (hgc : gd c) (hgcn : gn c) (hm : bdZ m) : CallsA cx 63 [Ty.v t, Ty.v c, .ptr 0 0] (hpB m) (fun v h => v = (.bool ((fT t c m).1)) ∧ h = hpB (fT t c m).2) := by
 induction hN : t.sz using Nat.strongRecOn generalizing t c m with | _ N ih =>
 have ihF : ∀ (x y : Ty) (m : Bd), x.sz < t.sz → m.length + x.sz < 100000000 → y.sz < 100000000 → gd x ∧ gn x → gd y ∧ gn y → bdZ m → CallsA cx 63 [Ty.v x, Ty.v y, .ptr 0 0] (hpB m) (fun v h => v = (.bool (fT x y m).1) ∧ h = hpB (fT x y m).2) := fun x y m h1 h2 h3 h4 h5 h6 => ih _ (by rw [← hN]; exact h1) x y m h2 h3 h4.1 h4.2 h5.1 h5.2 h6 rfl
 have hz1 := sz_names t
 have hz2 := sz_kids t
 have hz3 := sz_names c
 have hz4 := sz_kids c
 have h4t := (gd_ok hg).1
 have h4c := (gd_ok hgc).1
 have hzz := sz_eq t
 refine func_intro (cx := cx) 101 3 [(ResultVar.tmp 6)] Tryz.func63 rfl rfl rfl rfl rfl (by simp) ?_
 show wpA cx 101 3 (at_ c63 []) _ _ _
 refine qZ [(0, Ty.v t), (1, Ty.v c), (2, .ptr 0 0)] [.box [.own 1 0 m.length, .own 2 0 m.length], .arr 1 ((m.map Prod.fst).map (AVal.int .i64)) 0, .arr 5 ((m.map Prod.snd).map Ty.enc) 0] ?_ ?_
 refine qW 3 [(2, .ptr 0 0), (3, .ptr 3 0), (4, .ptr 4 0)] [.box [.own 1 0 m.length, .own 2 0 m.length], .arr 1 ((m.map Prod.fst).map (AVal.int .i64)) 0, .arr 5 ((m.map Prod.snd).map Ty.enc) 0, t.bx, c.bx] ?_ ?_
 refine qSeq ?_ ?_
 refine qU 3 [(2, .ptr 0 0), (3, .ptr 3 0), (4, .ptr 4 0), (12, .bool ((t.kind) == 6))] ?_ ?_
 by_cases hb1 : (t.kind) = 6
 refine qt (beq_iff_eq.2 hb1) ?_ ?_
 refine qV 4 ?_ ?_
 refine vcallA (args := [.ptr 0 0, .int .i64 (t.n), .agg [.int .i64 (c.kind), .str c.name, .int .i64 (c.n), .imm (c.names.map AVal.str), .imm (c.kids.map Ty.enc)]]) (hs := [.box [.own 1 0 m.length, .own 2 0 m.length], .arr 1 ((m.map Prod.fst).map (AVal.int .i64)) 0, .arr 5 ((m.map Prod.snd).map Ty.enc) 0]) (hs' := [.box [.own 1 0 (rset m (t.n) c).length, .own 2 0 (rset m (t.n) c).length], .arr 1 (((rset m (t.n) c).map Prod.fst).map (AVal.int .i64)) 0, .arr 5 (((rset m (t.n) c).map Prod.snd).map Ty.enc) 0]) (rest := [.box [.int .i64 (t.kind), .str t.name, .int .i64 (t.n), .imm (t.names.map AVal.str), .imm (t.kids.map Ty.enc)], .box [.int .i64 (c.kind), .str c.name, .int .i64 (c.n), .imm (c.names.map AVal.str), .imm (c.kids.map Ty.enc)]]) (by kernel_rfl) (by kernel_rfl) (by kernel_rfl) (by kernel_rfl) (by kernel_rfl) (rset_spec (t.n) c m (by first | omega | assumption | exact sz_kid t _ (by omega) | exact kid_Z hsc _ | exact ⟨gd_at hg _ (by omega), gnL_at (gn_kids hgn) _⟩ | exact ⟨gdL_at' (gd_kids hgc) _, gnL_at (gn_kids hgcn) _⟩ | (have := hsl (by omega); omega) | (have := sz_kid t 0 (by omega); omega) | exact ((gd_ok hgc).2 (by omega)).1 | exact Nat.lt_of_le_of_lt (woT_sz ((gd_ok hgc).2 (by omega)).1 _) hsc) (by first | exact ⟨by omega, hm⟩ | exact ⟨by omega, hq⟩)) (by simp [AObj.belO, hpB, Ty.v, -List.map_map]) (by simp [AObj.belO, hpB, Ty.v, -List.map_map]) rfl (by simp [AObj.belO, hpB, Ty.v, -List.map_map]) (by simp [AObj.belO, hpB, Ty.v, -List.map_map]) (by kernel_rfl) ?_
 refine qR 1 [(6, .bool (bdOk m (t.n) c))] [.box [.own 1 0 (rset m (t.n) c).length, .own 2 0 (rset m (t.n) c).length], .arr 1 (((rset m (t.n) c).map Prod.fst).map (AVal.int .i64)) 0, .arr 5 (((rset m (t.n) c).map Prod.snd).map Ty.enc) 0, t.bx, c.bx] ?_ ?_
 refine wRet (by kernel_rfl) ?_
 apply aR
 refine leafA (l := [.bool (bdOk m (t.n) c)]) (.inr rfl) (by kernel_rfl) (by first | exact congrArg AVal.bool (congrArg Prod.fst (fT_6 (by assumption))).symm | exact congrArg AVal.bool (congrArg Prod.fst (fT_ne (by assumption) (.inl (by assumption)))).symm | exact congrArg AVal.bool (congrArg Prod.fst (fT_ne (by assumption) (.inr (by assumption)))).symm | exact congrArg AVal.bool (congrArg Prod.fst (fT_4 (by assumption) (ne_ok (by assumption) (by assumption)) (by omega))).symm | exact congrArg AVal.bool (congrArg Prod.fst (fT_a (by assumption) (ne_ok (by assumption) (by assumption)) (by assumption) (hL.trans ((fTL_step (by omega) hnk).trans (if_pos (by assumption)))))).symm | exact congrArg AVal.bool (congrArg Prod.fst (fT_a (by assumption) (ne_ok (by assumption) (by assumption)) (by assumption) (hL.trans ((fTL_step (by omega) hnk).trans ((if_neg (by assumption)).trans (if_neg (by assumption))))))).symm | exact congrArg AVal.bool (congrArg Prod.fst (fT_b (by assumption) (ne_ok (by assumption) (by assumption)) (by assumption) (hL.trans (fTL_end (by omega))) (by assumption) (by assumption))).symm | (rw [fT_c (by assumption) (ne_ok (by assumption) (by assumption)) (by assumption) (hL.trans (fTL_end (by omega))) (by omega)]; simp [awrap, *]; done) | (rw [fT_c (by assumption) (ne_ok (by assumption) (by assumption)) (by assumption) (hL.trans (fTL_end (by omega))) (by omega)]; simp [awrap, *]; rw [Bool.eq_iff_iff, beq_iff_eq, decide_eq_true_eq]; omega)) (by simp [awrap]) (by simp [awrap]) ?_ ?_
 refine Eq.trans (b := [.box [.own 1 0 (rset m (t.n) c).length, .own 2 0 (rset m (t.n) c).length], .arr 1 (((rset m (t.n) c).map Prod.fst).map (AVal.int .i64)) 0, .arr 5 (((rset m (t.n) c).map Prod.snd).map Ty.enc) 0]) (by kernel_rfl) ?_
 rotate_left
 · simp [AObj.belO, hpB, Ty.v, -List.map_map]
 iterate 3 kernel_rfl
 refine qf (beq_eq_false_iff_ne.2 hb1) ?_ ?_
 refine qK ?_ ?_
 refine qz [(2, .ptr 0 0), (3, .ptr 3 0), (4, .ptr 4 0)] ?_ ?_
 refine qSeq ?_ ?_
 refine qV 6 ?_ ?_
 by_cases hb2 : (t.kind) = (c.kind)
 refine qm [22, 23] (x := ((t.kind) != (c.kind))) (bne_eq_false_iff_eq.2 hb2) ?_ ?_
 refine qR 6 [(2, .ptr 0 0), (3, .ptr 3 0), (4, .ptr 4 0), (29, .bool (!(t.name == c.name)))] [.box [.own 1 0 m.length, .own 2 0 m.length], .arr 1 ((m.map Prod.fst).map (AVal.int .i64)) 0, .arr 5 ((m.map Prod.snd).map Ty.enc) 0, t.bx, c.bx] ?_ ?_
 by_cases hb3 : t.name = c.name
 refine qf (x := (!(t.name == c.name))) (congrArg not (beq_iff_eq.2 hb3)) ?_ ?_
 refine qK ?_ ?_
 refine qz [(2, .ptr 0 0), (3, .ptr 3 0), (4, .ptr 4 0)] ?_ ?_
 refine qSeq ?_ ?_
 refine qU 3 [(2, .ptr 0 0), (3, .ptr 3 0), (4, .ptr 4 0), (32, .bool ((t.kind) == 4))] ?_ ?_
 by_cases hb4 : (t.kind) = 4
 refine qt (beq_iff_eq.2 hb4) ?_ ?_
 refine qSeq ?_ ?_
 refine wDrw cxM (by kernel_rfl) extThen (dstart ?_)
 refine qu 2 ?_ ?_
 refine qd ((o_ixmap (k := .i64) (l := t.kids) (enc := Ty.enc) (i := 0) Ty.zero (by kernel_rfl) ty23 ty25 ty_size (by first | omega | assumption | exact sz_kid t _ (by omega) | exact kid_Z hsc _ | exact ⟨gd_at hg _ (by omega), gnL_at (gn_kids hgn) _⟩ | exact ⟨gdL_at' (gd_kids hgc) _, gnL_at (gn_kids hgcn) _⟩ | (have := hsl (by omega); omega) | (have := sz_kid t 0 (by omega); omega) | exact ((gd_ok hgc).2 (by omega)).1 | exact Nat.lt_of_le_of_lt (woT_sz ((gd_ok hgc).2 (by omega)).1 _) hsc) (by first | omega | assumption | exact sz_kid t _ (by omega) | exact kid_Z hsc _ | exact ⟨gd_at hg _ (by omega), gnL_at (gn_kids hgn) _⟩ | exact ⟨gdL_at' (gd_kids hgc) _, gnL_at (gn_kids hgcn) _⟩ | (have := hsl (by omega); omega) | (have := sz_kid t 0 (by omega); omega) | exact ((gd_ok hgc).2 (by omega)).1 | exact Nat.lt_of_le_of_lt (woT_sz ((gd_ok hgc).2 (by omega)).1 _) hsc)).trans (congrArg (fun cs => some (AVal.pimm cs 0, _)) (ty_cells (t.kids.getD 0 Ty.zero)))) ?_ ?_ ?_ ?_
 refine qu 3 ?_ ?_
 refine qd ((o_ixmap (k := .i64) (l := c.kids) (enc := Ty.enc) (i := 0) Ty.zero (by kernel_rfl) ty23 ty25 ty_size (by first | omega | assumption | exact sz_kid t _ (by omega) | exact kid_Z hsc _ | exact ⟨gd_at hg _ (by omega), gnL_at (gn_kids hgn) _⟩ | exact ⟨gdL_at' (gd_kids hgc) _, gnL_at (gn_kids hgcn) _⟩ | (have := hsl (by omega); omega) | (have := sz_kid t 0 (by omega); omega) | exact ((gd_ok hgc).2 (by omega)).1 | exact Nat.lt_of_le_of_lt (woT_sz ((gd_ok hgc).2 (by omega)).1 _) hsc) (by first | omega | assumption | exact sz_kid t _ (by omega) | exact kid_Z hsc _ | exact ⟨gd_at hg _ (by omega), gnL_at (gn_kids hgn) _⟩ | exact ⟨gdL_at' (gd_kids hgc) _, gnL_at (gn_kids hgcn) _⟩ | (have := hsl (by omega); omega) | (have := sz_kid t 0 (by omega); omega) | exact ((gd_ok hgc).2 (by omega)).1 | exact Nat.lt_of_le_of_lt (woT_sz ((gd_ok hgc).2 (by omega)).1 _) hsc)).trans (congrArg (fun cs => some (AVal.pimm cs 0, _)) (ty_cells (c.kids.getD 0 Ty.zero)))) ?_ ?_ ?_ ?_
 refine qu 2 ?_ ?_
 refine dcallA (args := [.agg [.int .i64 ((t.kids.getD 0 Ty.zero).kind), .str (t.kids.getD 0 Ty.zero).name, .int .i64 ((t.kids.getD 0 Ty.zero).n), .imm ((t.kids.getD 0 Ty.zero).names.map AVal.str), .imm ((t.kids.getD 0 Ty.zero).kids.map Ty.enc)], .agg [.int .i64 ((c.kids.getD 0 Ty.zero).kind), .str (c.kids.getD 0 Ty.zero).name, .int .i64 ((c.kids.getD 0 Ty.zero).n), .imm ((c.kids.getD 0 Ty.zero).names.map AVal.str), .imm ((c.kids.getD 0 Ty.zero).kids.map Ty.enc)], .ptr 0 0]) (hs := [.box [.own 1 0 m.length, .own 2 0 m.length], .arr 1 ((m.map Prod.fst).map (AVal.int .i64)) 0, .arr 5 ((m.map Prod.snd).map Ty.enc) 0]) (hs' := [.box [.own 1 0 (fT (t.kids.getD 0 Ty.zero) (c.kids.getD 0 Ty.zero) m).2.length, .own 2 0 (fT (t.kids.getD 0 Ty.zero) (c.kids.getD 0 Ty.zero) m).2.length], .arr 1 (((fT (t.kids.getD 0 Ty.zero) (c.kids.getD 0 Ty.zero) m).2.map Prod.fst).map (AVal.int .i64)) 0, .arr 5 (((fT (t.kids.getD 0 Ty.zero) (c.kids.getD 0 Ty.zero) m).2.map Prod.snd).map Ty.enc) 0]) (rest := [.box [.int .i64 (t.kind), .str t.name, .int .i64 (t.n), .imm (t.names.map AVal.str), .imm (t.kids.map Ty.enc)], .box [.int .i64 (c.kind), .str c.name, .int .i64 (c.n), .imm (c.names.map AVal.str), .imm (c.kids.map Ty.enc)]]) (L := [0, 1, 2]) (by kernel_rfl) (by kernel_rfl) (by kernel_rfl) (by kernel_rfl) (by kernel_rfl) (by kernel_rfl) (ihF (t.kids.getD 0 Ty.zero) (c.kids.getD 0 Ty.zero) m (by first | omega | assumption | exact sz_kid t _ (by omega) | exact kid_Z hsc _ | exact ⟨gd_at hg _ (by omega), gnL_at (gn_kids hgn) _⟩ | exact ⟨gdL_at' (gd_kids hgc) _, gnL_at (gn_kids hgcn) _⟩ | (have := hsl (by omega); omega) | (have := sz_kid t 0 (by omega); omega) | exact ((gd_ok hgc).2 (by omega)).1 | exact Nat.lt_of_le_of_lt (woT_sz ((gd_ok hgc).2 (by omega)).1 _) hsc) (by first | omega | assumption | exact sz_kid t _ (by omega) | exact kid_Z hsc _ | exact ⟨gd_at hg _ (by omega), gnL_at (gn_kids hgn) _⟩ | exact ⟨gdL_at' (gd_kids hgc) _, gnL_at (gn_kids hgcn) _⟩ | (have := hsl (by omega); omega) | (have := sz_kid t 0 (by omega); omega) | exact ((gd_ok hgc).2 (by omega)).1 | exact Nat.lt_of_le_of_lt (woT_sz ((gd_ok hgc).2 (by omega)).1 _) hsc) (by first | omega | assumption | exact sz_kid t _ (by omega) | exact kid_Z hsc _ | exact ⟨gd_at hg _ (by omega), gnL_at (gn_kids hgn) _⟩ | exact ⟨gdL_at' (gd_kids hgc) _, gnL_at (gn_kids hgcn) _⟩ | (have := hsl (by omega); omega) | (have := sz_kid t 0 (by omega); omega) | exact ((gd_ok hgc).2 (by omega)).1 | exact Nat.lt_of_le_of_lt (woT_sz ((gd_ok hgc).2 (by omega)).1 _) hsc) (by first | omega | assumption | exact sz_kid t _ (by omega) | exact kid_Z hsc _ | exact ⟨gd_at hg _ (by omega), gnL_at (gn_kids hgn) _⟩ | exact ⟨gdL_at' (gd_kids hgc) _, gnL_at (gn_kids hgcn) _⟩ | (have := hsl (by omega); omega) | (have := sz_kid t 0 (by omega); omega) | exact ((gd_ok hgc).2 (by omega)).1 | exact Nat.lt_of_le_of_lt (woT_sz ((gd_ok hgc).2 (by omega)).1 _) hsc) (by first | omega | assumption | exact sz_kid t _ (by omega) | exact kid_Z hsc _ | exact ⟨gd_at hg _ (by omega), gnL_at (gn_kids hgn) _⟩ | exact ⟨gdL_at' (gd_kids hgc) _, gnL_at (gn_kids hgcn) _⟩ | (have := hsl (by omega); omega) | (have := sz_kid t 0 (by omega); omega) | exact ((gd_ok hgc).2 (by omega)).1 | exact Nat.lt_of_le_of_lt (woT_sz ((gd_ok hgc).2 (by omega)).1 _) hsc) (by first | exact hm | exact hq)) (by simp [AObj.belO, hpB, Ty.v, -List.map_map]) (by simp [AObj.belO, hpB, Ty.v, -List.map_map]) rfl (by simp [AObj.belO, hpB, Ty.v, -List.map_map]) (by simp [AObj.belO, hpB, Ty.v, -List.map_map]) (by kernel_rfl) rfl rfl ?_
 refine qu 1 ?_ ?_
 refine dend (by kernel_rfl) ⟨(by kernel_rfl), ?_⟩
 refine AThen_normal ?_
 refine qZ [(6, .bool ((fT (t.kids.getD 0 Ty.zero) (c.kids.getD 0 Ty.zero) m).1))] [.box [.own 1 0 (fT (t.kids.getD 0 Ty.zero) (c.kids.getD 0 Ty.zero) m).2.length, .own 2 0 (fT (t.kids.getD 0 Ty.zero) (c.kids.getD 0 Ty.zero) m).2.length], .arr 1 (((fT (t.kids.getD 0 Ty.zero) (c.kids.getD 0 Ty.zero) m).2.map Prod.fst).map (AVal.int .i64)) 0, .arr 5 (((fT (t.kids.getD 0 Ty.zero) (c.kids.getD 0 Ty.zero) m).2.map Prod.snd).map Ty.enc) 0, t.bx, c.bx] ?_ ?_
 refine wRet (by kernel_rfl) ?_
 apply aR
 refine leafA (l := [.bool ((fT (t.kids.getD 0 Ty.zero) (c.kids.getD 0 Ty.zero) m).1)]) (.inr rfl) (by kernel_rfl) (by first | exact congrArg AVal.bool (congrArg Prod.fst (fT_6 (by assumption))).symm | exact congrArg AVal.bool (congrArg Prod.fst (fT_ne (by assumption) (.inl (by assumption)))).symm | exact congrArg AVal.bool (congrArg Prod.fst (fT_ne (by assumption) (.inr (by assumption)))).symm | exact congrArg AVal.bool (congrArg Prod.fst (fT_4 (by assumption) (ne_ok (by assumption) (by assumption)) (by omega))).symm | exact congrArg AVal.bool (congrArg Prod.fst (fT_a (by assumption) (ne_ok (by assumption) (by assumption)) (by assumption) (hL.trans ((fTL_step (by omega) hnk).trans (if_pos (by assumption)))))).symm | exact congrArg AVal.bool (congrArg Prod.fst (fT_a (by assumption) (ne_ok (by assumption) (by assumption)) (by assumption) (hL.trans ((fTL_step (by omega) hnk).trans ((if_neg (by assumption)).trans (if_neg (by assumption))))))).symm | exact congrArg AVal.bool (congrArg Prod.fst (fT_b (by assumption) (ne_ok (by assumption) (by assumption)) (by assumption) (hL.trans (fTL_end (by omega))) (by assumption) (by assumption))).symm | (rw [fT_c (by assumption) (ne_ok (by assumption) (by assumption)) (by assumption) (hL.trans (fTL_end (by omega))) (by omega)]; simp [awrap, *]; done) | (rw [fT_c (by assumption) (ne_ok (by assumption) (by assumption)) (by assumption) (hL.trans (fTL_end (by omega))) (by omega)]; simp [awrap, *]; rw [Bool.eq_iff_iff, beq_iff_eq, decide_eq_true_eq]; omega)) (by simp [awrap]) (by simp [awrap]) ?_ ?_
 refine Eq.trans (b := [.box [.own 1 0 (fT (t.kids.getD 0 Ty.zero) (c.kids.getD 0 Ty.zero) m).2.length, .own 2 0 (fT (t.kids.getD 0 Ty.zero) (c.kids.getD 0 Ty.zero) m).2.length], .arr 1 (((fT (t.kids.getD 0 Ty.zero) (c.kids.getD 0 Ty.zero) m).2.map Prod.fst).map (AVal.int .i64)) 0, .arr 5 (((fT (t.kids.getD 0 Ty.zero) (c.kids.getD 0 Ty.zero) m).2.map Prod.snd).map Ty.enc) 0]) (by kernel_rfl) ?_
 rotate_left
 · simp [AObj.belO, hpB, Ty.v, -List.map_map]
 iterate 13 kernel_rfl
 refine qf (beq_eq_false_iff_ne.2 hb4) ?_ ?_
 refine qK ?_ ?_
 refine qz [(2, .ptr 0 0), (3, .ptr 3 0), (4, .ptr 4 0)] ?_ ?_
 refine qSeq ?_ ?_
 refine qU 1 [(2, .ptr 0 0), (3, .ptr 3 0), (4, .ptr 4 0), (7, .int .i64 0)] ?_ ?_
 refine qB 0 ?_ ?_ ?_
 refine wLoop (σ := (Nat × Bd)) (fun ⟨k, q⟩ => [(2, .ptr 0 0), (3, .ptr 3 0), (4, .ptr 4 0), (7, .int .i64 ((k : Nat) : Int))]) (fun ⟨k, q⟩ => [.box [.own 1 0 q.length, .own 2 0 q.length], .arr 1 ((q.map Prod.fst).map (AVal.int .i64)) 0, .arr 5 ((q.map Prod.snd).map Ty.enc) 0, .box [.int .i64 (t.kind), .str t.name, .int .i64 (t.n), .imm (t.names.map AVal.str), .imm (t.kids.map Ty.enc)], .box [.int .i64 (c.kind), .str c.name, .int .i64 (c.n), .imm (c.names.map AVal.str), .imm (c.kids.map Ty.enc)]]) (fun ⟨k, q⟩ => k ≤ t.names.length ∧ fTL t.names t.kids c m = fTL (t.names.drop k) (t.kids.drop k) c q ∧ bdZ q ∧ q.length + Ty.szL (t.kids.drop k) ≤ m.length + Ty.szL t.kids) (fun ⟨k, q⟩ => t.names.length - k) (0, m) (by kernel_rfl) (by exact ⟨Nat.zero_le _, rfl, hm, Nat.le_refl _⟩) ⟨⟨(by kernel_rfl), (by kernel_rfl), (by kernel_rfl), (by kernel_rfl), trivial⟩, by simp [BelL, AVal.bel], by simp, (by kernel_rfl), by simp [AObj.belO, -List.map_map]⟩ ?_
 rintro ⟨k, q⟩ ⟨hk, hL, hq, hql⟩
 have hix := idxS_le c.names (t.names.getD k [])
 have hsl := fun h => szL_drop t.kids k h
 have hnk := nk_le hg hgn (by assumption)
 have hnc := nk_le hgc hgcn (by omega)
 refine qZ [(2, .ptr 0 0), (3, .ptr 3 0), (4, .ptr 4 0), (7, nI k)] [.box [.own 1 0 q.length, .own 2 0 q.length], .arr 1 ((q.map Prod.fst).map (AVal.int .i64)) 0, .arr 5 ((q.map Prod.snd).map Ty.enc) 0, t.bx, c.bx] ?_ ?_
 refine qSeq ?_ ?_
 refine qV 3 ?_ ?_
 refine qy (o_lenmap (l := t.names) (enc := AVal.str) (by kernel_rfl) ty22) ?_ ?_ ?_
 refine qR 1 [(2, .ptr 0 0), (3, .ptr 3 0), (4, .ptr 4 0), (7, nI k), (47, .bool (decide (((k : Nat) : Int) < ((t.names.length : Nat) : Int))))] [.box [.own 1 0 q.length, .own 2 0 q.length], .arr 1 ((q.map Prod.fst).map (AVal.int .i64)) 0, .arr 5 ((q.map Prod.snd).map Ty.enc) 0, t.bx, c.bx] ?_ ?_
 by_cases hb5 : ((k : Nat) : Int) < ((t.names.length : Nat) : Int)
 refine qt (decide_eq_true hb5) ?_ ?_
 refine qK ?_ ?_
 refine qz [(2, .ptr 0 0), (3, .ptr 3 0), (4, .ptr 4 0), (7, nI k)] ?_ ?_
 refine qSeq ?_ ?_
 refine qB 1 ?_ ?_ ?_
 refine qSeq ?_ ?_
 refine wDrw cxM (by kernel_rfl) extThen (dstart ?_)
 refine qu 5 ?_ ?_
 refine qd (o_ixmap (k := .i64) (l := t.names) (enc := AVal.str) (i := ((k : Nat) : Int)) [] (by kernel_rfl) ty22 ty9 (fun _ => rfl) (by first | omega | assumption | exact sz_kid t _ (by omega) | exact kid_Z hsc _ | exact ⟨gd_at hg _ (by omega), gnL_at (gn_kids hgn) _⟩ | exact ⟨gdL_at' (gd_kids hgc) _, gnL_at (gn_kids hgcn) _⟩ | (have := hsl (by omega); omega) | (have := sz_kid t 0 (by omega); omega) | exact ((gd_ok hgc).2 (by omega)).1 | exact Nat.lt_of_le_of_lt (woT_sz ((gd_ok hgc).2 (by omega)).1 _) hsc) (by first | omega | assumption | exact sz_kid t _ (by omega) | exact kid_Z hsc _ | exact ⟨gd_at hg _ (by omega), gnL_at (gn_kids hgn) _⟩ | exact ⟨gdL_at' (gd_kids hgc) _, gnL_at (gn_kids hgcn) _⟩ | (have := hsl (by omega); omega) | (have := sz_kid t 0 (by omega); omega) | exact ((gd_ok hgc).2 (by omega)).1 | exact Nat.lt_of_le_of_lt (woT_sz ((gd_ok hgc).2 (by omega)).1 _) hsc)) ?_ ?_ ?_ ?_
 refine qu 1 ?_ ?_
 refine dcallP (args := [.imm (c.names.map AVal.str), .str (t.names.getD k [])]) (by kernel_rfl) (by kernel_rfl) (by kernel_rfl) (by kernel_rfl) (by kernel_rfl) (rindex_spec c.names (t.names.getD k []) (by first | omega | assumption | exact sz_kid t _ (by omega) | exact kid_Z hsc _ | exact ⟨gd_at hg _ (by omega), gnL_at (gn_kids hgn) _⟩ | exact ⟨gdL_at' (gd_kids hgc) _, gnL_at (gn_kids hgcn) _⟩ | (have := hsl (by omega); omega) | (have := sz_kid t 0 (by omega); omega) | exact ((gd_ok hgc).2 (by omega)).1 | exact Nat.lt_of_le_of_lt (woT_sz ((gd_ok hgc).2 (by omega)).1 _) hsc)) (by intro _; simp [Ty.v, frzL_app, Occ.v]) (by simp [Ty.v]) (by simp [Ty.v, ownsL_app]) ?_
 refine qu 1 ?_ ?_
 refine dend (by kernel_rfl) ⟨(by kernel_rfl), ?_⟩
 refine AThen_normal ?_
 refine qZ [(2, .ptr 0 0), (3, .ptr 3 0), (4, .ptr 4 0), (7, nI k), (8, .int .i64 (idxS c.names (t.names.getD k [])))] [.box [.own 1 0 q.length, .own 2 0 q.length], .arr 1 ((q.map Prod.fst).map (AVal.int .i64)) 0, .arr 5 ((q.map Prod.snd).map Ty.enc) 0, t.bx, c.bx] ?_ ?_
 refine qSeq ?_ ?_
 refine qU 2 [(2, .ptr 0 0), (3, .ptr 3 0), (4, .ptr 4 0), (7, nI k), (8, .int .i64 (idxS c.names (t.names.getD k []))), (59, .bool (decide ((idxS c.names (t.names.getD k [])) < 0)))] ?_ ?_
 by_cases hb6 : (idxS c.names (t.names.getD k [])) < 0
 refine qt (decide_eq_true hb6) ?_ ?_
 refine qU 1 [(6, .bool false)] ?_ ?_
 refine wRet (by kernel_rfl) ?_
 apply aR
 apply iR
 apply aR
 apply aR
 apply iR
 apply aR
 refine leafA (l := [.bool false]) (.inr rfl) (by kernel_rfl) (by first | exact congrArg AVal.bool (congrArg Prod.fst (fT_6 (by assumption))).symm | exact congrArg AVal.bool (congrArg Prod.fst (fT_ne (by assumption) (.inl (by assumption)))).symm | exact congrArg AVal.bool (congrArg Prod.fst (fT_ne (by assumption) (.inr (by assumption)))).symm | exact congrArg AVal.bool (congrArg Prod.fst (fT_4 (by assumption) (ne_ok (by assumption) (by assumption)) (by omega))).symm | exact congrArg AVal.bool (congrArg Prod.fst (fT_a (by assumption) (ne_ok (by assumption) (by assumption)) (by assumption) (hL.trans ((fTL_step (by omega) hnk).trans (if_pos (by assumption)))))).symm | exact congrArg AVal.bool (congrArg Prod.fst (fT_a (by assumption) (ne_ok (by assumption) (by assumption)) (by assumption) (hL.trans ((fTL_step (by omega) hnk).trans ((if_neg (by assumption)).trans (if_neg (by assumption))))))).symm | exact congrArg AVal.bool (congrArg Prod.fst (fT_b (by assumption) (ne_ok (by assumption) (by assumption)) (by assumption) (hL.trans (fTL_end (by omega))) (by assumption) (by assumption))).symm | (rw [fT_c (by assumption) (ne_ok (by assumption) (by assumption)) (by assumption) (hL.trans (fTL_end (by omega))) (by omega)]; simp [awrap, *]; done) | (rw [fT_c (by assumption) (ne_ok (by assumption) (by assumption)) (by assumption) (hL.trans (fTL_end (by omega))) (by omega)]; simp [awrap, *]; rw [Bool.eq_iff_iff, beq_iff_eq, decide_eq_true_eq]; omega)) (by simp [awrap]) (by simp [awrap]) ?_ ?_
 refine Eq.trans (b := [.box [.own 1 0 q.length, .own 2 0 q.length], .arr 1 ((q.map Prod.fst).map (AVal.int .i64)) 0, .arr 5 ((q.map Prod.snd).map Ty.enc) 0]) (by kernel_rfl) ?_
 rotate_left
 · simp [AObj.belO, hpB, Ty.v, -List.map_map]
 iterate 2 kernel_rfl
 refine qf (decide_eq_false hb6) ?_ ?_
 refine qK ?_ ?_
 refine qz [(2, .ptr 0 0), (3, .ptr 3 0), (4, .ptr 4 0), (7, nI k), (8, .int .i64 (idxS c.names (t.names.getD k [])))] ?_ ?_
 refine qSeq ?_ ?_
 refine wDrw cxM (by kernel_rfl) extThen (dstart ?_)
 refine qu 3 ?_ ?_
 refine qd ((o_ixmap (k := .i64) (l := t.kids) (enc := Ty.enc) (i := ((k : Nat) : Int)) Ty.zero (by kernel_rfl) ty23 ty25 ty_size (by first | omega | assumption | exact sz_kid t _ (by omega) | exact kid_Z hsc _ | exact ⟨gd_at hg _ (by omega), gnL_at (gn_kids hgn) _⟩ | exact ⟨gdL_at' (gd_kids hgc) _, gnL_at (gn_kids hgcn) _⟩ | (have := hsl (by omega); omega) | (have := sz_kid t 0 (by omega); omega) | exact ((gd_ok hgc).2 (by omega)).1 | exact Nat.lt_of_le_of_lt (woT_sz ((gd_ok hgc).2 (by omega)).1 _) hsc) (by first | omega | assumption | exact sz_kid t _ (by omega) | exact kid_Z hsc _ | exact ⟨gd_at hg _ (by omega), gnL_at (gn_kids hgn) _⟩ | exact ⟨gdL_at' (gd_kids hgc) _, gnL_at (gn_kids hgcn) _⟩ | (have := hsl (by omega); omega) | (have := sz_kid t 0 (by omega); omega) | exact ((gd_ok hgc).2 (by omega)).1 | exact Nat.lt_of_le_of_lt (woT_sz ((gd_ok hgc).2 (by omega)).1 _) hsc)).trans (congrArg (fun cs => some (AVal.pimm cs 0, _)) (ty_cells (t.kids.getD k Ty.zero)))) ?_ ?_ ?_ ?_
 refine qu 4 ?_ ?_
 refine qd ((o_ixmap (k := .i64) (l := c.kids) (enc := Ty.enc) (i := (idxS c.names (t.names.getD k []))) Ty.zero (by kernel_rfl) ty23 ty25 ty_size (by first | omega | assumption | exact sz_kid t _ (by omega) | exact kid_Z hsc _ | exact ⟨gd_at hg _ (by omega), gnL_at (gn_kids hgn) _⟩ | exact ⟨gdL_at' (gd_kids hgc) _, gnL_at (gn_kids hgcn) _⟩ | (have := hsl (by omega); omega) | (have := sz_kid t 0 (by omega); omega) | exact ((gd_ok hgc).2 (by omega)).1 | exact Nat.lt_of_le_of_lt (woT_sz ((gd_ok hgc).2 (by omega)).1 _) hsc) (by first | omega | assumption | exact sz_kid t _ (by omega) | exact kid_Z hsc _ | exact ⟨gd_at hg _ (by omega), gnL_at (gn_kids hgn) _⟩ | exact ⟨gdL_at' (gd_kids hgc) _, gnL_at (gn_kids hgcn) _⟩ | (have := hsl (by omega); omega) | (have := sz_kid t 0 (by omega); omega) | exact ((gd_ok hgc).2 (by omega)).1 | exact Nat.lt_of_le_of_lt (woT_sz ((gd_ok hgc).2 (by omega)).1 _) hsc)).trans (congrArg (fun cs => some (AVal.pimm cs 0, _)) (ty_cells (c.kids.getD (((idxS c.names (t.names.getD k []))).toNat) Ty.zero)))) ?_ ?_ ?_ ?_
 refine qu 2 ?_ ?_
 refine dcallA (args := [.agg [.int .i64 ((t.kids.getD k Ty.zero).kind), .str (t.kids.getD k Ty.zero).name, .int .i64 ((t.kids.getD k Ty.zero).n), .imm ((t.kids.getD k Ty.zero).names.map AVal.str), .imm ((t.kids.getD k Ty.zero).kids.map Ty.enc)], .agg [.int .i64 ((c.kids.getD (((idxS c.names (t.names.getD k []))).toNat) Ty.zero).kind), .str (c.kids.getD (((idxS c.names (t.names.getD k []))).toNat) Ty.zero).name, .int .i64 ((c.kids.getD (((idxS c.names (t.names.getD k []))).toNat) Ty.zero).n), .imm ((c.kids.getD (((idxS c.names (t.names.getD k []))).toNat) Ty.zero).names.map AVal.str), .imm ((c.kids.getD (((idxS c.names (t.names.getD k []))).toNat) Ty.zero).kids.map Ty.enc)], .ptr 0 0]) (hs := [.box [.own 1 0 q.length, .own 2 0 q.length], .arr 1 ((q.map Prod.fst).map (AVal.int .i64)) 0, .arr 5 ((q.map Prod.snd).map Ty.enc) 0]) (hs' := [.box [.own 1 0 (fT (t.kids.getD k Ty.zero) (c.kids.getD (((idxS c.names (t.names.getD k []))).toNat) Ty.zero) q).2.length, .own 2 0 (fT (t.kids.getD k Ty.zero) (c.kids.getD (((idxS c.names (t.names.getD k []))).toNat) Ty.zero) q).2.length], .arr 1 (((fT (t.kids.getD k Ty.zero) (c.kids.getD (((idxS c.names (t.names.getD k []))).toNat) Ty.zero) q).2.map Prod.fst).map (AVal.int .i64)) 0, .arr 5 (((fT (t.kids.getD k Ty.zero) (c.kids.getD (((idxS c.names (t.names.getD k []))).toNat) Ty.zero) q).2.map Prod.snd).map Ty.enc) 0]) (rest := [.box [.int .i64 (t.kind), .str t.name, .int .i64 (t.n), .imm (t.names.map AVal.str), .imm (t.kids.map Ty.enc)], .box [.int .i64 (c.kind), .str c.name, .int .i64 (c.n), .imm (c.names.map AVal.str), .imm (c.kids.map Ty.enc)]]) (L := [0, 1, 2]) (by kernel_rfl) (by kernel_rfl) (by kernel_rfl) (by kernel_rfl) (by kernel_rfl) (by kernel_rfl) (ihF (t.kids.getD k Ty.zero) (c.kids.getD (((idxS c.names (t.names.getD k []))).toNat) Ty.zero) q (by first | omega | assumption | exact sz_kid t _ (by omega) | exact kid_Z hsc _ | exact ⟨gd_at hg _ (by omega), gnL_at (gn_kids hgn) _⟩ | exact ⟨gdL_at' (gd_kids hgc) _, gnL_at (gn_kids hgcn) _⟩ | (have := hsl (by omega); omega) | (have := sz_kid t 0 (by omega); omega) | exact ((gd_ok hgc).2 (by omega)).1 | exact Nat.lt_of_le_of_lt (woT_sz ((gd_ok hgc).2 (by omega)).1 _) hsc) (by first | omega | assumption | exact sz_kid t _ (by omega) | exact kid_Z hsc _ | exact ⟨gd_at hg _ (by omega), gnL_at (gn_kids hgn) _⟩ | exact ⟨gdL_at' (gd_kids hgc) _, gnL_at (gn_kids hgcn) _⟩ | (have := hsl (by omega); omega) | (have := sz_kid t 0 (by omega); omega) | exact ((gd_ok hgc).2 (by omega)).1 | exact Nat.lt_of_le_of_lt (woT_sz ((gd_ok hgc).2 (by omega)).1 _) hsc) (by first | omega | assumption | exact sz_kid t _ (by omega) | exact kid_Z hsc _ | exact ⟨gd_at hg _ (by omega), gnL_at (gn_kids hgn) _⟩ | exact ⟨gdL_at' (gd_kids hgc) _, gnL_at (gn_kids hgcn) _⟩ | (have := hsl (by omega); omega) | (have := sz_kid t 0 (by omega); omega) | exact ((gd_ok hgc).2 (by omega)).1 | exact Nat.lt_of_le_of_lt (woT_sz ((gd_ok hgc).2 (by omega)).1 _) hsc) (by first | omega | assumption | exact sz_kid t _ (by omega) | exact kid_Z hsc _ | exact ⟨gd_at hg _ (by omega), gnL_at (gn_kids hgn) _⟩ | exact ⟨gdL_at' (gd_kids hgc) _, gnL_at (gn_kids hgcn) _⟩ | (have := hsl (by omega); omega) | (have := sz_kid t 0 (by omega); omega) | exact ((gd_ok hgc).2 (by omega)).1 | exact Nat.lt_of_le_of_lt (woT_sz ((gd_ok hgc).2 (by omega)).1 _) hsc) (by first | omega | assumption | exact sz_kid t _ (by omega) | exact kid_Z hsc _ | exact ⟨gd_at hg _ (by omega), gnL_at (gn_kids hgn) _⟩ | exact ⟨gdL_at' (gd_kids hgc) _, gnL_at (gn_kids hgcn) _⟩ | (have := hsl (by omega); omega) | (have := sz_kid t 0 (by omega); omega) | exact ((gd_ok hgc).2 (by omega)).1 | exact Nat.lt_of_le_of_lt (woT_sz ((gd_ok hgc).2 (by omega)).1 _) hsc) (by first | exact hm | exact hq)) (by simp [AObj.belO, hpB, Ty.v, -List.map_map]) (by simp [AObj.belO, hpB, Ty.v, -List.map_map]) rfl (by simp [AObj.belO, hpB, Ty.v, -List.map_map]) (by simp [AObj.belO, hpB, Ty.v, -List.map_map]) (by kernel_rfl) rfl rfl ?_
 refine qu 1 ?_ ?_
 refine dend (by kernel_rfl) ⟨(by kernel_rfl), ?_⟩
 refine AThen_normal ?_
 refine qZ [(2, .ptr 0 0), (3, .ptr 3 0), (4, .ptr 4 0), (7, nI k), (9, .bool ((fT (t.kids.getD k Ty.zero) (c.kids.getD (((idxS c.names (t.names.getD k []))).toNat) Ty.zero) q).1))] [.box [.own 1 0 (fT (t.kids.getD k Ty.zero) (c.kids.getD (((idxS c.names (t.names.getD k []))).toNat) Ty.zero) q).2.length, .own 2 0 (fT (t.kids.getD k Ty.zero) (c.kids.getD (((idxS c.names (t.names.getD k []))).toNat) Ty.zero) q).2.length], .arr 1 (((fT (t.kids.getD k Ty.zero) (c.kids.getD (((idxS c.names (t.names.getD k []))).toNat) Ty.zero) q).2.map Prod.fst).map (AVal.int .i64)) 0, .arr 5 (((fT (t.kids.getD k Ty.zero) (c.kids.getD (((idxS c.names (t.names.getD k []))).toNat) Ty.zero) q).2.map Prod.snd).map Ty.enc) 0, t.bx, c.bx] ?_ ?_
 refine qU 2 [(2, .ptr 0 0), (3, .ptr 3 0), (4, .ptr 4 0), (7, nI k), (73, .bool (!((fT (t.kids.getD k Ty.zero) (c.kids.getD (((idxS c.names (t.names.getD k []))).toNat) Ty.zero) q).1)))] ?_ ?_
 by_cases hb7 : ((fT (t.kids.getD k Ty.zero) (c.kids.getD (((idxS c.names (t.names.getD k []))).toNat) Ty.zero) q).1) = true
 refine qf (x := (!((fT (t.kids.getD k Ty.zero) (c.kids.getD (((idxS c.names (t.names.getD k []))).toNat) Ty.zero) q).1))) (congrArg not (hb7)) ?_ ?_
 refine qk ?_ ?_
 refine AIn_normal ?_
 refine AThen_normal ?_
 refine qz [(2, .ptr 0 0), (3, .ptr 3 0), (4, .ptr 4 0), (7, nI k)] ?_ ?_
 refine qo ?_ ?_
 refine qr 1 ?_ ?_
 refine qy (o_add (a := ((k : Nat) : Int)) (b := 1) (by kernel_rfl) (by first | omega | assumption | exact sz_kid t _ (by omega) | exact kid_Z hsc _ | exact ⟨gd_at hg _ (by omega), gnL_at (gn_kids hgn) _⟩ | exact ⟨gdL_at' (gd_kids hgc) _, gnL_at (gn_kids hgcn) _⟩ | (have := hsl (by omega); omega) | (have := sz_kid t 0 (by omega); omega) | exact ((gd_ok hgc).2 (by omega)).1 | exact Nat.lt_of_le_of_lt (woT_sz ((gd_ok hgc).2 (by omega)).1 _) hsc) (by first | omega | assumption | exact sz_kid t _ (by omega) | exact kid_Z hsc _ | exact ⟨gd_at hg _ (by omega), gnL_at (gn_kids hgn) _⟩ | exact ⟨gdL_at' (gd_kids hgc) _, gnL_at (gn_kids hgcn) _⟩ | (have := hsl (by omega); omega) | (have := sz_kid t 0 (by omega); omega) | exact ((gd_ok hgc).2 (by omega)).1 | exact Nat.lt_of_le_of_lt (woT_sz ((gd_ok hgc).2 (by omega)).1 _) hsc)) ?_ ?_ ?_
 refine qr 1 ?_ ?_
 refine qe ?_ ?_
 refine AThen_normal ⟨(k + 1, (fT (t.kids.getD k Ty.zero) (c.kids.getD (idxS c.names (t.names.getD k [])).toNat Ty.zero) q).2), ?_, ?_, ⟨⟨(by kernel_rfl), (by kernel_rfl), (by kernel_rfl), (by kernel_rfl), trivial⟩, by simp [BelL, AVal.bel], by simp, (by kernel_rfl), by simp [AObj.belO, -List.map_map]⟩⟩
 · try dsimp only
   omega
 · try dsimp only
   have hZ := fT_Z (t.kids.getD k Ty.zero) (c.kids.getD (idxS c.names (t.names.getD k [])).toNat Ty.zero) q (gdL_at' (gd_kids hgc) _) (kid_Z hsc _) hq
   have hsl2 := hsl (by omega)
   refine ⟨by omega, ?_, hZ.1, by omega⟩
   rw [hL, fTL_step (by omega) hnk, if_neg (by assumption), if_pos (by assumption)]
 iterate 9 kernel_rfl
 refine qt (x := (!((fT (t.kids.getD k Ty.zero) (c.kids.getD (((idxS c.names (t.names.getD k []))).toNat) Ty.zero) q).1))) (congrArg not (Bool.eq_false_iff.2 hb7)) ?_ ?_
 refine qU 1 [(6, .bool false)] ?_ ?_
 refine wRet (by kernel_rfl) ?_
 apply iR
 apply aR
 apply aR
 apply iR
 apply aR
 refine leafA (l := [.bool false]) (.inr rfl) (by kernel_rfl) (by first | exact congrArg AVal.bool (congrArg Prod.fst (fT_6 (by assumption))).symm | exact congrArg AVal.bool (congrArg Prod.fst (fT_ne (by assumption) (.inl (by assumption)))).symm | exact congrArg AVal.bool (congrArg Prod.fst (fT_ne (by assumption) (.inr (by assumption)))).symm | exact congrArg AVal.bool (congrArg Prod.fst (fT_4 (by assumption) (ne_ok (by assumption) (by assumption)) (by omega))).symm | exact congrArg AVal.bool (congrArg Prod.fst (fT_a (by assumption) (ne_ok (by assumption) (by assumption)) (by assumption) (hL.trans ((fTL_step (by omega) hnk).trans (if_pos (by assumption)))))).symm | exact congrArg AVal.bool (congrArg Prod.fst (fT_a (by assumption) (ne_ok (by assumption) (by assumption)) (by assumption) (hL.trans ((fTL_step (by omega) hnk).trans ((if_neg (by assumption)).trans (if_neg (by assumption))))))).symm | exact congrArg AVal.bool (congrArg Prod.fst (fT_b (by assumption) (ne_ok (by assumption) (by assumption)) (by assumption) (hL.trans (fTL_end (by omega))) (by assumption) (by assumption))).symm | (rw [fT_c (by assumption) (ne_ok (by assumption) (by assumption)) (by assumption) (hL.trans (fTL_end (by omega))) (by omega)]; simp [awrap, *]; done) | (rw [fT_c (by assumption) (ne_ok (by assumption) (by assumption)) (by assumption) (hL.trans (fTL_end (by omega))) (by omega)]; simp [awrap, *]; rw [Bool.eq_iff_iff, beq_iff_eq, decide_eq_true_eq]; omega)) (by simp [awrap]) (by simp [awrap]) ?_ ?_
 refine Eq.trans (b := [.box [.own 1 0 (fT (t.kids.getD k Ty.zero) (c.kids.getD (((idxS c.names (t.names.getD k []))).toNat) Ty.zero) q).2.length, .own 2 0 (fT (t.kids.getD k Ty.zero) (c.kids.getD (((idxS c.names (t.names.getD k []))).toNat) Ty.zero) q).2.length], .arr 1 (((fT (t.kids.getD k Ty.zero) (c.kids.getD (((idxS c.names (t.names.getD k []))).toNat) Ty.zero) q).2.map Prod.fst).map (AVal.int .i64)) 0, .arr 5 (((fT (t.kids.getD k Ty.zero) (c.kids.getD (((idxS c.names (t.names.getD k []))).toNat) Ty.zero) q).2.map Prod.snd).map Ty.enc) 0]) (by kernel_rfl) ?_
 rotate_left
 · simp [AObj.belO, hpB, Ty.v, -List.map_map]
 iterate 34 kernel_rfl
 refine qf (decide_eq_false hb5) ?_ ?_
 refine wExit 0 (by kernel_rfl) (by kernel_rfl) ?_
 refine AThen_exit ?_
 refine AThen_exit ?_
 refine AIn_exit ?_
 refine AThen_normal ?_
 refine qz [(2, .ptr 0 0), (3, .ptr 3 0), (4, .ptr 4 0)] ?_ ?_
 refine qSeq ?_ ?_
 refine qV 4 ?_ ?_
 by_cases hb8 : (t.kind) = 5
 refine qm [76, 77] (beq_iff_eq.2 hb8) ?_ ?_
 refine qR 4 [(2, .ptr 0 0), (3, .ptr 3 0), (4, .ptr 4 0), (81, .bool ((t.n) != 0))] [.box [.own 1 0 q.length, .own 2 0 q.length], .arr 1 ((q.map Prod.fst).map (AVal.int .i64)) 0, .arr 5 ((q.map Prod.snd).map Ty.enc) 0, t.bx, c.bx] ?_ ?_
 by_cases hb9 : (t.n) = 0
 refine qf (x := ((t.n) != 0)) (bne_eq_false_iff_eq.2 hb9) ?_ ?_
 refine qK ?_ ?_
 refine qz [(3, .ptr 3 0), (4, .ptr 4 0)] ?_ ?_
 refine qV 4 ?_ ?_
 by_cases hb10 : (c.n) = 0
 refine qm [91, 92] (beq_iff_eq.2 hb10) ?_ ?_
 refine qr 2 ?_ ?_
 refine qy (o_lenmap (l := t.names) (enc := AVal.str) (by kernel_rfl) ty22) ?_ ?_ ?_
 refine qr 2 ?_ ?_
 refine qy (o_lenmap (l := c.names) (enc := AVal.str) (by kernel_rfl) ty22) ?_ ?_ ?_
 refine qR 3 [(6, .bool (((t.names.length : Nat) : Int) == ((c.names.length : Nat) : Int)))] [.box [.own 1 0 q.length, .own 2 0 q.length], .arr 1 ((q.map Prod.fst).map (AVal.int .i64)) 0, .arr 5 ((q.map Prod.snd).map Ty.enc) 0, t.bx, c.bx] ?_ ?_
 refine wRet (by kernel_rfl) ?_
 refine leafA (l := [.bool (((t.names.length : Nat) : Int) == ((c.names.length : Nat) : Int))]) (.inr rfl) (by kernel_rfl) (by first | exact congrArg AVal.bool (congrArg Prod.fst (fT_6 (by assumption))).symm | exact congrArg AVal.bool (congrArg Prod.fst (fT_ne (by assumption) (.inl (by assumption)))).symm | exact congrArg AVal.bool (congrArg Prod.fst (fT_ne (by assumption) (.inr (by assumption)))).symm | exact congrArg AVal.bool (congrArg Prod.fst (fT_4 (by assumption) (ne_ok (by assumption) (by assumption)) (by omega))).symm | exact congrArg AVal.bool (congrArg Prod.fst (fT_a (by assumption) (ne_ok (by assumption) (by assumption)) (by assumption) (hL.trans ((fTL_step (by omega) hnk).trans (if_pos (by assumption)))))).symm | exact congrArg AVal.bool (congrArg Prod.fst (fT_a (by assumption) (ne_ok (by assumption) (by assumption)) (by assumption) (hL.trans ((fTL_step (by omega) hnk).trans ((if_neg (by assumption)).trans (if_neg (by assumption))))))).symm | exact congrArg AVal.bool (congrArg Prod.fst (fT_b (by assumption) (ne_ok (by assumption) (by assumption)) (by assumption) (hL.trans (fTL_end (by omega))) (by assumption) (by assumption))).symm | (rw [fT_c (by assumption) (ne_ok (by assumption) (by assumption)) (by assumption) (hL.trans (fTL_end (by omega))) (by omega)]; simp [awrap, *]; done) | (rw [fT_c (by assumption) (ne_ok (by assumption) (by assumption)) (by assumption) (hL.trans (fTL_end (by omega))) (by omega)]; simp [awrap, *]; rw [Bool.eq_iff_iff, beq_iff_eq, decide_eq_true_eq]; omega)) (by simp [awrap]) (by simp [awrap]) ?_ ?_
 refine Eq.trans (b := [.box [.own 1 0 q.length, .own 2 0 q.length], .arr 1 ((q.map Prod.fst).map (AVal.int .i64)) 0, .arr 5 ((q.map Prod.snd).map Ty.enc) 0]) (by kernel_rfl) ?_
 rotate_left
 · simp [AObj.belO, hpB, Ty.v, -List.map_map]
 iterate 8 kernel_rfl
 refine qm [91, 92] (beq_eq_false_iff_ne.2 hb10) ?_ ?_
 refine qR 9 [(6, .bool false)] [.box [.own 1 0 q.length, .own 2 0 q.length], .arr 1 ((q.map Prod.fst).map (AVal.int .i64)) 0, .arr 5 ((q.map Prod.snd).map Ty.enc) 0, t.bx, c.bx] ?_ ?_
 refine wRet (by kernel_rfl) ?_
 refine leafA (l := [.bool false]) (.inr rfl) (by kernel_rfl) (by first | exact congrArg AVal.bool (congrArg Prod.fst (fT_6 (by assumption))).symm | exact congrArg AVal.bool (congrArg Prod.fst (fT_ne (by assumption) (.inl (by assumption)))).symm | exact congrArg AVal.bool (congrArg Prod.fst (fT_ne (by assumption) (.inr (by assumption)))).symm | exact congrArg AVal.bool (congrArg Prod.fst (fT_4 (by assumption) (ne_ok (by assumption) (by assumption)) (by omega))).symm | exact congrArg AVal.bool (congrArg Prod.fst (fT_a (by assumption) (ne_ok (by assumption) (by assumption)) (by assumption) (hL.trans ((fTL_step (by omega) hnk).trans (if_pos (by assumption)))))).symm | exact congrArg AVal.bool (congrArg Prod.fst (fT_a (by assumption) (ne_ok (by assumption) (by assumption)) (by assumption) (hL.trans ((fTL_step (by omega) hnk).trans ((if_neg (by assumption)).trans (if_neg (by assumption))))))).symm | exact congrArg AVal.bool (congrArg Prod.fst (fT_b (by assumption) (ne_ok (by assumption) (by assumption)) (by assumption) (hL.trans (fTL_end (by omega))) (by assumption) (by assumption))).symm | (rw [fT_c (by assumption) (ne_ok (by assumption) (by assumption)) (by assumption) (hL.trans (fTL_end (by omega))) (by omega)]; simp [awrap, *]; done) | (rw [fT_c (by assumption) (ne_ok (by assumption) (by assumption)) (by assumption) (hL.trans (fTL_end (by omega))) (by omega)]; simp [awrap, *]; rw [Bool.eq_iff_iff, beq_iff_eq, decide_eq_true_eq]; omega)) (by simp [awrap]) (by simp [awrap]) ?_ ?_
 refine Eq.trans (b := [.box [.own 1 0 q.length, .own 2 0 q.length], .arr 1 ((q.map Prod.fst).map (AVal.int .i64)) 0, .arr 5 ((q.map Prod.snd).map Ty.enc) 0]) (by kernel_rfl) ?_
 rotate_left
 · simp [AObj.belO, hpB, Ty.v, -List.map_map]
 iterate 6 kernel_rfl
 refine qt (x := ((t.n) != 0)) (bne_iff_ne.2 hb9) ?_ ?_
 refine qSeq ?_ ?_
 refine wDrw cxM (by kernel_rfl) extThen (dstart ?_)
 refine qu 5 ?_ ?_
 refine dcallP (args := [.agg [.int .i64 (c.kind), .str c.name, .int .i64 (c.n), .imm (c.names.map AVal.str), .imm (c.kids.map Ty.enc)], .agg [.int .i64 (t.kind), .str t.name, .int .i64 (t.n), .imm (t.names.map AVal.str), .imm (t.kids.map Ty.enc)]]) (by kernel_rfl) (by kernel_rfl) (by kernel_rfl) (by kernel_rfl) (by kernel_rfl) (without_spec c t (by first | omega | assumption | exact sz_kid t _ (by omega) | exact kid_Z hsc _ | exact ⟨gd_at hg _ (by omega), gnL_at (gn_kids hgn) _⟩ | exact ⟨gdL_at' (gd_kids hgc) _, gnL_at (gn_kids hgcn) _⟩ | (have := hsl (by omega); omega) | (have := sz_kid t 0 (by omega); omega) | exact ((gd_ok hgc).2 (by omega)).1 | exact Nat.lt_of_le_of_lt (woT_sz ((gd_ok hgc).2 (by omega)).1 _) hsc) (by first | omega | assumption | exact sz_kid t _ (by omega) | exact kid_Z hsc _ | exact ⟨gd_at hg _ (by omega), gnL_at (gn_kids hgn) _⟩ | exact ⟨gdL_at' (gd_kids hgc) _, gnL_at (gn_kids hgcn) _⟩ | (have := hsl (by omega); omega) | (have := sz_kid t 0 (by omega); omega) | exact ((gd_ok hgc).2 (by omega)).1 | exact Nat.lt_of_le_of_lt (woT_sz ((gd_ok hgc).2 (by omega)).1 _) hsc) (by first | omega | assumption | exact sz_kid t _ (by omega) | exact kid_Z hsc _ | exact ⟨gd_at hg _ (by omega), gnL_at (gn_kids hgn) _⟩ | exact ⟨gdL_at' (gd_kids hgc) _, gnL_at (gn_kids hgcn) _⟩ | (have := hsl (by omega); omega) | (have := sz_kid t 0 (by omega); omega) | exact ((gd_ok hgc).2 (by omega)).1 | exact Nat.lt_of_le_of_lt (woT_sz ((gd_ok hgc).2 (by omega)).1 _) hsc)) (by intro _; simp [Ty.v, frzL_app, Occ.v]) (by simp [Ty.v]) (by simp [Ty.v, ownsL_app]) ?_
 refine dcallA (args := [.ptr 0 0, .int .i64 (t.n), Ty.v (woT c t c.names.length)]) (hs := [.box [.own 1 0 q.length, .own 2 0 q.length], .arr 1 ((q.map Prod.fst).map (AVal.int .i64)) 0, .arr 5 ((q.map Prod.snd).map Ty.enc) 0]) (hs' := [.box [.own 1 0 (rset q (t.n) (woT c t c.names.length)).length, .own 2 0 (rset q (t.n) (woT c t c.names.length)).length], .arr 1 (((rset q (t.n) (woT c t c.names.length)).map Prod.fst).map (AVal.int .i64)) 0, .arr 5 (((rset q (t.n) (woT c t c.names.length)).map Prod.snd).map Ty.enc) 0]) (rest := [.box [.int .i64 (t.kind), .str t.name, .int .i64 (t.n), .imm (t.names.map AVal.str), .imm (t.kids.map Ty.enc)], .box [.int .i64 (c.kind), .str c.name, .int .i64 (c.n), .imm (c.names.map AVal.str), .imm (c.kids.map Ty.enc)]]) (L := [0, 1, 2]) (by kernel_rfl) (by kernel_rfl) (by kernel_rfl) (by kernel_rfl) (by kernel_rfl) (by kernel_rfl) (rset_spec (t.n) (woT c t c.names.length) q (by first | omega | assumption | exact sz_kid t _ (by omega) | exact kid_Z hsc _ | exact ⟨gd_at hg _ (by omega), gnL_at (gn_kids hgn) _⟩ | exact ⟨gdL_at' (gd_kids hgc) _, gnL_at (gn_kids hgcn) _⟩ | (have := hsl (by omega); omega) | (have := sz_kid t 0 (by omega); omega) | exact ((gd_ok hgc).2 (by omega)).1 | exact Nat.lt_of_le_of_lt (woT_sz ((gd_ok hgc).2 (by omega)).1 _) hsc) (by first | exact ⟨by omega, hm⟩ | exact ⟨by omega, hq⟩)) (by simp [AObj.belO, hpB, Ty.v, -List.map_map]) (by simp [AObj.belO, hpB, Ty.v, -List.map_map]) rfl (by simp [AObj.belO, hpB, Ty.v, -List.map_map]) (by simp [AObj.belO, hpB, Ty.v, -List.map_map]) (by kernel_rfl) rfl rfl ?_
 refine qu 1 ?_ ?_
 refine dend (by kernel_rfl) ⟨(by kernel_rfl), ?_⟩
 refine AThen_normal ?_
 refine qZ [(6, .bool (bdOk q (t.n) (woT c t c.names.length)))] [.box [.own 1 0 (rset q (t.n) (woT c t c.names.length)).length, .own 2 0 (rset q (t.n) (woT c t c.names.length)).length], .arr 1 (((rset q (t.n) (woT c t c.names.length)).map Prod.fst).map (AVal.int .i64)) 0, .arr 5 (((rset q (t.n) (woT c t c.names.length)).map Prod.snd).map Ty.enc) 0, t.bx, c.bx] ?_ ?_
 refine wRet (by kernel_rfl) ?_
 apply aR
 refine leafA (l := [.bool (bdOk q (t.n) (woT c t c.names.length))]) (.inr rfl) (by kernel_rfl) (by first | exact congrArg AVal.bool (congrArg Prod.fst (fT_6 (by assumption))).symm | exact congrArg AVal.bool (congrArg Prod.fst (fT_ne (by assumption) (.inl (by assumption)))).symm | exact congrArg AVal.bool (congrArg Prod.fst (fT_ne (by assumption) (.inr (by assumption)))).symm | exact congrArg AVal.bool (congrArg Prod.fst (fT_4 (by assumption) (ne_ok (by assumption) (by assumption)) (by omega))).symm | exact congrArg AVal.bool (congrArg Prod.fst (fT_a (by assumption) (ne_ok (by assumption) (by assumption)) (by assumption) (hL.trans ((fTL_step (by omega) hnk).trans (if_pos (by assumption)))))).symm | exact congrArg AVal.bool (congrArg Prod.fst (fT_a (by assumption) (ne_ok (by assumption) (by assumption)) (by assumption) (hL.trans ((fTL_step (by omega) hnk).trans ((if_neg (by assumption)).trans (if_neg (by assumption))))))).symm | exact congrArg AVal.bool (congrArg Prod.fst (fT_b (by assumption) (ne_ok (by assumption) (by assumption)) (by assumption) (hL.trans (fTL_end (by omega))) (by assumption) (by assumption))).symm | (rw [fT_c (by assumption) (ne_ok (by assumption) (by assumption)) (by assumption) (hL.trans (fTL_end (by omega))) (by omega)]; simp [awrap, *]; done) | (rw [fT_c (by assumption) (ne_ok (by assumption) (by assumption)) (by assumption) (hL.trans (fTL_end (by omega))) (by omega)]; simp [awrap, *]; rw [Bool.eq_iff_iff, beq_iff_eq, decide_eq_true_eq]; omega)) (by simp [awrap]) (by simp [awrap]) ?_ ?_
 refine Eq.trans (b := [.box [.own 1 0 (rset q (t.n) (woT c t c.names.length)).length, .own 2 0 (rset q (t.n) (woT c t c.names.length)).length], .arr 1 (((rset q (t.n) (woT c t c.names.length)).map Prod.fst).map (AVal.int .i64)) 0, .arr 5 (((rset q (t.n) (woT c t c.names.length)).map Prod.snd).map Ty.enc) 0]) (by kernel_rfl) ?_
 rotate_left
 · simp [AObj.belO, hpB, Ty.v, -List.map_map]
 iterate 7 kernel_rfl
 refine qm [76, 77] (beq_eq_false_iff_ne.2 hb8) ?_ ?_
 refine qR 4 [(2, .ptr 0 0), (3, .ptr 3 0), (4, .ptr 4 0), (81, .bool false)] [.box [.own 1 0 q.length, .own 2 0 q.length], .arr 1 ((q.map Prod.fst).map (AVal.int .i64)) 0, .arr 5 ((q.map Prod.snd).map Ty.enc) 0, t.bx, c.bx] ?_ ?_
 refine wIfF (by kernel_rfl) (by kernel_rfl) ?_
 refine qK ?_ ?_
 refine qz [(3, .ptr 3 0), (4, .ptr 4 0)] ?_ ?_
 refine qV 4 ?_ ?_
 by_cases hb11 : (c.n) = 0
 refine qm [91, 92] (beq_iff_eq.2 hb11) ?_ ?_
 refine qr 2 ?_ ?_
 refine qy (o_lenmap (l := t.names) (enc := AVal.str) (by kernel_rfl) ty22) ?_ ?_ ?_
 refine qr 2 ?_ ?_
 refine qy (o_lenmap (l := c.names) (enc := AVal.str) (by kernel_rfl) ty22) ?_ ?_ ?_
 refine qR 3 [(6, .bool (((t.names.length : Nat) : Int) == ((c.names.length : Nat) : Int)))] [.box [.own 1 0 q.length, .own 2 0 q.length], .arr 1 ((q.map Prod.fst).map (AVal.int .i64)) 0, .arr 5 ((q.map Prod.snd).map Ty.enc) 0, t.bx, c.bx] ?_ ?_
 refine wRet (by kernel_rfl) ?_
 refine leafA (l := [.bool (((t.names.length : Nat) : Int) == ((c.names.length : Nat) : Int))]) (.inr rfl) (by kernel_rfl) (by first | exact congrArg AVal.bool (congrArg Prod.fst (fT_6 (by assumption))).symm | exact congrArg AVal.bool (congrArg Prod.fst (fT_ne (by assumption) (.inl (by assumption)))).symm | exact congrArg AVal.bool (congrArg Prod.fst (fT_ne (by assumption) (.inr (by assumption)))).symm | exact congrArg AVal.bool (congrArg Prod.fst (fT_4 (by assumption) (ne_ok (by assumption) (by assumption)) (by omega))).symm | exact congrArg AVal.bool (congrArg Prod.fst (fT_a (by assumption) (ne_ok (by assumption) (by assumption)) (by assumption) (hL.trans ((fTL_step (by omega) hnk).trans (if_pos (by assumption)))))).symm | exact congrArg AVal.bool (congrArg Prod.fst (fT_a (by assumption) (ne_ok (by assumption) (by assumption)) (by assumption) (hL.trans ((fTL_step (by omega) hnk).trans ((if_neg (by assumption)).trans (if_neg (by assumption))))))).symm | exact congrArg AVal.bool (congrArg Prod.fst (fT_b (by assumption) (ne_ok (by assumption) (by assumption)) (by assumption) (hL.trans (fTL_end (by omega))) (by assumption) (by assumption))).symm | (rw [fT_c (by assumption) (ne_ok (by assumption) (by assumption)) (by assumption) (hL.trans (fTL_end (by omega))) (by omega)]; simp [awrap, *]; done) | (rw [fT_c (by assumption) (ne_ok (by assumption) (by assumption)) (by assumption) (hL.trans (fTL_end (by omega))) (by omega)]; simp [awrap, *]; rw [Bool.eq_iff_iff, beq_iff_eq, decide_eq_true_eq]; omega)) (by simp [awrap]) (by simp [awrap]) ?_ ?_
 refine Eq.trans (b := [.box [.own 1 0 q.length, .own 2 0 q.length], .arr 1 ((q.map Prod.fst).map (AVal.int .i64)) 0, .arr 5 ((q.map Prod.snd).map Ty.enc) 0]) (by kernel_rfl) ?_
 rotate_left
 · simp [AObj.belO, hpB, Ty.v, -List.map_map]
 iterate 8 kernel_rfl
 refine qm [91, 92] (beq_eq_false_iff_ne.2 hb11) ?_ ?_
 refine qR 9 [(6, .bool false)] [.box [.own 1 0 q.length, .own 2 0 q.length], .arr 1 ((q.map Prod.fst).map (AVal.int .i64)) 0, .arr 5 ((q.map Prod.snd).map Ty.enc) 0, t.bx, c.bx] ?_ ?_
 refine wRet (by kernel_rfl) ?_
 refine leafA (l := [.bool false]) (.inr rfl) (by kernel_rfl) (by first | exact congrArg AVal.bool (congrArg Prod.fst (fT_6 (by assumption))).symm | exact congrArg AVal.bool (congrArg Prod.fst (fT_ne (by assumption) (.inl (by assumption)))).symm | exact congrArg AVal.bool (congrArg Prod.fst (fT_ne (by assumption) (.inr (by assumption)))).symm | exact congrArg AVal.bool (congrArg Prod.fst (fT_4 (by assumption) (ne_ok (by assumption) (by assumption)) (by omega))).symm | exact congrArg AVal.bool (congrArg Prod.fst (fT_a (by assumption) (ne_ok (by assumption) (by assumption)) (by assumption) (hL.trans ((fTL_step (by omega) hnk).trans (if_pos (by assumption)))))).symm | exact congrArg AVal.bool (congrArg Prod.fst (fT_a (by assumption) (ne_ok (by assumption) (by assumption)) (by assumption) (hL.trans ((fTL_step (by omega) hnk).trans ((if_neg (by assumption)).trans (if_neg (by assumption))))))).symm | exact congrArg AVal.bool (congrArg Prod.fst (fT_b (by assumption) (ne_ok (by assumption) (by assumption)) (by assumption) (hL.trans (fTL_end (by omega))) (by assumption) (by assumption))).symm | (rw [fT_c (by assumption) (ne_ok (by assumption) (by assumption)) (by assumption) (hL.trans (fTL_end (by omega))) (by omega)]; simp [awrap, *]; done) | (rw [fT_c (by assumption) (ne_ok (by assumption) (by assumption)) (by assumption) (hL.trans (fTL_end (by omega))) (by omega)]; simp [awrap, *]; rw [Bool.eq_iff_iff, beq_iff_eq, decide_eq_true_eq]; omega)) (by simp [awrap]) (by simp [awrap]) ?_ ?_
 refine Eq.trans (b := [.box [.own 1 0 q.length, .own 2 0 q.length], .arr 1 ((q.map Prod.fst).map (AVal.int .i64)) 0, .arr 5 ((q.map Prod.snd).map Ty.enc) 0]) (by kernel_rfl) ?_
 rotate_left
 · simp [AObj.belO, hpB, Ty.v, -List.map_map]
 iterate 29 kernel_rfl
 refine qt (x := (!(t.name == c.name))) (congrArg not (beq_eq_false_iff_ne.2 hb3)) ?_ ?_
 refine qU 1 [(6, .bool false)] ?_ ?_
 refine wRet (by kernel_rfl) ?_
 apply aR
 refine leafA (l := [.bool false]) (.inr rfl) (by kernel_rfl) (by first | exact congrArg AVal.bool (congrArg Prod.fst (fT_6 (by assumption))).symm | exact congrArg AVal.bool (congrArg Prod.fst (fT_ne (by assumption) (.inl (by assumption)))).symm | exact congrArg AVal.bool (congrArg Prod.fst (fT_ne (by assumption) (.inr (by assumption)))).symm | exact congrArg AVal.bool (congrArg Prod.fst (fT_4 (by assumption) (ne_ok (by assumption) (by assumption)) (by omega))).symm | exact congrArg AVal.bool (congrArg Prod.fst (fT_a (by assumption) (ne_ok (by assumption) (by assumption)) (by assumption) (hL.trans ((fTL_step (by omega) hnk).trans (if_pos (by assumption)))))).symm | exact congrArg AVal.bool (congrArg Prod.fst (fT_a (by assumption) (ne_ok (by assumption) (by assumption)) (by assumption) (hL.trans ((fTL_step (by omega) hnk).trans ((if_neg (by assumption)).trans (if_neg (by assumption))))))).symm | exact congrArg AVal.bool (congrArg Prod.fst (fT_b (by assumption) (ne_ok (by assumption) (by assumption)) (by assumption) (hL.trans (fTL_end (by omega))) (by assumption) (by assumption))).symm | (rw [fT_c (by assumption) (ne_ok (by assumption) (by assumption)) (by assumption) (hL.trans (fTL_end (by omega))) (by omega)]; simp [awrap, *]; done) | (rw [fT_c (by assumption) (ne_ok (by assumption) (by assumption)) (by assumption) (hL.trans (fTL_end (by omega))) (by omega)]; simp [awrap, *]; rw [Bool.eq_iff_iff, beq_iff_eq, decide_eq_true_eq]; omega)) (by simp [awrap]) (by simp [awrap]) ?_ ?_
 refine Eq.trans (b := [.box [.own 1 0 m.length, .own 2 0 m.length], .arr 1 ((m.map Prod.fst).map (AVal.int .i64)) 0, .arr 5 ((m.map Prod.snd).map Ty.enc) 0]) (by kernel_rfl) ?_
 rotate_left
 · simp [AObj.belO, hpB, Ty.v, -List.map_map]
 iterate 4 kernel_rfl
 refine qm [22, 23] (x := ((t.kind) != (c.kind))) (bne_iff_ne.2 hb2) ?_ ?_
 refine qR 6 [(2, .ptr 0 0), (3, .ptr 3 0), (4, .ptr 4 0), (29, .bool true)] [.box [.own 1 0 m.length, .own 2 0 m.length], .arr 1 ((m.map Prod.fst).map (AVal.int .i64)) 0, .arr 5 ((m.map Prod.snd).map Ty.enc) 0, t.bx, c.bx] ?_ ?_
 refine wIfT (by kernel_rfl) (by kernel_rfl) ?_
 refine qU 1 [(6, .bool false)] ?_ ?_
 refine wRet (by kernel_rfl) ?_
 apply aR
 refine leafA (l := [.bool false]) (.inr rfl) (by kernel_rfl) (by first | exact congrArg AVal.bool (congrArg Prod.fst (fT_6 (by assumption))).symm | exact congrArg AVal.bool (congrArg Prod.fst (fT_ne (by assumption) (.inl (by assumption)))).symm | exact congrArg AVal.bool (congrArg Prod.fst (fT_ne (by assumption) (.inr (by assumption)))).symm | exact congrArg AVal.bool (congrArg Prod.fst (fT_4 (by assumption) (ne_ok (by assumption) (by assumption)) (by omega))).symm | exact congrArg AVal.bool (congrArg Prod.fst (fT_a (by assumption) (ne_ok (by assumption) (by assumption)) (by assumption) (hL.trans ((fTL_step (by omega) hnk).trans (if_pos (by assumption)))))).symm | exact congrArg AVal.bool (congrArg Prod.fst (fT_a (by assumption) (ne_ok (by assumption) (by assumption)) (by assumption) (hL.trans ((fTL_step (by omega) hnk).trans ((if_neg (by assumption)).trans (if_neg (by assumption))))))).symm | exact congrArg AVal.bool (congrArg Prod.fst (fT_b (by assumption) (ne_ok (by assumption) (by assumption)) (by assumption) (hL.trans (fTL_end (by omega))) (by assumption) (by assumption))).symm | (rw [fT_c (by assumption) (ne_ok (by assumption) (by assumption)) (by assumption) (hL.trans (fTL_end (by omega))) (by omega)]; simp [awrap, *]; done) | (rw [fT_c (by assumption) (ne_ok (by assumption) (by assumption)) (by assumption) (hL.trans (fTL_end (by omega))) (by omega)]; simp [awrap, *]; rw [Bool.eq_iff_iff, beq_iff_eq, decide_eq_true_eq]; omega)) (by simp [awrap]) (by simp [awrap]) ?_ ?_
 refine Eq.trans (b := [.box [.own 1 0 m.length, .own 2 0 m.length], .arr 1 ((m.map Prod.fst).map (AVal.int .i64)) 0, .arr 5 ((m.map Prod.snd).map Ty.enc) 0]) (by kernel_rfl) ?_
 rotate_left
 · simp [AObj.belO, hpB, Ty.v, -List.map_map]
 iterate 12 kernel_rfl
 all_goals
  refine congrArg hpB ?_
  first | exact (congrArg Prod.snd (fT_6 (by assumption))).symm | exact (congrArg Prod.snd (fT_ne (by assumption) (.inl (by assumption)))).symm | exact (congrArg Prod.snd (fT_ne (by assumption) (.inr (by assumption)))).symm | exact (congrArg Prod.snd (fT_4 (by assumption) (ne_ok (by assumption) (by assumption)) (by omega))).symm | exact (congrArg Prod.snd (fT_a (by assumption) (ne_ok (by assumption) (by assumption)) (by assumption) (hL.trans ((fTL_step (by omega) hnk).trans (if_pos (by assumption)))))).symm | exact (congrArg Prod.snd (fT_a (by assumption) (ne_ok (by assumption) (by assumption)) (by assumption) (hL.trans ((fTL_step (by omega) hnk).trans ((if_neg (by assumption)).trans (if_neg (by assumption))))))).symm | exact (congrArg Prod.snd (fT_b (by assumption) (ne_ok (by assumption) (by assumption)) (by assumption) (hL.trans (fTL_end (by omega))) (by assumption) (by assumption))).symm | exact (congrArg Prod.snd (fT_c (by assumption) (ne_ok (by assumption) (by assumption)) (by assumption) (hL.trans (fTL_end (by omega))) (by omega))).symm
end Go.Proofs.YtdikgijfekfaoaaGreatDoor
