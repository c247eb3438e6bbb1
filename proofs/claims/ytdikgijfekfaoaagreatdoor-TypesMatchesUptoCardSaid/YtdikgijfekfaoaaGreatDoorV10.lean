/- Matches of both packages, and the law TypesMatches. Condition: sizes that can be had. -/
import Derived.Test.YtdikgijfekfaoaaGreatDoorV9
import Derived.Test.YtdikgijfekfaoaaGreatDoorT12
import Derived.Test.YtdikgijfekfaoaaGreatDoorH4
import Derived.Test.YtdikgijfekfaoaaGreatDoorAbse
set_option linter.all false
set_option linter.unusedSimpArgs false
set_option linter.unusedVariables false
namespace Go.Proofs.YtdikgijfekfaoaaGreatDoor
open Go.Proofs.YtdikgijfekfaoaaGreatDoor.Abs
set_option maxRecDepth 20000
set_option maxHeartbeats 4000000
def matB (a b : Ty) : Bool := validB a && validB b && (mT a b []).1
def rmatB (a b : Ty) : Bool := rvalidB a && rvalidB b && (fT a b []).1
theorem mat_same (a b : Ty) : matB a b = rmatB a b := by
  unfold matB rmatB
  rw [← valid_same a, ← valid_same b]
  by_cases ha : validB a = true
  · by_cases hb : validB b = true
    · have h1 := valid_gd ha
      have h2 := valid_gd hb
      rw [(same_T beq_same a b [] h1.1 h1.2 h2.1 h2.2).1]
    · simp [hb]
  · simp [ha]
theorem bdSm_nil : bdSm [] := fun k t h => by simp [mget] at h
theorem bdZ_nil : bdZ [] := fun i => by simp [Ty.zero, Ty.sz, szS, Ty.szL]
theorem match_at (t c : Ty) (hs : t.sz < 100000000) (hsc : c.sz < 100000000) (h1 : validB t = true) (h2 : validB c = true) : CallsA cx 62 [Ty.v t, Ty.v c, .map 2] [.box [.int .i64 (t.kind), .str t.name, .int .i64 (t.n), .imm (t.names.map AVal.str), .imm (t.kids.map Ty.enc)], .box [.int .i64 (c.kind), .str c.name, .int .i64 (c.n), .imm (c.names.map AVal.str), .imm (c.kids.map Ty.enc)], .map (encM (AVal.int .i64) Ty.v ([] : Bd))] (fun v h => v = .bool (mT t c []).1 ∧ h = [.box [.int .i64 (t.kind), .str t.name, .int .i64 (t.n), .imm (t.names.map AVal.str), .imm (t.kids.map Ty.enc)], .box [.int .i64 (c.kind), .str c.name, .int .i64 (c.n), .imm (c.names.map AVal.str), .imm (c.kids.map Ty.enc)], .map (encM (AVal.int .i64) Ty.v (mT t c []).2)]) := by
  have hid : renE (lendR [2] 3) (encM (AVal.int .i64) Ty.v (mT t c []).2) = encM (AVal.int .i64) Ty.v (mT t c []).2 := renE_id (k := 0) (fun i hi => by omega) _ (encM_bd 0 _)
  refine CallsA_at [2] (match_spec t c [] hs hsc (valid_gd h1).1 (valid_gd h2).1 bdSm_nil) rfl (by decide) (by simp [Ty.v]) (by simp [AObj.belO]) (by simp [renH, AObj.ren, renE, encM]) rfl (by simp [renL, AVal.ren, lendR, Ty.v]) rfl ?_
  simp [lendH, setAll, renH, AObj.ren, hid]
theorem fits_0 (t c : Ty) (hs : t.sz < 100000000) (hsc : c.sz < 100000000) (h1 : validB t = true) (h2 : validB c = true) : CallsA cx 63 [Ty.v t, Ty.v c, .ptr 0 0] [.box [.full [], .full []]] (fun v h => v = .bool (fT t c []).1 ∧ h = hpB (fT t c []).2) :=
  CallsA_ownB 0 0 1 [.own 1 0 0, .full []] (by decide) rfl rfl rfl (CallsA_ownB 0 1 5 [.own 1 0 0, .own 2 0 0] (by decide) rfl rfl rfl
    (fits_spec t c [] (by simpa using hs) hsc (valid_gd h1).1 (valid_gd h1).2 (valid_gd h2).1 (valid_gd h2).2 bdZ_nil))
def hpC (t c : Ty) (m : Bd) : AHeap := [.box [.int .i64 (t.kind), .str t.name, .int .i64 (t.n), .imm (t.names.map AVal.str), .imm (t.kids.map Ty.enc)], .box [.int .i64 (c.kind), .str c.name, .int .i64 (c.n), .imm (c.names.map AVal.str), .imm (c.kids.map Ty.enc)], .box [.own 3 0 m.length, .own 4 0 m.length], .arr 1 ((m.map Prod.fst).map (AVal.int .i64)) 0, .arr 5 ((m.map Prod.snd).map Ty.enc) 0]
theorem fits_at (t c : Ty) (hs : t.sz < 100000000) (hsc : c.sz < 100000000) (h1 : validB t = true) (h2 : validB c = true) : CallsA cx 63 [Ty.v t, Ty.v c, .ptr 2 0] [.box [.int .i64 (t.kind), .str t.name, .int .i64 (t.n), .imm (t.names.map AVal.str), .imm (t.kids.map Ty.enc)], .box [.int .i64 (c.kind), .str c.name, .int .i64 (c.n), .imm (c.names.map AVal.str), .imm (c.kids.map Ty.enc)], .box [.full [], .full []]] (fun v h => v = .bool (fT t c []).1 ∧ h = hpC t c (fT t c []).2) := by
  have e1 : renL (lendR [2] 3) (((fT t c []).2.map Prod.fst).map (AVal.int .i64)) = ((fT t c []).2.map Prod.fst).map (AVal.int .i64) := belL_ren _ _ (by simp [-List.map_map])
  have e2 : renL (lendR [2] 3) (((fT t c []).2.map Prod.snd).map Ty.enc) = ((fT t c []).2.map Prod.snd).map Ty.enc := belL_ren _ _ (by simp [-List.map_map])
  refine CallsA_at [2] (fits_0 t c hs hsc h1 h2) rfl (by decide) (by simp [Ty.v]) (by simp [AObj.belO]) (by simp [renH, AObj.ren, renL, AVal.ren]) rfl (by simp [renL, AVal.ren, lendR, Ty.v]) rfl ?_
  simp [lendH, setAll, renH, AObj.ren, hpB, hpC, renL, AVal.ren, lendR, e1, e2, -List.map_map]
noncomputable def c19 : Code := bodyOf Tryz.f19
theorem matches_spec (t c : Ty) (hs : t.sz < 100000000) (hsc : c.sz < 100000000) : CallsP cx 19 [Ty.v t, Ty.v c] (.bool (matB t c)) := by
 refine func_intro (cx := cx) 17 0 [(ResultVar.tmp 4)] Tryz.func19 rfl rfl rfl rfl rfl (by simp) ?_
 show wpA cx 17 0 (at_ c19 []) _ _ _
 refine qZ [(0, Ty.v t), (1, Ty.v c)] [] ?_ ?_
 refine qW 3 [(2, .ptr 0 0), (3, .ptr 1 0)] [t.bx, c.bx] ?_ ?_
 refine qV 1 ?_ ?_
 refine vcallP (args := [.agg [.int .i64 (t.kind), .str t.name, .int .i64 (t.n), .imm (t.names.map AVal.str), .imm (t.kids.map Ty.enc)]]) (by kernel_rfl) (by kernel_rfl) (by kernel_rfl) (by kernel_rfl) (tvalid_spec t (by omega)) (by simp [Ty.v, frzL_app, Occ.v]) (by simp [Ty.v]) (by simp [Ty.v, ownsL_app]) ?_
 refine qr 1 ?_ ?_
 by_cases hb1 : (validB t) = true
 refine qm [6, 7] (hb1) ?_ ?_
 refine qr 1 ?_ ?_
 refine vcallP (args := [.agg [.int .i64 (c.kind), .str c.name, .int .i64 (c.n), .imm (c.names.map AVal.str), .imm (c.kids.map Ty.enc)]]) (by kernel_rfl) (by kernel_rfl) (by kernel_rfl) (by kernel_rfl) (tvalid_spec c (by omega)) (by simp [Ty.v, frzL_app, Occ.v]) (by simp [Ty.v]) (by simp [Ty.v, ownsL_app]) ?_
 refine qr 2 ?_ ?_
 by_cases hb2 : (validB c) = true
 refine qm [9, 10, 11] (hb2) ?_ ?_
 refine qr 3 ?_ ?_
 refine vcallH (args := [.agg [.int .i64 (t.kind), .str t.name, .int .i64 (t.n), .imm (t.names.map AVal.str), .imm (t.kids.map Ty.enc)], .agg [.int .i64 (c.kind), .str c.name, .int .i64 (c.n), .imm (c.names.map AVal.str), .imm (c.kids.map Ty.enc)], .map 2]) (v := .bool ((mT t c []).1)) (h' := [.box [.int .i64 (t.kind), .str t.name, .int .i64 (t.n), .imm (t.names.map AVal.str), .imm (t.kids.map Ty.enc)], .box [.int .i64 (c.kind), .str c.name, .int .i64 (c.n), .imm (c.names.map AVal.str), .imm (c.kids.map Ty.enc)], .map (encM (AVal.int .i64) Ty.v (mT t c []).2)]) [.box [.int .i64 (t.kind), .str t.name, .int .i64 (t.n), .imm (t.names.map AVal.str), .imm (t.kids.map Ty.enc)], .box [.int .i64 (c.kind), .str c.name, .int .i64 (c.n), .imm (c.names.map AVal.str), .imm (c.kids.map Ty.enc)], .map (encM (AVal.int .i64) Ty.v ([] : List (Int × Ty)))] (by kernel_rfl) (by kernel_rfl) (by kernel_rfl) (by kernel_rfl) (by kernel_rfl) (match_at t c hs hsc (by assumption) (by assumption)) ?_
 refine qX 2 ?_ ?_
 refine leafB (b := ((mT t c []).1)) (.inr rfl) (by kernel_rfl) ?_
 · simp [matB, *]
 iterate 3 kernel_rfl
 refine qm [9, 10, 11] (Bool.eq_false_iff.2 hb2) ?_ ?_
 refine qX 6 ?_ ?_
 refine leafB (b := false) (.inr rfl) (by kernel_rfl) ?_
 · simp [matB, *]
 iterate 5 kernel_rfl
 refine qm [6, 7] (Bool.eq_false_iff.2 hb1) ?_ ?_
 refine qX 10 ?_ ?_
 refine leafB (b := false) (.inr rfl) (by kernel_rfl) ?_
 · simp [matB, *]
 iterate 6 kernel_rfl
noncomputable def c20 : Code := bodyOf Tryz.f20
theorem rmatches_spec (t c : Ty) (hs : t.sz < 100000000) (hsc : c.sz < 100000000) : CallsP cx 20 [Ty.v t, Ty.v c] (.bool (rmatB t c)) := by
 refine func_intro (cx := cx) 22 0 [(ResultVar.tmp 4)] Tryz.func20 rfl rfl rfl rfl rfl (by simp) ?_
 show wpA cx 22 0 (at_ c20 []) _ _ _
 refine qZ [(0, Ty.v t), (1, Ty.v c)] [] ?_ ?_
 refine qW 3 [(2, .ptr 0 0), (3, .ptr 1 0)] [t.bx, c.bx] ?_ ?_
 refine qV 1 ?_ ?_
 refine vcallP (args := [.agg [.int .i64 (t.kind), .str t.name, .int .i64 (t.n), .imm (t.names.map AVal.str), .imm (t.kids.map Ty.enc)]]) (by kernel_rfl) (by kernel_rfl) (by kernel_rfl) (by kernel_rfl) (rvalid_spec t (by omega)) (by simp [Ty.v, frzL_app, Occ.v]) (by simp [Ty.v]) (by simp [Ty.v, ownsL_app]) ?_
 refine qR 1 [(2, .ptr 0 0), (3, .ptr 1 0), (5, .bool (rvalidB t))] [t.bx, c.bx] ?_ ?_
 refine qV 1 ?_ ?_
 refine vcallP (args := [.agg [.int .i64 (c.kind), .str c.name, .int .i64 (c.n), .imm (c.names.map AVal.str), .imm (c.kids.map Ty.enc)]]) (by kernel_rfl) (by kernel_rfl) (by kernel_rfl) (by kernel_rfl) (rvalid_spec c (by omega)) (by simp [Ty.v, frzL_app, Occ.v]) (by simp [Ty.v]) (by simp [Ty.v, ownsL_app]) ?_
 refine qR 1 [(2, .ptr 0 0), (3, .ptr 1 0), (5, .bool (rvalidB t)), (6, .bool (rvalidB c))] [t.bx, c.bx] ?_ ?_
 refine qSeq ?_ ?_
 refine qV 3 ?_ ?_
 by_cases hb1 : (rvalidB t) = true
 refine qm [12, 13] (x := (!(rvalidB t))) (congrArg not (hb1)) ?_ ?_
 refine qR 3 [(2, .ptr 0 0), (3, .ptr 1 0), (16, .bool (!(rvalidB c)))] [t.bx, c.bx] ?_ ?_
 by_cases hb2 : (rvalidB c) = true
 refine qf (x := (!(rvalidB c))) (congrArg not (hb2)) ?_ ?_
 refine qK ?_ ?_
 refine qz [(2, .ptr 0 0), (3, .ptr 1 0)] ?_ ?_
 refine qV 4 ?_ ?_
 refine vcallH (args := [.agg [.int .i64 (t.kind), .str t.name, .int .i64 (t.n), .imm (t.names.map AVal.str), .imm (t.kids.map Ty.enc)], .agg [.int .i64 (c.kind), .str c.name, .int .i64 (c.n), .imm (c.names.map AVal.str), .imm (c.kids.map Ty.enc)], .ptr 2 0]) (v := .bool ((fT t c []).1)) (h' := [.box [.int .i64 (t.kind), .str t.name, .int .i64 (t.n), .imm (t.names.map AVal.str), .imm (t.kids.map Ty.enc)], .box [.int .i64 (c.kind), .str c.name, .int .i64 (c.n), .imm (c.names.map AVal.str), .imm (c.kids.map Ty.enc)], .box [.own 3 0 (fT t c []).2.length, .own 4 0 (fT t c []).2.length], .arr 1 (((fT t c []).2.map Prod.fst).map (AVal.int .i64)) 0, .arr 5 (((fT t c []).2.map Prod.snd).map Ty.enc) 0]) [.box [.int .i64 (t.kind), .str t.name, .int .i64 (t.n), .imm (t.names.map AVal.str), .imm (t.kids.map Ty.enc)], .box [.int .i64 (c.kind), .str c.name, .int .i64 (c.n), .imm (c.names.map AVal.str), .imm (c.kids.map Ty.enc)], .box [.full [], .full []]] (by kernel_rfl) (by kernel_rfl) (by kernel_rfl) (by kernel_rfl) (by kernel_rfl) (fits_at t c hs hsc (by rw [valid_same]; assumption) (by rw [valid_same]; assumption)) ?_
 refine qX 1 ?_ ?_
 refine leafB (b := ((fT t c []).1)) (.inr rfl) (by kernel_rfl) ?_
 · simp [rmatB, *]
 iterate 5 kernel_rfl
 refine qt (x := (!(rvalidB c))) (congrArg not (Bool.eq_false_iff.2 hb2)) ?_ ?_
 refine qV 1 ?_ ?_
 refine qT ?_ ?_
 apply aR
 refine leafB (b := false) (.inr rfl) (by kernel_rfl) ?_
 · simp [rmatB, *]
 iterate 5 kernel_rfl
 refine qm [12, 13] (x := (!(rvalidB t))) (congrArg not (Bool.eq_false_iff.2 hb1)) ?_ ?_
 refine qR 3 [(2, .ptr 0 0), (3, .ptr 1 0), (16, .bool true)] [t.bx, c.bx] ?_ ?_
 refine wIfT (by kernel_rfl) (by kernel_rfl) ?_
 refine qV 1 ?_ ?_
 refine qT ?_ ?_
 apply aR
 refine leafB (b := false) (.inr rfl) (by kernel_rfl) ?_
 · simp [rmatB, *]
 iterate 12 kernel_rfl
def all5 (l m : List Int) (t u : Ty) : List Ty := [openT l 2 0, openT m 2 0, closedT l 2 0, t, u]
theorem all5_len (l m : List Int) (t u : Ty) : (all5 l m t u).length = 5 := rfl
theorem all5_sz {l m : List Int} {t u : Ty} (ht : t.sz < 100000000) (hu : u.sz < 100000000) (i : Nat) : ((all5 l m t u).getD i Ty.zero).sz < 100000000 := by
  match i with
  | 0 => exact Nat.lt_of_le_of_lt (openT_small l 2 0 (by decide)) (by decide)
  | 1 => exact Nat.lt_of_le_of_lt (openT_small m 2 0 (by decide)) (by decide)
  | 2 => exact Nat.lt_of_le_of_lt (closedT_small l 2 0 (by decide)) (by decide)
  | 3 => exact ht
  | 4 => exact hu
  | i + 5 => simp [all5, Ty.zero, Ty.sz, szS, Ty.szL]
theorem open_m (l : List Int) (hl : i64L l) : CallsP cx 12 [.imm (l.map (.int .i64)), .int .i64 0, .int .i64 2] (openT l 2 0).v := open_spec l 0 2 hl (by decide) (by decide)
theorem closed_m (l : List Int) (hl : i64L l) : CallsP cx 13 [.imm (l.map (.int .i64)), .int .i64 0, .int .i64 2] (closedT l 2 0).v := closed_P (closed_raw l 0 2 hl (by decide) (by decide))
noncomputable def c4 : Code := bodyOf Tryz.f4
theorem matchlaw_spec (l m : List Int) (t u : Ty) (hl : i64L l) (hm : i64L m) (ht : t.sz < 100000000) (hu : u.sz < 100000000) : CallsP cx 4 [.imm (l.map (AVal.int .i64)), .imm (m.map (AVal.int .i64)), Ty.v t, Ty.v u] (.bool true) := by
 have hsi := all5_sz (l := l) (m := m) ht hu
 have h5 := all5_len l m t u
 refine func_intro (cx := cx) 49 0 [(ResultVar.tmp 8)] Tryz.func4 rfl rfl rfl rfl rfl (by simp) ?_
 show wpA cx 49 0 (at_ c4 []) _ _ _
 refine qZ [(0, .imm (l.map (AVal.int .i64))), (1, .imm (m.map (AVal.int .i64))), (2, Ty.v t), (3, Ty.v u)] [] ?_ ?_
 refine qW 3 [(0, .imm (l.map (AVal.int .i64))), (1, .imm (m.map (AVal.int .i64))), (6, .ptr 0 0), (7, .ptr 1 0)] [t.bx, u.bx] ?_ ?_
 refine qSeq ?_ ?_
 refine wDrw cxM (by kernel_rfl) extThen (dstart ?_)
 refine qu 1 ?_ ?_
 refine dcallP (args := [.imm (l.map (AVal.int .i64)), .int .i64 0, .int .i64 2]) (by kernel_rfl) (by kernel_rfl) (by kernel_rfl) (by kernel_rfl) (by kernel_rfl) (open_m l (by assumption)) (by intro _; simp [Ty.v, frzL_app, Occ.v]) (by simp [Ty.v]) (by simp [Ty.v, ownsL_app]) ?_
 refine qu 1 ?_ ?_
 refine dcallP (args := [.imm (m.map (AVal.int .i64)), .int .i64 0, .int .i64 2]) (by kernel_rfl) (by kernel_rfl) (by kernel_rfl) (by kernel_rfl) (by kernel_rfl) (open_m m (by assumption)) (by intro _; simp [Ty.v, frzL_app, Occ.v]) (by simp [Ty.v]) (by simp [Ty.v, ownsL_app]) ?_
 refine qu 1 ?_ ?_
 refine dcallP (args := [.imm (l.map (AVal.int .i64)), .int .i64 0, .int .i64 2]) (by kernel_rfl) (by kernel_rfl) (by kernel_rfl) (by kernel_rfl) (by kernel_rfl) (closed_m l (by assumption)) (by intro _; simp [Ty.v, frzL_app, Occ.v]) (by simp [Ty.v]) (by simp [Ty.v, ownsL_app]) ?_
 refine qu 4 ?_ ?_
 refine dend (by kernel_rfl) ⟨(by kernel_rfl), ?_⟩
 refine AThen_normal ?_
 refine qZ [(9, .full [Ty.v (openT l 2 0), Ty.v (openT m 2 0), Ty.v (closedT l 2 0), .agg [.int .i64 (t.kind), .str t.name, .int .i64 (t.n), .imm (t.names.map AVal.str), .imm (t.kids.map Ty.enc)], .agg [.int .i64 (u.kind), .str u.name, .int .i64 (u.n), .imm (u.names.map AVal.str), .imm (u.kids.map Ty.enc)]])] [t.bx, u.bx] ?_ ?_
 refine wFrzT 9 (.full [Ty.v (openT l 2 0), Ty.v (openT m 2 0), Ty.v (closedT l 2 0), .agg [.int .i64 (t.kind), .str t.name, .int .i64 (t.n), .imm (t.names.map AVal.str), .imm (t.kids.map Ty.enc)], .agg [.int .i64 (u.kind), .str u.name, .int .i64 (u.n), .imm (u.names.map AVal.str), .imm (u.kids.map Ty.enc)]]) (.imm ((all5 l m t u).map Ty.enc)) (by kernel_rfl) (by simp [all5, Ty.enc_v, Ty.v]) (by simp [AVal.frz, frzL, all5, Ty.enc_v, Ty.v]) ?_
 refine qZ [(9, .imm ((all5 l m t u).map Ty.enc))] [t.bx, u.bx] ?_ ?_
 refine qSeq ?_ ?_
 refine qU 1 [(9, .imm ((all5 l m t u).map Ty.enc)), (10, .int .i64 0)] ?_ ?_
 refine qB 0 ?_ ?_ ?_
 refine wLoop (σ := Nat) (fun i => [(9, .imm ((all5 l m t u).map Ty.enc)), (10, .int .i64 ((i : Nat) : Int))]) (fun i => [.box [.int .i64 (t.kind), .str t.name, .int .i64 (t.n), .imm (t.names.map AVal.str), .imm (t.kids.map Ty.enc)], .box [.int .i64 (u.kind), .str u.name, .int .i64 (u.n), .imm (u.names.map AVal.str), .imm (u.kids.map Ty.enc)]]) (fun i => i ≤ 5) (fun i => 5 - i) 0 (by kernel_rfl) (by exact Nat.zero_le _) ⟨⟨(by kernel_rfl), (by kernel_rfl), trivial⟩, by simp [BelL, AVal.bel], by simp, (by kernel_rfl), by simp [AObj.belO]⟩ ?_
 rintro i hi
 refine qSeq ?_ ?_
 refine qW 2 [(9, .imm ((all5 l m t u).map Ty.enc)), (10, nI i), (22, .bool (decide (((i : Nat) : Int) < 5)))] [t.bx, u.bx] ?_ ?_
 by_cases hb1 : ((i : Nat) : Int) < 5
 refine qt (decide_eq_true hb1) ?_ ?_
 refine qK ?_ ?_
 refine qz [(9, .imm ((all5 l m t u).map Ty.enc)), (10, nI i)] ?_ ?_
 refine qSeq ?_ ?_
 refine qB 1 ?_ ?_ ?_
 refine qU 1 [(9, .imm ((all5 l m t u).map Ty.enc)), (10, nI i), (11, .int .i64 0)] ?_ ?_
 refine qB 2 ?_ ?_ ?_
 refine wLoop (σ := Nat) (fun k => [(9, .imm ((all5 l m t u).map Ty.enc)), (10, .int .i64 ((i : Nat) : Int)), (11, .int .i64 ((k : Nat) : Int))]) (fun k => [.box [.int .i64 (t.kind), .str t.name, .int .i64 (t.n), .imm (t.names.map AVal.str), .imm (t.kids.map Ty.enc)], .box [.int .i64 (u.kind), .str u.name, .int .i64 (u.n), .imm (u.names.map AVal.str), .imm (u.kids.map Ty.enc)]]) (fun k => k ≤ 5) (fun k => 5 - k) 0 (by kernel_rfl) (by exact Nat.zero_le _) ⟨⟨(by kernel_rfl), (by kernel_rfl), (by kernel_rfl), trivial⟩, by simp [BelL, AVal.bel], by simp, (by kernel_rfl), by simp [AObj.belO]⟩ ?_
 rintro k hk
 refine qSeq ?_ ?_
 refine qW 2 [(9, .imm ((all5 l m t u).map Ty.enc)), (10, nI i), (11, nI k), (26, .bool (decide (((k : Nat) : Int) < 5)))] [t.bx, u.bx] ?_ ?_
 by_cases hb2 : ((k : Nat) : Int) < 5
 refine qt (decide_eq_true hb2) ?_ ?_
 refine qK ?_ ?_
 refine qz [(9, .imm ((all5 l m t u).map Ty.enc)), (10, nI i), (11, nI k)] ?_ ?_
 refine qSeq ?_ ?_
 refine qB 3 ?_ ?_ ?_
 refine qSeq ?_ ?_
 refine wDrw cxM (by kernel_rfl) extThen (dstart ?_)
 refine qu 2 ?_ ?_
 refine qd ((o_ixmap (k := .i64) (l := (all5 l m t u)) (enc := Ty.enc) (i := ((i : Nat) : Int)) Ty.zero (by kernel_rfl) ty23 ty25 ty_size (by first | omega | exact hsi _) (by first | omega | exact hsi _)).trans (congrArg (fun cs => some (AVal.pimm cs 0, _)) (ty_cells ((all5 l m t u).getD i Ty.zero)))) ?_ ?_ ?_ ?_
 refine qu 3 ?_ ?_
 refine qd ((o_ixmap (k := .i64) (l := (all5 l m t u)) (enc := Ty.enc) (i := ((k : Nat) : Int)) Ty.zero (by kernel_rfl) ty23 ty25 ty_size (by first | omega | exact hsi _) (by first | omega | exact hsi _)).trans (congrArg (fun cs => some (AVal.pimm cs 0, _)) (ty_cells ((all5 l m t u).getD k Ty.zero)))) ?_ ?_ ?_ ?_
 refine qu 1 ?_ ?_
 refine dcallP (args := [.agg [.int .i64 (((all5 l m t u).getD i Ty.zero).kind), .str ((all5 l m t u).getD i Ty.zero).name, .int .i64 (((all5 l m t u).getD i Ty.zero).n), .imm (((all5 l m t u).getD i Ty.zero).names.map AVal.str), .imm (((all5 l m t u).getD i Ty.zero).kids.map Ty.enc)], .agg [.int .i64 (((all5 l m t u).getD k Ty.zero).kind), .str ((all5 l m t u).getD k Ty.zero).name, .int .i64 (((all5 l m t u).getD k Ty.zero).n), .imm (((all5 l m t u).getD k Ty.zero).names.map AVal.str), .imm (((all5 l m t u).getD k Ty.zero).kids.map Ty.enc)]]) (by kernel_rfl) (by kernel_rfl) (by kernel_rfl) (by kernel_rfl) (by kernel_rfl) (matches_spec ((all5 l m t u).getD i Ty.zero) ((all5 l m t u).getD k Ty.zero) (by first | omega | exact hsi _) (by first | omega | exact hsi _)) (by intro _; simp [Ty.v, frzL_app, Occ.v]) (by simp [Ty.v]) (by simp [Ty.v, ownsL_app]) ?_
 refine qu 2 ?_ ?_
 refine qd ((o_ixmap (k := .i64) (l := (all5 l m t u)) (enc := Ty.enc) (i := ((i : Nat) : Int)) Ty.zero (by kernel_rfl) ty23 ty25 ty_size (by first | omega | exact hsi _) (by first | omega | exact hsi _)).trans (congrArg (fun cs => some (AVal.pimm cs 0, _)) (ty_cells ((all5 l m t u).getD i Ty.zero)))) ?_ ?_ ?_ ?_
 refine qu 3 ?_ ?_
 refine qd ((o_ixmap (k := .i64) (l := (all5 l m t u)) (enc := Ty.enc) (i := ((k : Nat) : Int)) Ty.zero (by kernel_rfl) ty23 ty25 ty_size (by first | omega | exact hsi _) (by first | omega | exact hsi _)).trans (congrArg (fun cs => some (AVal.pimm cs 0, _)) (ty_cells ((all5 l m t u).getD k Ty.zero)))) ?_ ?_ ?_ ?_
 refine qu 1 ?_ ?_
 refine dcallP (args := [.agg [.int .i64 (((all5 l m t u).getD i Ty.zero).kind), .str ((all5 l m t u).getD i Ty.zero).name, .int .i64 (((all5 l m t u).getD i Ty.zero).n), .imm (((all5 l m t u).getD i Ty.zero).names.map AVal.str), .imm (((all5 l m t u).getD i Ty.zero).kids.map Ty.enc)], .agg [.int .i64 (((all5 l m t u).getD k Ty.zero).kind), .str ((all5 l m t u).getD k Ty.zero).name, .int .i64 (((all5 l m t u).getD k Ty.zero).n), .imm (((all5 l m t u).getD k Ty.zero).names.map AVal.str), .imm (((all5 l m t u).getD k Ty.zero).kids.map Ty.enc)]]) (by kernel_rfl) (by kernel_rfl) (by kernel_rfl) (by kernel_rfl) (by kernel_rfl) (rmatches_spec ((all5 l m t u).getD i Ty.zero) ((all5 l m t u).getD k Ty.zero) (by first | omega | exact hsi _) (by first | omega | exact hsi _)) (by intro _; simp [Ty.v, frzL_app, Occ.v]) (by simp [Ty.v]) (by simp [Ty.v, ownsL_app]) ?_
 refine qu 1 ?_ ?_
 refine dend (by kernel_rfl) ⟨(by kernel_rfl), ?_⟩
 refine AThen_normal ?_
 refine qZ [(9, .imm ((all5 l m t u).map Ty.enc)), (10, nI i), (11, nI k), (47, .bool (!((matB ((all5 l m t u).getD i Ty.zero) ((all5 l m t u).getD k Ty.zero)) == (rmatB ((all5 l m t u).getD i Ty.zero) ((all5 l m t u).getD k Ty.zero)))))] [t.bx, u.bx] ?_ ?_
 by_cases hb3 : (!((matB ((all5 l m t u).getD i Ty.zero) ((all5 l m t u).getD k Ty.zero)) == (rmatB ((all5 l m t u).getD i Ty.zero) ((all5 l m t u).getD k Ty.zero)))) = true
 · exfalso; simp_all [mat_same]
 refine qf (Bool.eq_false_iff.2 hb3) ?_ ?_
 refine qk ?_ ?_
 refine AIn_normal ?_
 refine AThen_normal ?_
 refine qz [(9, .imm ((all5 l m t u).map Ty.enc)), (10, nI i), (11, nI k)] ?_ ?_
 refine qo ?_ ?_
 refine qr 1 ?_ ?_
 refine qy (o_add (a := ((k : Nat) : Int)) (b := 1) (by kernel_rfl) (by first | omega | exact hsi _) (by first | omega | exact hsi _)) ?_ ?_ ?_
 refine qr 1 ?_ ?_
 refine qe ?_ ?_
 refine AThen_normal ⟨k + 1, ?_, ?_, ⟨⟨(by kernel_rfl), (by kernel_rfl), (by kernel_rfl), trivial⟩, by simp [BelL, AVal.bel], by simp, (by kernel_rfl), by simp [AObj.belO]⟩⟩
 · omega
 · omega
 iterate 36 kernel_rfl
 refine qf (decide_eq_false hb2) ?_ ?_
 refine wExit 2 (by kernel_rfl) (by kernel_rfl) ?_
 refine AThen_exit ?_
 refine AThen_exit ?_
 refine AIn_exit ?_
 refine AIn_normal ?_
 refine AThen_normal ?_
 refine qz [(9, .imm ((all5 l m t u).map Ty.enc)), (10, nI i)] ?_ ?_
 refine qo ?_ ?_
 refine qr 1 ?_ ?_
 refine qy (o_add (a := ((i : Nat) : Int)) (b := 1) (by kernel_rfl) (by first | omega | exact hsi _) (by first | omega | exact hsi _)) ?_ ?_ ?_
 refine qr 1 ?_ ?_
 refine qe ?_ ?_
 refine AThen_normal ⟨i + 1, ?_, ?_, ⟨⟨(by kernel_rfl), (by kernel_rfl), trivial⟩, by simp [BelL, AVal.bel], by simp, (by kernel_rfl), by simp [AObj.belO]⟩⟩
 · omega
 · omega
 iterate 19 kernel_rfl
 refine qf (decide_eq_false hb1) ?_ ?_
 refine wExit 0 (by kernel_rfl) (by kernel_rfl) ?_
 refine AThen_exit ?_
 refine AThen_exit ?_
 refine AIn_exit ?_
 refine AThen_normal ?_
 refine qz [] ?_ ?_
 refine qO ?_ ?_
 refine qc [] (lives_spec) ?_ ?_
 refine qX 1 ?_ ?_
 refine leafB (b := true) (.inr rfl) (by kernel_rfl) ?_
 · rfl
 iterate 20 kernel_rfl
end Go.Proofs.YtdikgijfekfaoaaGreatDoor
