/- A store is made, and what its methods answer on strange types. Condition: sizes that can be had. -/
import Derived.Test.YtdikgijfekfaoaaGreatDoorX1
import Derived.Test.YtdikgijfekfaoaaGreatDoorAbsc
set_option linter.all false
set_option linter.unusedSimpArgs false
set_option linter.unusedVariables false
namespace Go.Proofs.YtdikgijfekfaoaaGreatDoor
open Go.Proofs.YtdikgijfekfaoaaGreatDoor.Abs
set_option maxRecDepth 20000
set_option maxHeartbeats 4000000
noncomputable def c21 : Code := bodyOf Tryz.f21
theorem new_raw   : CallsA cx 21 [] [] (fun v h => v = .ptr 1 0 ∧ h = [.map (encM (AVal.int .i64) Vr.v ([] : St)), .box [.int .i64 0, .map 0]]) := by
 refine func_raw (cx := cx) 4 0 [(ResultVar.tmp 0)] Tryz.func21 rfl rfl rfl rfl rfl (by simp) ?_
 show wpA cx 4 0 (at_ c21 []) _ _ _
 refine qZ [] [] ?_ ?_
 refine qU 1 [] ?_ ?_
 refine qW 4 [(0, .ptr 1 0)] [.map (encM (AVal.int .i64) Vr.v ([] : List (Int × Vr))), .box [.int .i64 0, .map 0]] ?_ ?_
 refine wRet (by kernel_rfl) ?_
 refine leafR (l := [.ptr 1 0]) 2 [.map (encM (AVal.int .i64) Vr.v ([] : List (Int × Vr))), .box [.int .i64 0, .map 0]] (.inr rfl) (by kernel_rfl) (Nat.zero_le _) (by kernel_rfl) (by simp [awrap, -List.map_append, -List.map_take, -List.map_drop, -List.append_assoc]) (by simp [AObj.belO, -List.map_append, -List.map_take, -List.map_drop, -List.append_assoc]) ?_
 · exact ⟨rfl, rfl⟩
 iterate 3 kernel_rfl
noncomputable def c80 : Code := bodyOf Tryz.f80
theorem make_spec (x : Vr) (lv : Int) (m : St) (hml : m.length < 100000000) : CallsA cx 80 [.ptr 0 0, Vr.v x] [.box [.int .i64 (lv), .map 1], .map (encM (AVal.int .i64) Vr.v m)] (fun v h => v = (.int .i64 (((m.length + 1) : Nat) : Int)) ∧ h = [.box [.int .i64 (lv), .map 1], .map (encM (AVal.int .i64) Vr.v (mset ((((m.length + 1) : Nat) : Int)) x m))]) := by
 refine func_intro (cx := cx) 19 2 [(ResultVar.tmp 4)] Tryz.func80 rfl rfl rfl rfl rfl (by simp) ?_
 show wpA cx 19 2 (at_ c80 []) _ _ _
 refine qZ [(0, .ptr 0 0), (1, Vr.v x)] [.box [.int .i64 (lv), .map 1], .map (encM (AVal.int .i64) Vr.v m)] ?_ ?_
 refine qW 2 [(0, .ptr 0 0), (3, .ptr 2 0)] [.box [.int .i64 (lv), .map 1], .map (encM (AVal.int .i64) Vr.v m), .box [.bool (x.row), .int .i64 (x.lv), .bool (x.bd), .int .i64 (x.val.kind), .str x.val.name, .int .i64 (x.val.n), .imm (x.val.names.map AVal.str), .imm (x.val.kids.map Ty.enc), .imm (x.names.map AVal.str)]] ?_ ?_
 refine qV 4 ?_ ?_
 refine qy (o_lenM (o := 1) (ek := (AVal.int .i64)) (ev := Vr.v) (l := m) (by kernel_rfl) ty88 (by kernel_rfl)) ?_ ?_ ?_
 refine qy (o_add (a := ((m.length : Nat) : Int)) (b := 1) (by kernel_rfl) (by omega) (by omega)) ?_ ?_ ?_
 refine qR 1 [(0, .ptr 0 0), (3, .ptr 2 0), (5, nI (m.length + 1))] [.box [.int .i64 (lv), .map 1], .map (encM (AVal.int .i64) Vr.v m), .box [.bool (x.row), .int .i64 (x.lv), .bool (x.bd), .int .i64 (x.val.kind), .str x.val.name, .int .i64 (x.val.n), .imm (x.val.names.map AVal.str), .imm (x.val.kids.map Ty.enc), .imm (x.names.map AVal.str)]] ?_ ?_
 refine qSeq ?_ ?_
 refine wDrw cxM (by kernel_rfl) extThen (dstart ?_)
 refine qu 6 ?_ ?_
 refine qD (o_mset (o := 1) (ek := (AVal.int .i64)) (ev := Vr.v) (l := m) (k := (((m.length + 1) : Nat) : Int)) (x := (Vr.mk (x.row) (x.lv) (x.bd) x.val x.names)) keyI (by kernel_rfl) ty88 ty3 rfl (by kernel_rfl) (by kernel_rfl)) ?_ ?_ ?_ ?_
 refine dend (by kernel_rfl) ⟨(by kernel_rfl), ?_⟩
 refine AThen_normal ?_
 refine qZ [(5, nI (m.length + 1))] [.box [.int .i64 (lv), .map 1], .map (encM (AVal.int .i64) Vr.v (mset (((m.length + 1) : Nat) : Int) (Vr.mk (x.row) (x.lv) (x.bd) x.val x.names) m)), .box [.bool (x.row), .int .i64 (x.lv), .bool (x.bd), .int .i64 (x.val.kind), .str x.val.name, .int .i64 (x.val.n), .imm (x.val.names.map AVal.str), .imm (x.val.kids.map Ty.enc), .imm (x.names.map AVal.str)]] ?_ ?_
 refine qU 2 [(4, nI (m.length + 1))] ?_ ?_
 refine wRet (by kernel_rfl) ?_
 refine leafA (l := [.int .i64 (((m.length + 1) : Nat) : Int)]) (.inr rfl) (by kernel_rfl) (by simp [awrap]) (by simp [awrap]) (by simp [awrap]) ?_ ?_
 refine Eq.trans (b := [.box [.int .i64 (lv), .map 1], .map (encM (AVal.int .i64) Vr.v (mset (((m.length + 1) : Nat) : Int) (Vr.mk (x.row) (x.lv) (x.bd) x.val x.names) m))]) (by kernel_rfl) ?_
 · rfl
 · simp [AObj.belO, Vr.v]
 iterate 15 kernel_rfl
theorem make_frz (lv : Int) (m : St) (hml : m.length < 100000000) : CallsA cx 80 [.ptr 0 0, .agg [.bool false, .int .i64 (lv), .bool false, .int .i64 0, .str [], .int .i64 0, .full [], .full [], .full []]] [.box [.int .i64 (lv), .map 1], .map (encM (AVal.int .i64) Vr.v m)] (fun v h => v = (.int .i64 ((((m.length + 1) : Nat)) : Int)) ∧ h = [.box [.int .i64 (lv), .map 1], .map (encM (AVal.int .i64) Vr.v (mset ((((m.length + 1) : Nat) : Int)) ⟨false, lv, false, Ty.zero, []⟩ m))]) := by
  refine CallsA_frz ?_
  have := make_spec ⟨false, lv, false, Ty.zero, []⟩ lv m hml
  simpa [frzL, frzH, ownsL, AVal.frz, AVal.owns, Vr.v, Ty.zero] using this
noncomputable def c33 : Code := bodyOf Tryz.f33
theorem var_spec (lv : Int) (m : St) (hml : m.length < 100000000) : CallsA cx 33 [.ptr 0 0] [.box [.int .i64 (lv), .map 1], .map (encM (AVal.int .i64) Vr.v m)] (fun v h => v = (.agg [.int .i64 6, .str [], .int .i64 (((m.length + 1) : Nat) : Int), .imm [], .imm []]) ∧ h = [.box [.int .i64 (lv), .map 1], .map (encM (AVal.int .i64) Vr.v (mset ((((m.length + 1) : Nat) : Int)) ⟨false, lv, false, Ty.zero, []⟩ m))]) := by
 refine func_intro (cx := cx) 11 2 [(ResultVar.cell 2 25)] Tryz.func33 rfl rfl rfl rfl rfl (by simp) ?_
 show wpA cx 11 2 (at_ c33 []) _ _ _
 refine qZ [(0, .ptr 0 0)] [.box [.int .i64 (lv), .map 1], .map (encM (AVal.int .i64) Vr.v m)] ?_ ?_
 refine qW 1 [(0, .ptr 0 0), (2, .ptr 2 0)] [.box [.int .i64 (lv), .map 1], .map (encM (AVal.int .i64) Vr.v m), .box [.int .i64 0, .str [], .int .i64 0, .full [], .full []]] ?_ ?_
 refine qV 6 ?_ ?_
 refine vcallA (args := [.ptr 0 0, .agg [.bool false, .int .i64 (lv), .bool false, .int .i64 0, .str [], .int .i64 0, .full [], .full [], .full []]]) (hs := [.box [.int .i64 (lv), .map 1], .map (encM (AVal.int .i64) Vr.v m)]) (hs' := [.box [.int .i64 ((lv)), .map 1], .map (encM (AVal.int .i64) Vr.v (mset ((((m.length + 1) : Nat) : Int)) ⟨false, (lv), false, Ty.zero, []⟩ m))]) (rest := [.box [.int .i64 0, .str [], .int .i64 0, .full [], .full []]]) (by kernel_rfl) (by kernel_rfl) (by kernel_rfl) (by kernel_rfl) (by kernel_rfl) (make_frz (lv) m (by omega)) (by simp [AObj.belO]) (by simp [AObj.belO]) rfl (by simp [AObj.belO]) (by simp [AObj.belO]) (by kernel_rfl) ?_
 refine qR 2 [(2, .ptr 2 0)] [.box [.int .i64 ((lv)), .map 1], .map (encM (AVal.int .i64) Vr.v (mset ((((m.length + 1) : Nat) : Int)) ⟨false, (lv), false, Ty.zero, []⟩ m)), .box [.int .i64 6, .str [], nI (m.length + 1), .full [], .full []]] ?_ ?_
 refine wRet (by kernel_rfl) ?_
 refine leafA (l := [.agg [.int .i64 6, .str [], .int .i64 (((m.length + 1) : Nat) : Int), .full [], .full []]]) (.inr rfl) (by kernel_rfl) (by simp [awrap, AVal.frz, frzL]) (by simp [awrap]) (by simp [awrap]) ?_ ?_
 refine Eq.trans (b := [.box [.int .i64 ((lv)), .map 1], .map (encM (AVal.int .i64) Vr.v (mset ((((m.length + 1) : Nat) : Int)) ⟨false, (lv), false, Ty.zero, []⟩ m))]) (by kernel_rfl) ?_
 · rfl
 · simp [AObj.belO]
 iterate 4 kernel_rfl
noncomputable def c23 : Code := bodyOf Tryz.f23
theorem unify_err (a c : Ty) (lv : Int) (m : St) (ha : a.sz < 100000000) (hc : c.sz < 100000000) (hm : stSm m) (hne : ¬ (hasB m a = true ∧ hasB m c = true)) : CallsA cx 23 [.ptr 0 0, Ty.v a, Ty.v c] [.box [.int .i64 (lv), .map 1], .map (encM (AVal.int .i64) Vr.v m)] (fun v h => v = (.int .i64 1) ∧ h = [.box [.int .i64 (lv), .map 1], .map (encM (AVal.int .i64) Vr.v m)]) := by
 refine func_intro (cx := cx) 34 2 [(ResultVar.tmp 6)] Tryz.func23 rfl rfl rfl rfl rfl (by simp) ?_
 show wpA cx 34 2 (at_ c23 []) _ _ _
 refine qZ [(0, .ptr 0 0), (1, Ty.v a), (2, Ty.v c)] [.box [.int .i64 (lv), .map 1], .map (encM (AVal.int .i64) Vr.v m)] ?_ ?_
 refine qW 3 [(0, .ptr 0 0), (4, .ptr 2 0), (5, .ptr 3 0)] [.box [.int .i64 (lv), .map 1], .map (encM (AVal.int .i64) Vr.v m), a.bx, c.bx] ?_ ?_
 refine qSeq ?_ ?_
 refine qV 2 ?_ ?_
 refine vcallA (args := [.ptr 0 0, .agg [.int .i64 (a.kind), .str a.name, .int .i64 (a.n), .imm (a.names.map AVal.str), .imm (a.kids.map Ty.enc)]]) (hs := [.box [.int .i64 (lv), .map 1], .map (encM (AVal.int .i64) Vr.v m)]) (hs' := [.box [.int .i64 ((lv)), .map 1], .map (encM (AVal.int .i64) Vr.v m)]) (rest := [.box [.int .i64 (a.kind), .str a.name, .int .i64 (a.n), .imm (a.names.map AVal.str), .imm (a.kids.map Ty.enc)], .box [.int .i64 (c.kind), .str c.name, .int .i64 (c.n), .imm (c.names.map AVal.str), .imm (c.kids.map Ty.enc)]]) (by kernel_rfl) (by kernel_rfl) (by kernel_rfl) (by kernel_rfl) (by kernel_rfl) (has_S a (lv) m (by first | omega | assumption) (by first | omega | assumption)) (by simp [AObj.belO, Ty.v]) (by simp [AObj.belO, Ty.v]) rfl (by simp [AObj.belO, Ty.v]) (by simp [AObj.belO, Ty.v]) (by kernel_rfl) ?_
 refine qr 2 ?_ ?_
 by_cases hb1 : (hasB m a) = true
 refine qm [11, 12] (x := (!(hasB m a))) (congrArg not (hb1)) ?_ ?_
 refine qr 2 ?_ ?_
 refine vcallA (args := [.ptr 0 0, .agg [.int .i64 (c.kind), .str c.name, .int .i64 (c.n), .imm (c.names.map AVal.str), .imm (c.kids.map Ty.enc)]]) (hs := [.box [.int .i64 ((lv)), .map 1], .map (encM (AVal.int .i64) Vr.v m)]) (hs' := [.box [.int .i64 (((lv))), .map 1], .map (encM (AVal.int .i64) Vr.v m)]) (rest := [.box [.int .i64 (a.kind), .str a.name, .int .i64 (a.n), .imm (a.names.map AVal.str), .imm (a.kids.map Ty.enc)], .box [.int .i64 (c.kind), .str c.name, .int .i64 (c.n), .imm (c.names.map AVal.str), .imm (c.kids.map Ty.enc)]]) (by kernel_rfl) (by kernel_rfl) (by kernel_rfl) (by kernel_rfl) (by kernel_rfl) (has_S c ((lv)) m (by first | omega | assumption) (by first | omega | assumption)) (by simp [AObj.belO, Ty.v]) (by simp [AObj.belO, Ty.v]) rfl (by simp [AObj.belO, Ty.v]) (by simp [AObj.belO, Ty.v]) (by kernel_rfl) ?_
 refine qR 2 [(0, .ptr 0 0), (4, .ptr 2 0), (5, .ptr 3 0), (17, .bool (!(hasB m c)))] [.box [.int .i64 (((lv))), .map 1], .map (encM (AVal.int .i64) Vr.v m), a.bx, c.bx] ?_ ?_
 by_cases hb2 : (hasB m c) = true
 · exfalso; exact hne ⟨by assumption, by assumption⟩
 refine qt (x := (!(hasB m c))) (congrArg not (Bool.eq_false_iff.2 hb2)) ?_ ?_
 refine qU 1 [(6, .int .i64 1)] ?_ ?_
 refine wRet (by kernel_rfl) ?_
 apply aR
 refine leafA (l := [.int .i64 1]) (.inr rfl) (by kernel_rfl) (by rfl) (by simp [awrap]) (by simp [awrap]) ?_ ?_
 refine Eq.trans (b := [.box [.int .i64 (((lv))), .map 1], .map (encM (AVal.int .i64) Vr.v m)]) (by kernel_rfl) ?_
 · rfl
 · simp [AObj.belO, Ty.v]
 iterate 5 kernel_rfl
 refine qm [11, 12] (x := (!(hasB m a))) (congrArg not (Bool.eq_false_iff.2 hb1)) ?_ ?_
 refine qR 5 [(0, .ptr 0 0), (4, .ptr 2 0), (5, .ptr 3 0), (17, .bool true)] [.box [.int .i64 ((lv)), .map 1], .map (encM (AVal.int .i64) Vr.v m), a.bx, c.bx] ?_ ?_
 refine wIfT (by kernel_rfl) (by kernel_rfl) ?_
 refine qU 1 [(6, .int .i64 1)] ?_ ?_
 refine wRet (by kernel_rfl) ?_
 apply aR
 refine leafA (l := [.int .i64 1]) (.inr rfl) (by kernel_rfl) (by rfl) (by simp [awrap]) (by simp [awrap]) ?_ ?_
 refine Eq.trans (b := [.box [.int .i64 ((lv)), .map 1], .map (encM (AVal.int .i64) Vr.v m)]) (by kernel_rfl) ?_
 · rfl
 · simp [AObj.belO, Ty.v]
 iterate 8 kernel_rfl
noncomputable def c37 : Code := bodyOf Tryz.f37
theorem free_err (t : Ty) (lv : Int) (m : St) (hs : t.sz < 100000000) (hm : stSm m) (hne : ¬ hasB m t = true) : CallsA cx 37 [.ptr 0 0, Ty.v t] [.box [.int .i64 (lv), .map 1], .map (encM (AVal.int .i64) Vr.v m)] (fun v h => v = (.imm []) ∧ h = [.box [.int .i64 (lv), .map 1], .map (encM (AVal.int .i64) Vr.v m)]) := by
 refine func_intro (cx := cx) 15 2 [(ResultVar.tmp 4)] Tryz.func37 rfl rfl rfl rfl rfl (by simp) ?_
 show wpA cx 15 2 (at_ c37 []) _ _ _
 refine qZ [(0, .ptr 0 0), (1, Ty.v t)] [.box [.int .i64 (lv), .map 1], .map (encM (AVal.int .i64) Vr.v m)] ?_ ?_
 refine qW 3 [(2, .ptr 2 0), (3, .ptr 3 0)] [.box [.int .i64 (lv), .map 1], .map (encM (AVal.int .i64) Vr.v m), .box [.ptr 0 0], t.bx] ?_ ?_
 refine qSeq ?_ ?_
 refine qV 2 ?_ ?_
 refine vcallA (args := [.ptr 0 0, .agg [.int .i64 (t.kind), .str t.name, .int .i64 (t.n), .imm (t.names.map AVal.str), .imm (t.kids.map Ty.enc)]]) (hs := [.box [.int .i64 (lv), .map 1], .map (encM (AVal.int .i64) Vr.v m)]) (hs' := [.box [.int .i64 ((lv)), .map 1], .map (encM (AVal.int .i64) Vr.v m)]) (rest := [.box [.ptr 0 0], .box [.int .i64 (t.kind), .str t.name, .int .i64 (t.n), .imm (t.names.map AVal.str), .imm (t.kids.map Ty.enc)]]) (by kernel_rfl) (by kernel_rfl) (by kernel_rfl) (by kernel_rfl) (by kernel_rfl) (has_S t (lv) m (by first | omega | assumption) (by first | omega | assumption)) (by simp [AObj.belO, Ty.v]) (by simp [AObj.belO, Ty.v]) rfl (by simp [AObj.belO, Ty.v]) (by simp [AObj.belO, Ty.v]) (by kernel_rfl) ?_
 refine qR 1 [(2, .ptr 2 0), (3, .ptr 3 0), (8, .bool (!(hasB m t)))] [.box [.int .i64 ((lv)), .map 1], .map (encM (AVal.int .i64) Vr.v m), .box [.ptr 0 0], t.bx] ?_ ?_
 by_cases hb1 : (hasB m t) = true
 · exfalso; exact hne (by assumption)
 refine qt (x := (!(hasB m t))) (congrArg not (Bool.eq_false_iff.2 hb1)) ?_ ?_
 refine qU 1 [(4, .full [])] ?_ ?_
 refine wRet (by kernel_rfl) ?_
 apply aR
 refine leafA (l := [.full []]) (.inr rfl) (by kernel_rfl) (by simp [awrap, AVal.frz, frzL]) (by simp [awrap]) (by simp [awrap]) ?_ ?_
 refine Eq.trans (b := [.box [.int .i64 ((lv)), .map 1], .map (encM (AVal.int .i64) Vr.v m)]) (by kernel_rfl) ?_
 · rfl
 · simp [AObj.belO, Ty.v]
 iterate 7 kernel_rfl
noncomputable def c24 : Code := bodyOf Tryz.f24
theorem resolve_err (t : Ty) (lv : Int) (m : St) (hs : t.sz < 100000000) (hm : stSm m) (hne : ¬ hasB m t = true) : CallsA cx 24 [.ptr 0 0, Ty.v t] [.box [.int .i64 (lv), .map 1], .map (encM (AVal.int .i64) Vr.v m)] (fun v h => v = (Ty.v t) ∧ h = [.box [.int .i64 (lv), .map 1], .map (encM (AVal.int .i64) Vr.v m)]) := by
 refine func_intro (cx := cx) 14 2 [(ResultVar.cell 4 25)] Tryz.func24 rfl rfl rfl rfl rfl (by simp) ?_
 show wpA cx 14 2 (at_ c24 []) _ _ _
 refine qZ [(0, .ptr 0 0), (1, Ty.v t)] [.box [.int .i64 (lv), .map 1], .map (encM (AVal.int .i64) Vr.v m)] ?_ ?_
 refine qW 2 [(0, .ptr 0 0), (3, .ptr 2 0), (4, .ptr 3 0)] [.box [.int .i64 (lv), .map 1], .map (encM (AVal.int .i64) Vr.v m), t.bx, .box [.int .i64 0, .str [], .int .i64 0, .full [], .full []]] ?_ ?_
 refine qSeq ?_ ?_
 refine qV 2 ?_ ?_
 refine vcallA (args := [.ptr 0 0, .agg [.int .i64 (t.kind), .str t.name, .int .i64 (t.n), .imm (t.names.map AVal.str), .imm (t.kids.map Ty.enc)]]) (hs := [.box [.int .i64 (lv), .map 1], .map (encM (AVal.int .i64) Vr.v m)]) (hs' := [.box [.int .i64 ((lv)), .map 1], .map (encM (AVal.int .i64) Vr.v m)]) (rest := [.box [.int .i64 (t.kind), .str t.name, .int .i64 (t.n), .imm (t.names.map AVal.str), .imm (t.kids.map Ty.enc)], .box [.int .i64 0, .str [], .int .i64 0, .full [], .full []]]) (by kernel_rfl) (by kernel_rfl) (by kernel_rfl) (by kernel_rfl) (by kernel_rfl) (has_S t (lv) m (by first | omega | assumption) (by first | omega | assumption)) (by simp [AObj.belO, Ty.v]) (by simp [AObj.belO, Ty.v]) rfl (by simp [AObj.belO, Ty.v]) (by simp [AObj.belO, Ty.v]) (by kernel_rfl) ?_
 refine qR 1 [(0, .ptr 0 0), (3, .ptr 2 0), (4, .ptr 3 0), (8, .bool (!(hasB m t)))] [.box [.int .i64 ((lv)), .map 1], .map (encM (AVal.int .i64) Vr.v m), t.bx, .box [.int .i64 0, .str [], .int .i64 0, .full [], .full []]] ?_ ?_
 by_cases hb1 : (hasB m t) = true
 · exfalso; exact hne (by assumption)
 refine qt (x := (!(hasB m t))) (congrArg not (Bool.eq_false_iff.2 hb1)) ?_ ?_
 refine qV 1 ?_ ?_
 refine vcallP (args := [.agg [.int .i64 (t.kind), .str t.name, .int .i64 (t.n), .imm (t.names.map AVal.str), .imm (t.kids.map Ty.enc)]]) (by kernel_rfl) (by kernel_rfl) (by kernel_rfl) (by kernel_rfl) (clone_spec t (by first | omega | assumption)) (by simp [Ty.v, frzL_app, Occ.v]) (by simp [Ty.v]) (by simp [Ty.v, ownsL_app]) ?_
 refine qR 1 [(4, .ptr 3 0)] [.box [.int .i64 ((lv)), .map 1], .map (encM (AVal.int .i64) Vr.v m), t.bx, t.bx] ?_ ?_
 refine wRet (by kernel_rfl) ?_
 apply aR
 refine leafA (l := [.agg [.int .i64 (t.kind), .str t.name, .int .i64 (t.n), .imm (t.names.map AVal.str), .imm (t.kids.map Ty.enc)]]) (.inr rfl) (by kernel_rfl) (by simp [awrap, Ty.v, AVal.frz, frzL]) (by simp [awrap]) (by simp [awrap]) ?_ ?_
 refine Eq.trans (b := [.box [.int .i64 ((lv)), .map 1], .map (encM (AVal.int .i64) Vr.v m)]) (by kernel_rfl) ?_
 · rfl
 · simp [AObj.belO, Ty.v]
 iterate 8 kernel_rfl
noncomputable def c38 : Code := bodyOf Tryz.f38
theorem fresh_err (t : Ty) (l : List Int) (lv : Int) (m : St) (hs : t.sz < 100000000) (hm : stSm m) (hne : ¬ hasB m t = true) : CallsA cx 38 [.ptr 0 0, Ty.v t, .imm (l.map (AVal.int .i64))] [.box [.int .i64 (lv), .map 1], .map (encM (AVal.int .i64) Vr.v m)] (fun v h => v = (Ty.v t) ∧ h = [.box [.int .i64 (lv), .map 1], .map (encM (AVal.int .i64) Vr.v m)]) := by
 refine func_intro (cx := cx) 20 2 [(ResultVar.cell 6 25)] Tryz.func38 rfl rfl rfl rfl rfl (by simp) ?_
 show wpA cx 20 2 (at_ c38 []) _ _ _
 refine qZ [(0, .ptr 0 0), (1, Ty.v t), (2, .imm (l.map (AVal.int .i64)))] [.box [.int .i64 (lv), .map 1], .map (encM (AVal.int .i64) Vr.v m)] ?_ ?_
 refine qW 4 [(3, .ptr 2 0), (4, .ptr 3 0), (5, .ptr 4 0), (6, .ptr 5 0)] [.box [.int .i64 (lv), .map 1], .map (encM (AVal.int .i64) Vr.v m), .box [.ptr 0 0], t.bx, .box [.imm (l.map (AVal.int .i64))], .box [.int .i64 0, .str [], .int .i64 0, .full [], .full []]] ?_ ?_
 refine qSeq ?_ ?_
 refine qV 2 ?_ ?_
 refine vcallA (args := [.ptr 0 0, .agg [.int .i64 (t.kind), .str t.name, .int .i64 (t.n), .imm (t.names.map AVal.str), .imm (t.kids.map Ty.enc)]]) (hs := [.box [.int .i64 (lv), .map 1], .map (encM (AVal.int .i64) Vr.v m)]) (hs' := [.box [.int .i64 ((lv)), .map 1], .map (encM (AVal.int .i64) Vr.v m)]) (rest := [.box [.ptr 0 0], .box [.int .i64 (t.kind), .str t.name, .int .i64 (t.n), .imm (t.names.map AVal.str), .imm (t.kids.map Ty.enc)], .box [.imm (l.map (AVal.int .i64))], .box [.int .i64 0, .str [], .int .i64 0, .full [], .full []]]) (by kernel_rfl) (by kernel_rfl) (by kernel_rfl) (by kernel_rfl) (by kernel_rfl) (has_S t (lv) m (by first | omega | assumption) (by first | omega | assumption)) (by simp [AObj.belO, Ty.v]) (by simp [AObj.belO, Ty.v]) rfl (by simp [AObj.belO, Ty.v]) (by simp [AObj.belO, Ty.v]) (by kernel_rfl) ?_
 refine qR 1 [(3, .ptr 2 0), (4, .ptr 3 0), (5, .ptr 4 0), (6, .ptr 5 0), (11, .bool (!(hasB m t)))] [.box [.int .i64 ((lv)), .map 1], .map (encM (AVal.int .i64) Vr.v m), .box [.ptr 0 0], t.bx, .box [.imm (l.map (AVal.int .i64))], .box [.int .i64 0, .str [], .int .i64 0, .full [], .full []]] ?_ ?_
 by_cases hb1 : (hasB m t) = true
 · exfalso; exact hne (by assumption)
 refine qt (x := (!(hasB m t))) (congrArg not (Bool.eq_false_iff.2 hb1)) ?_ ?_
 refine qV 1 ?_ ?_
 refine vcallP (args := [.agg [.int .i64 (t.kind), .str t.name, .int .i64 (t.n), .imm (t.names.map AVal.str), .imm (t.kids.map Ty.enc)]]) (by kernel_rfl) (by kernel_rfl) (by kernel_rfl) (by kernel_rfl) (clone_spec t (by first | omega | assumption)) (by simp [Ty.v, frzL_app, Occ.v]) (by simp [Ty.v]) (by simp [Ty.v, ownsL_app]) ?_
 refine qR 1 [(6, .ptr 5 0)] [.box [.int .i64 ((lv)), .map 1], .map (encM (AVal.int .i64) Vr.v m), .box [.ptr 0 0], t.bx, .box [.imm (l.map (AVal.int .i64))], t.bx] ?_ ?_
 refine wRet (by kernel_rfl) ?_
 apply aR
 refine leafA (l := [.agg [.int .i64 (t.kind), .str t.name, .int .i64 (t.n), .imm (t.names.map AVal.str), .imm (t.kids.map Ty.enc)]]) (.inr rfl) (by kernel_rfl) (by simp [awrap, Ty.v, AVal.frz, frzL]) (by simp [awrap]) (by simp [awrap]) ?_ ?_
 refine Eq.trans (b := [.box [.int .i64 ((lv)), .map 1], .map (encM (AVal.int .i64) Vr.v m)]) (by kernel_rfl) ?_
 · rfl
 · simp [AObj.belO, Ty.v]
 iterate 8 kernel_rfl
end Go.Proofs.YtdikgijfekfaoaaGreatDoor
