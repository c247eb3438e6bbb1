/- Bindings of both packages. Condition: sizes that can be had. -/
import Derived.Test.YtdikgijfekfaoaaGreatDoorT11
import Derived.Test.YtdikgijfekfaoaaGreatDoorAbse
set_option linter.all false
set_option linter.unusedSimpArgs false
set_option linter.unusedVariables false
namespace Go.Proofs.YtdikgijfekfaoaaGreatDoor
open Go.Proofs.YtdikgijfekfaoaaGreatDoor.Abs
set_option maxRecDepth 20000
set_option maxHeartbeats 4000000
@[simp] theorem encM_bd (k : Nat) (l : List (Int × Ty)) : ((encM (AVal.int .i64) Ty.v l).all fun e => e.1.bel k && e.2.bel k) = true := by
  simp [encM, Ty.v, List.all_eq_true]
abbrev Bd := List (Int × Ty)
/-- What a binding answers. -/
def bdOk (m : Bd) (n : Int) (t : Ty) : Bool := match mget n m with
  | none => true
  | some o => o.beq t
def bdSm (m : Bd) : Prop := ∀ k t, mget k m = some t → t.sz < 100000000
noncomputable def c98 : Code := bodyOf Tryz.f98
theorem tset_spec (n : Int) (t a b : Ty) (m : Bd) (hs : t.sz < 100000000) (hm : bdSm m) : CallsA cx 98 [.int .i64 (n), Ty.v t, .ptr 3 0] [.map (encM (AVal.int .i64) Ty.v m), .box [.int .i64 (a.kind), .str a.name, .int .i64 (a.n), .imm (a.names.map AVal.str), .imm (a.kids.map Ty.enc)], .box [.int .i64 (b.kind), .str b.name, .int .i64 (b.n), .imm (b.names.map AVal.str), .imm (b.kids.map Ty.enc)], .box [.map 0]] (fun v h => v = (.bool (bdOk m n t)) ∧ h = [.map (encM (AVal.int .i64) Ty.v (mset n t m)), .box [.int .i64 (a.kind), .str a.name, .int .i64 (a.n), .imm (a.names.map AVal.str), .imm (a.kids.map Ty.enc)], .box [.int .i64 (b.kind), .str b.name, .int .i64 (b.n), .imm (b.names.map AVal.str), .imm (b.kids.map Ty.enc)], .box [.map 0]]) := by
 refine func_intro (cx := cx) 24 4 [(ResultVar.tmp 5)] Tryz.func98 rfl rfl rfl rfl rfl (by simp) ?_
 show wpA cx 24 4 (at_ c98 []) _ _ _
 refine qZ [(0, .int .i64 (n)), (1, Ty.v t), (2, .ptr 3 0)] [.map (encM (AVal.int .i64) Ty.v m), a.bx, b.bx, .box [.map 0]] ?_ ?_
 refine qW 2 [(0, .int .i64 (n)), (2, .ptr 3 0), (4, .ptr 4 0)] [.map (encM (AVal.int .i64) Ty.v m), a.bx, b.bx, .box [.map 0], t.bx] ?_ ?_
 refine qV 2 ?_ ?_
 rcases hm1 : mget (n) m with _ | x1
 refine qy (o_lookN (ok := true) (o := 0) (ek := (AVal.int .i64)) (ev := Ty.v) (l := m) (k := (n)) keyI hm1 (by kernel_rfl) ty83 ty3 rfl ty25 (by kernel_rfl)) ?_ ?_ ?_
 refine qR 6 [(0, .int .i64 (n)), (2, .ptr 3 0), (4, .ptr 4 0), (6, .ptr 5 0), (7, .bool false)] [.map (encM (AVal.int .i64) Ty.v m), a.bx, b.bx, .box [.map 0], t.bx, .box [.int .i64 0, .str [], .int .i64 0, .full [], .full []]] ?_ ?_
 refine qV 3 ?_ ?_
 refine qY (o_mset (o := 0) (ek := (AVal.int .i64)) (ev := Ty.v) (l := m) (k := (n)) (x := t) keyI (by kernel_rfl) ty83 ty3 rfl (by kernel_rfl) (by kernel_rfl)) ?_ ?_ ?_
 refine qN [(4, .ptr 4 0), (6, .ptr 5 0), (7, .bool false)] [.map (encM (AVal.int .i64) Ty.v (mset (n) t m)), a.bx, b.bx, .box [.map 0], t.bx, .box [.int .i64 0, .str [], .int .i64 0, .full [], .full []]] ?_ ?_
 refine qU 8 [(5, .bool true)] ?_ ?_
 refine wRet (by kernel_rfl) ?_
 refine leafA (l := [.bool true]) (.inr rfl) (by kernel_rfl) (by simp [awrap, bdOk, *]) (by simp [awrap]) (by simp [awrap]) ?_ ?_
 refine Eq.trans (b := [.map (encM (AVal.int .i64) Ty.v (mset (n) t m)), .box [.int .i64 (a.kind), .str a.name, .int .i64 (a.n), .imm (a.names.map AVal.str), .imm (a.kids.map Ty.enc)], .box [.int .i64 (b.kind), .str b.name, .int .i64 (b.n), .imm (b.names.map AVal.str), .imm (b.kids.map Ty.enc)], .box [.map 0]]) (by kernel_rfl) ?_
 · simp
 · simp [AObj.belO, hpV, Ty.v]
 iterate 8 kernel_rfl
 refine qy (o_lookS (ok := true) (o := 0) (ek := (AVal.int .i64)) (ev := Ty.v) (l := m) (k := (n)) (x := x1) keyI hm1 (by kernel_rfl) ty83 ty3 rfl ty25 (by kernel_rfl)) ?_ ?_ ?_
 refine qR 6 [(0, .int .i64 (n)), (2, .ptr 3 0), (4, .ptr 4 0), (6, .ptr 5 0), (7, .bool true)] [.map (encM (AVal.int .i64) Ty.v m), a.bx, b.bx, .box [.map 0], t.bx, x1.bx] ?_ ?_
 refine qV 3 ?_ ?_
 refine qY (o_mset (o := 0) (ek := (AVal.int .i64)) (ev := Ty.v) (l := m) (k := (n)) (x := t) keyI (by kernel_rfl) ty83 ty3 rfl (by kernel_rfl) (by kernel_rfl)) ?_ ?_ ?_
 refine qN [(4, .ptr 4 0), (6, .ptr 5 0), (7, .bool true)] [.map (encM (AVal.int .i64) Ty.v (mset (n) t m)), a.bx, b.bx, .box [.map 0], t.bx, x1.bx] ?_ ?_
 refine qV 5 ?_ ?_
 refine vcallP (args := [.agg [.int .i64 (x1.kind), .str x1.name, .int .i64 (x1.n), .imm (x1.names.map AVal.str), .imm (x1.kids.map Ty.enc)], .agg [.int .i64 (t.kind), .str t.name, .int .i64 (t.n), .imm (t.names.map AVal.str), .imm (t.kids.map Ty.enc)]]) (by kernel_rfl) (by kernel_rfl) (by kernel_rfl) (by kernel_rfl) (tEqual_spec x1 t (by first | omega | (exact hm _ _ (by assumption)))) (by simp [Ty.v, frzL_app, Occ.v]) (by simp [Ty.v]) (by simp [Ty.v, ownsL_app]) ?_
 refine qR 2 [(5, .bool (x1.beq t))] [.map (encM (AVal.int .i64) Ty.v (mset (n) t m)), a.bx, b.bx, .box [.map 0], t.bx, x1.bx] ?_ ?_
 refine wRet (by kernel_rfl) ?_
 refine leafA (l := [.bool (x1.beq t)]) (.inr rfl) (by kernel_rfl) (by simp [awrap, bdOk, *]) (by simp [awrap]) (by simp [awrap]) ?_ ?_
 refine Eq.trans (b := [.map (encM (AVal.int .i64) Ty.v (mset (n) t m)), .box [.int .i64 (a.kind), .str a.name, .int .i64 (a.n), .imm (a.names.map AVal.str), .imm (a.kids.map Ty.enc)], .box [.int .i64 (b.kind), .str b.name, .int .i64 (b.n), .imm (b.names.map AVal.str), .imm (b.kids.map Ty.enc)], .box [.map 0]]) (by kernel_rfl) ?_
 · simp
 · simp [AObj.belO, hpV, Ty.v]
 iterate 12 kernel_rfl
/-- The fields of one record that another lacks, the first k looked at. -/
def woL (t u : Ty) (k : Nat) : List (List UInt8 × Ty) := ((t.names.zip t.kids).take k).filter fun p => decide (idxS u.names p.1 < 0)
def woT (t u : Ty) (k : Nat) : Ty := .mk 5 [] t.n ((woL t u k).map Prod.fst) ((woL t u k).map Prod.snd)
theorem woL_len (t u : Ty) (k : Nat) : (woL t u k).length ≤ k := by
  refine Nat.le_trans (List.length_filter_le _ _) ?_
  rw [List.length_take]; omega
theorem woL_succ {t u : Ty} {k : Nat} (h : k < t.names.length) (hn : t.names.length = t.kids.length) : woL t u (k + 1) = woL t u k ++ (if idxS u.names (t.names.getD k []) < 0 then [(t.names.getD k [], t.kids.getD k Ty.zero)] else []) := by
  have h1 : k < t.kids.length := by omega
  have h2 : k < (t.names.zip t.kids).length := by rw [List.length_zip]; omega
  have e : (t.names.zip t.kids)[k] = (t.names.getD k [], t.kids.getD k Ty.zero) := by
    rw [List.getElem_zip, List.getD_eq_getElem?_getD, List.getD_eq_getElem?_getD, List.getElem?_eq_getElem h, List.getElem?_eq_getElem h1]; rfl
  rw [woL, List.take_succ_eq_append_getElem h2, List.filter_append, e]
  congr 1
  by_cases hc : idxS u.names (t.names.getD k []) < 0
  · rw [List.filter_cons, if_pos (decide_eq_true hc), if_pos hc]; rfl
  · rw [List.filter_cons, if_neg (fun h => hc (of_decide_eq_true h)), if_neg hc]; rfl
theorem woT_pos {t u : Ty} {k : Nat} (h : k < t.names.length) (hn : t.names.length = t.kids.length) (hc : idxS u.names (t.names.getD k []) < 0) : Ty.mk 5 [] t.n ((woT t u k).names ++ [t.names.getD k []]) ((woT t u k).kids ++ [t.kids.getD k Ty.zero]) = woT t u (k + 1) := by
  show Ty.mk 5 [] t.n ((woL t u k).map Prod.fst ++ [t.names.getD k []]) ((woL t u k).map Prod.snd ++ [t.kids.getD k Ty.zero]) = Ty.mk 5 [] t.n ((woL t u (k + 1)).map Prod.fst) ((woL t u (k + 1)).map Prod.snd)
  rw [woL_succ h hn, if_pos hc, List.map_append, List.map_append]; rfl
theorem woT_neg {t u : Ty} {k : Nat} (h : k < t.names.length) (hn : t.names.length = t.kids.length) (hc : ¬ idxS u.names (t.names.getD k []) < 0) : woT t u k = woT t u (k + 1) := by
  simp only [woT, woL_succ h hn, if_neg hc, List.append_nil]
theorem woT_k (t u : Ty) (k : Nat) : (woT t u k).kind = 5 := rfl
theorem woT_m (t u : Ty) (k : Nat) : (woT t u k).name = [] := rfl
theorem woT_n (t u : Ty) (k : Nat) : (woT t u k).n = t.n := rfl
theorem woT_nl (t u : Ty) (k : Nat) : (woT t u k).names.length ≤ k := by simpa [woT, Ty.names] using woL_len t u k
theorem woT_kl (t u : Ty) (k : Nat) : (woT t u k).kids.length ≤ k := by simpa [woT, Ty.kids] using woL_len t u k
noncomputable def c102 : Code := bodyOf Tryz.f102
theorem without_spec (t u : Ty) (hs : t.sz < 100000000) (hu : u.sz < 100000000) (hnk : t.names.length = t.kids.length) : CallsP cx 102 [Ty.v t, Ty.v u] (Ty.v (woT t u t.names.length)) := by
 have hz1 := sz_names t
 have hz2 := sz_kids t
 have hz3 := sz_names u
 refine func_intro (cx := cx) 47 0 [(ResultVar.cell 4 25)] Tryz.func102 rfl rfl rfl rfl rfl (by simp) ?_
 show wpA cx 47 0 (at_ c102 []) _ _ _
 refine qZ [(0, Ty.v t), (1, Ty.v u)] [] ?_ ?_
 refine qW 3 [(2, .ptr 0 0), (3, .ptr 1 0), (4, .ptr 2 0)] [t.bx, u.bx, .box [.int .i64 0, .str [], .int .i64 0, .full [], .full []]] ?_ ?_
 refine qW 5 [(2, .ptr 0 0), (3, .ptr 1 0), (4, .ptr 2 0), (5, .ptr 3 0)] [t.bx, u.bx, .box [.int .i64 0, .str [], .int .i64 0, .full [], .full []], .box [.int .i64 5, .str [], .int .i64 (t.n), .full [], .full []]] ?_ ?_
 refine wOwnB 3 3 1 (cs := [.int .i64 5, .str [], .int .i64 (t.n), .full [], .full []]) [.int .i64 5, .str [], .int .i64 (t.n), .own 4 0 0, .full []] (by decide) (by kernel_rfl) (by kernel_rfl) (by kernel_rfl) ?_
 refine wOwnB 3 4 5 (cs := [.int .i64 5, .str [], .int .i64 (t.n), .own 4 0 0, .full []]) [.int .i64 5, .str [], .int .i64 (t.n), .own 4 0 0, .own 5 0 0] (by decide) (by kernel_rfl) (by kernel_rfl) (by kernel_rfl) ?_
 refine qZ [(2, .ptr 0 0), (3, .ptr 1 0), (4, .ptr 2 0), (5, .ptr 3 0)] [t.bx, u.bx, .box [.int .i64 0, .str [], .int .i64 0, .full [], .full []], .box [.int .i64 5, .str [], .int .i64 (t.n), .own 4 0 0, .own 5 0 0], .arr 1 (([] : List (List UInt8)).map AVal.str) 0, .arr 5 (([] : List (Ty)).map Ty.enc) 0] ?_ ?_
 refine qSeq ?_ ?_
 refine qU 1 [(2, .ptr 0 0), (3, .ptr 1 0), (4, .ptr 2 0), (5, .ptr 3 0), (6, .int .i64 0)] ?_ ?_
 refine qB 0 ?_ ?_ ?_
 refine wLoop (σ := (Nat × Ty)) (fun ⟨k, o⟩ => [(2, .ptr 0 0), (3, .ptr 1 0), (4, .ptr 2 0), (5, .ptr 3 0), (6, .int .i64 ((k : Nat) : Int))]) (fun ⟨k, o⟩ => [.box [.int .i64 (t.kind), .str t.name, .int .i64 (t.n), .imm (t.names.map AVal.str), .imm (t.kids.map Ty.enc)], .box [.int .i64 (u.kind), .str u.name, .int .i64 (u.n), .imm (u.names.map AVal.str), .imm (u.kids.map Ty.enc)], .box [.int .i64 0, .str [], .int .i64 0, .full [], .full []], .box [.int .i64 5, .str [], .int .i64 (t.n), .own 4 0 o.names.length, .own 5 0 o.kids.length], .arr 1 (o.names.map AVal.str) 0, .arr 5 (o.kids.map Ty.enc) 0]) (fun ⟨k, o⟩ => k ≤ t.names.length ∧ o = woT t u k) (fun ⟨k, o⟩ => t.names.length - k) (0, woT t u 0) (by kernel_rfl) (by exact ⟨Nat.zero_le _, rfl⟩) ⟨⟨(by kernel_rfl), (by kernel_rfl), (by kernel_rfl), (by kernel_rfl), (by kernel_rfl), trivial⟩, by simp [BelL, AVal.bel], by simp, (by kernel_rfl), by simp [AObj.belO, belL_app, Ty.enc_v]⟩ ?_
 rintro ⟨k, o⟩ ⟨hk, ho⟩
 have hol : o.names.length ≤ k := by rw [ho]; exact woT_nl t u k
 have hok : o.kids.length ≤ k := by rw [ho]; exact woT_kl t u k
 refine qZ [(2, .ptr 0 0), (3, .ptr 1 0), (4, .ptr 2 0), (5, .ptr 3 0), (6, nI k)] [t.bx, u.bx, .box [.int .i64 0, .str [], .int .i64 0, .full [], .full []], .box [.int .i64 5, .str [], .int .i64 (t.n), .own 4 0 o.names.length, .own 5 0 o.kids.length], .arr 1 (o.names.map AVal.str) 0, .arr 5 (o.kids.map Ty.enc) 0] ?_ ?_
 refine qSeq ?_ ?_
 refine qV 3 ?_ ?_
 refine qy (o_lenmap (l := t.names) (enc := AVal.str) (by kernel_rfl) ty22) ?_ ?_ ?_
 refine qR 1 [(2, .ptr 0 0), (3, .ptr 1 0), (4, .ptr 2 0), (5, .ptr 3 0), (6, nI k), (14, .bool (decide (((k : Nat) : Int) < ((t.names.length : Nat) : Int))))] [t.bx, u.bx, .box [.int .i64 0, .str [], .int .i64 0, .full [], .full []], .box [.int .i64 5, .str [], .int .i64 (t.n), .own 4 0 o.names.length, .own 5 0 o.kids.length], .arr 1 (o.names.map AVal.str) 0, .arr 5 (o.kids.map Ty.enc) 0] ?_ ?_
 by_cases hb1 : ((k : Nat) : Int) < ((t.names.length : Nat) : Int)
 refine qt (decide_eq_true hb1) ?_ ?_
 refine qK ?_ ?_
 refine qz [(2, .ptr 0 0), (3, .ptr 1 0), (4, .ptr 2 0), (5, .ptr 3 0), (6, nI k)] ?_ ?_
 refine qSeq ?_ ?_
 refine qB 1 ?_ ?_ ?_
 refine qSeq ?_ ?_
 refine wDrw cxM (by kernel_rfl) extThen (dstart ?_)
 refine qu 5 ?_ ?_
 refine qd (o_ixmap (k := .i64) (l := t.names) (enc := AVal.str) (i := ((k : Nat) : Int)) [] (by kernel_rfl) ty22 ty9 (fun _ => rfl) (by omega) (by omega)) ?_ ?_ ?_ ?_
 refine qu 1 ?_ ?_
 refine dcallP (args := [.imm (u.names.map AVal.str), .str (t.names.getD k [])]) (by kernel_rfl) (by kernel_rfl) (by kernel_rfl) (by kernel_rfl) (by kernel_rfl) (rindex_spec u.names (t.names.getD k []) (by omega)) (by intro _; simp [Ty.v, frzL_app, Occ.v]) (by simp [Ty.v]) (by simp [Ty.v, ownsL_app]) ?_
 refine qu 1 ?_ ?_
 refine dend (by kernel_rfl) ⟨(by kernel_rfl), ?_⟩
 refine AThen_normal ?_
 refine qZ [(2, .ptr 0 0), (3, .ptr 1 0), (4, .ptr 2 0), (5, .ptr 3 0), (6, nI k), (25, .bool (decide ((idxS u.names (t.names.getD k [])) < 0)))] [t.bx, u.bx, .box [.int .i64 0, .str [], .int .i64 0, .full [], .full []], .box [.int .i64 5, .str [], .int .i64 (t.n), .own 4 0 o.names.length, .own 5 0 o.kids.length], .arr 1 (o.names.map AVal.str) 0, .arr 5 (o.kids.map Ty.enc) 0] ?_ ?_
 by_cases hb2 : (idxS u.names (t.names.getD k [])) < 0
 refine qt (decide_eq_true hb2) ?_ ?_
 refine qSeq ?_ ?_
 refine wDrw cxM (by kernel_rfl) extThen (dstart ?_)
 refine qu 5 ?_ ?_
 refine qd (o_ixmap (k := .i64) (l := t.names) (enc := AVal.str) (i := ((k : Nat) : Int)) [] (by kernel_rfl) ty22 ty9 (fun _ => rfl) (by omega) (by omega)) ?_ ?_ ?_ ?_
 refine qu 2 ?_ ?_
 refine qD (o_appmap (o := 4) (len := o.names.length) (l := o.names) (xs := [(t.names.getD k [])]) (enc := AVal.str) (sz := 1) (fr := 0) (x := (.full [.str (t.names.getD k [])])) (by kernel_rfl) ty22 ty9 ty22 rfl (by kernel_rfl) rfl (by first | rfl | simp) (by kernel_rfl) ⟨by decide, by kernel_rfl⟩ (fun _ => rfl) (by simp only [List.length_append, List.length_cons, List.length_nil]; omega) (by simp only [List.length_append, List.length_cons, List.length_nil]; omega)) ?_ ?_ ?_ ?_
 refine qu 2 ?_ ?_
 refine dend (by kernel_rfl) ⟨(by kernel_rfl), ?_⟩
 refine AThen_normal ?_
 refine qZ [(2, .ptr 0 0), (3, .ptr 1 0), (4, .ptr 2 0), (5, .ptr 3 0), (6, nI k)] [t.bx, u.bx, .box [.int .i64 0, .str [], .int .i64 0, .full [], .full []], .box [.int .i64 5, .str [], .int .i64 (t.n), .own 4 0 (o.names ++ [(t.names.getD k [])]).length, .own 5 0 o.kids.length], .arr 1 ((o.names ++ [(t.names.getD k [])]).map AVal.str) 0, .arr 5 (o.kids.map Ty.enc) 0] ?_ ?_
 refine wDrw cxM (by kernel_rfl) (extIn extThen) (dstart ?_)
 refine qu 5 ?_ ?_
 refine qd ((o_ixmap (k := .i64) (l := t.kids) (enc := Ty.enc) (i := ((k : Nat) : Int)) Ty.zero (by kernel_rfl) ty23 ty25 ty_size (by omega) (by omega)).trans (congrArg (fun cs => some (AVal.pimm cs 0, _)) (ty_cells (t.kids.getD k Ty.zero)))) ?_ ?_ ?_ ?_
 refine qu 2 ?_ ?_
 refine qD (o_appmap (o := 5) (len := o.kids.length) (l := o.kids) (xs := [(t.kids.getD k Ty.zero)]) (enc := Ty.enc) (sz := 5) (fr := 0) (x := (.full [.agg [.int .i64 ((t.kids.getD k Ty.zero).kind), .str (t.kids.getD k Ty.zero).name, .int .i64 ((t.kids.getD k Ty.zero).n), .imm ((t.kids.getD k Ty.zero).names.map AVal.str), .imm ((t.kids.getD k Ty.zero).kids.map Ty.enc)]])) (by kernel_rfl) ty23 ty25 ty23 rfl (by kernel_rfl) rfl (by first | rfl | simp) (Eq.trans (b := some [Ty.v (t.kids.getD k Ty.zero)]) (by kernel_rfl) (by simp [Ty.enc_v])) ⟨by decide, by kernel_rfl⟩ ty_ok (by simp only [List.length_append, List.length_cons, List.length_nil]; omega) (by simp only [List.length_append, List.length_cons, List.length_nil]; omega)) ?_ ?_ ?_ ?_
 refine qu 2 ?_ ?_
 refine dend (by kernel_rfl) ⟨(by kernel_rfl), ?_⟩
 refine AIn_normal ?_
 refine AThen_normal ?_
 refine qZ [(2, .ptr 0 0), (3, .ptr 1 0), (4, .ptr 2 0), (5, .ptr 3 0), (6, nI k)] [t.bx, u.bx, .box [.int .i64 0, .str [], .int .i64 0, .full [], .full []], .box [.int .i64 5, .str [], .int .i64 (t.n), .own 4 0 (o.names ++ [(t.names.getD k [])]).length, .own 5 0 (o.kids ++ [(t.kids.getD k Ty.zero)]).length], .arr 1 ((o.names ++ [(t.names.getD k [])]).map AVal.str) 0, .arr 5 ((o.kids ++ [(t.kids.getD k Ty.zero)]).map Ty.enc) 0] ?_ ?_
 refine qo ?_ ?_
 refine qr 1 ?_ ?_
 refine qy (o_add (a := ((k : Nat) : Int)) (b := 1) (by kernel_rfl) (by omega) (by omega)) ?_ ?_ ?_
 refine qr 1 ?_ ?_
 refine qe ?_ ?_
 refine AThen_normal ⟨(k + 1, (Ty.mk 5 [] t.n (o.names ++ [t.names.getD k []]) (o.kids ++ [t.kids.getD k Ty.zero]))), ?_, ?_, ⟨⟨(by kernel_rfl), (by kernel_rfl), (by kernel_rfl), (by kernel_rfl), (by kernel_rfl), trivial⟩, by simp [BelL, AVal.bel], by simp, (by kernel_rfl), by simp [AObj.belO, belL_app, Ty.enc_v]⟩⟩
 · try dsimp only
   omega
 rotate_left
 iterate 28 kernel_rfl
 refine qf (decide_eq_false hb2) ?_ ?_
 refine qk ?_ ?_
 refine AIn_normal ?_
 refine AThen_normal ?_
 refine qz [(2, .ptr 0 0), (3, .ptr 1 0), (4, .ptr 2 0), (5, .ptr 3 0), (6, nI k)] ?_ ?_
 refine qo ?_ ?_
 refine qr 1 ?_ ?_
 refine qy (o_add (a := ((k : Nat) : Int)) (b := 1) (by kernel_rfl) (by omega) (by omega)) ?_ ?_ ?_
 refine qr 1 ?_ ?_
 refine qe ?_ ?_
 refine AThen_normal ⟨(k + 1, o), ?_, ?_, ⟨⟨(by kernel_rfl), (by kernel_rfl), (by kernel_rfl), (by kernel_rfl), (by kernel_rfl), trivial⟩, by simp [BelL, AVal.bel], by simp, (by kernel_rfl), by simp [AObj.belO, belL_app, Ty.enc_v]⟩⟩
 · try dsimp only
   omega
 rotate_left
 iterate 23 kernel_rfl
 refine qf (decide_eq_false hb1) ?_ ?_
 refine wExit 0 (by kernel_rfl) (by kernel_rfl) ?_
 refine AThen_exit ?_
 refine AThen_exit ?_
 refine AIn_exit ?_
 refine AThen_normal ?_
 refine qz [(4, .ptr 2 0), (5, .ptr 3 0)] ?_ ?_
 refine qW 2 [(4, .ptr 2 0)] [t.bx, u.bx, .box [.int .i64 5, .str [], .int .i64 (t.n), .own 4 0 o.names.length, .own 5 0 o.kids.length], .box [.int .i64 5, .str [], .int .i64 (t.n), .own 4 0 o.names.length, .own 5 0 o.kids.length], .arr 1 (o.names.map AVal.str) 0, .arr 5 (o.kids.map Ty.enc) 0] ?_ ?_
 refine wRet (by kernel_rfl) ?_
 refine leafP (l := [.agg [.int .i64 5, .str [], .int .i64 (t.n), .own 4 0 o.names.length, .own 5 0 o.kids.length]]) (.inr rfl) (by kernel_rfl) ?_
 · obtain rfl : k = t.names.length := by omega
   subst ho
   simp [Ty.v, AVal.frz, frzL, awrap, woT_n, woT_k, woT_m]
 iterate 17 kernel_rfl
 all_goals
  try dsimp only
  refine ⟨by omega, ?_⟩
  first | (rw [ho]; exact woT_neg (by omega) hnk (by assumption)) | (rw [ho]; exact woT_pos (by omega) hnk (by assumption))
def rset (m : Bd) (n : Int) (t : Ty) : Bd := match mget n m with
  | none => m ++ [(n, t)]
  | some _ => m
def hpB (m : Bd) : AHeap := [.box [.own 1 0 m.length, .own 2 0 m.length], .arr 1 ((m.map Prod.fst).map (AVal.int .i64)) 0, .arr 5 ((m.map Prod.snd).map Ty.enc) 0]
theorem mget_at {n : Int} : ∀ (m : Bd) (k : Nat), (∀ i, i < k → ¬ (m.map Prod.fst).getD i 0 = n) → k < m.length → (m.map Prod.fst).getD k 0 = n → mget n m = some ((m.map Prod.snd).getD k Ty.zero)
  | [], k, _, h, _ => by simp at h
  | p :: m, 0, _, _, h => by
    simp only [List.map_cons, List.getD_cons_zero] at h ⊢
    rw [mget, if_pos h.symm]
  | p :: m, k + 1, ha, hk, h => by
    have h0 := ha 0 (by omega)
    simp only [List.map_cons, List.getD_cons_zero, List.getD_cons_succ] at h h0 ⊢
    rw [mget, if_neg (fun e => h0 e.symm)]
    exact mget_at m k (fun i hi => by have := ha (i + 1) (by omega); simpa only [List.map_cons, List.getD_cons_succ] using this) (by simpa using hk) h
theorem mget_at0 {n : Int} {m : Bd} {k : Nat} (ha : ∀ i, i < k → ¬ (m.map Prod.fst).getD i 0 = n) (hk : k < m.length) (h : (m.map Prod.fst).getD (0 + k) 0 = n) : mget n m = some ((m.map Prod.snd).getD (0 + k) Ty.zero) := by
  rw [Nat.zero_add] at h ⊢
  exact mget_at m k ha hk h
theorem mget_no {n : Int} : ∀ (m : Bd), (∀ i, i < m.length → ¬ (m.map Prod.fst).getD i 0 = n) → mget n m = none
  | [], _ => rfl
  | p :: m, ha => by
    have h0 := ha 0 (by simp)
    simp only [List.map_cons, List.getD_cons_zero] at h0
    rw [mget, if_neg (fun e => h0 e.symm)]
    exact mget_no m (fun i hi => by have := ha (i + 1) (by simpa using hi); simpa only [List.map_cons, List.getD_cons_succ] using this)
def bdAll (m : Bd) : Prop := m.length < 100000000 ∧ ∀ i, ((m.map Prod.snd).getD i Ty.zero).sz < 100000000
noncomputable def c101 : Code := bodyOf Tryz.f101
theorem rset_spec (n : Int) (t : Ty) (m : Bd) (hs : t.sz < 100000000) (hm : bdAll m) : CallsA cx 101 [.ptr 0 0, .int .i64 (n), Ty.v t] (hpB m) (fun v h => v = (.bool (bdOk m n t)) ∧ h = hpB (rset m n t)) := by
 obtain ⟨hml, hmt⟩ := hm
 refine func_intro (cx := cx) 56 3 [(ResultVar.tmp 6)] Tryz.func101 rfl rfl rfl rfl rfl (by simp) ?_
 show wpA cx 56 3 (at_ c101 []) _ _ _
 refine qZ [(0, .ptr 0 0), (1, .int .i64 (n)), (2, Ty.v t)] [.box [.own 1 0 m.length, .own 2 0 m.length], .arr 1 ((m.map Prod.fst).map (AVal.int .i64)) 0, .arr 5 ((m.map Prod.snd).map Ty.enc) 0] ?_ ?_
 refine qW 2 [(0, .ptr 0 0), (1, .int .i64 (n)), (5, .ptr 3 0)] [.box [.own 1 0 m.length, .own 2 0 m.length], .arr 1 ((m.map Prod.fst).map (AVal.int .i64)) 0, .arr 5 ((m.map Prod.snd).map Ty.enc) 0, t.bx] ?_ ?_
 refine qSeq ?_ ?_
 refine qU 1 [(0, .ptr 0 0), (1, .int .i64 (n)), (5, .ptr 3 0), (7, .int .i64 0)] ?_ ?_
 refine qB 0 ?_ ?_ ?_
 refine wLoop (σ := Nat) (fun k => [(0, .ptr 0 0), (1, .int .i64 (n)), (5, .ptr 3 0), (7, .int .i64 ((k : Nat) : Int))]) (fun k => [.box [.own 1 0 m.length, .own 2 0 m.length], .arr 1 ((m.map Prod.fst).map (AVal.int .i64)) 0, .arr 5 ((m.map Prod.snd).map Ty.enc) 0, .box [.int .i64 (t.kind), .str t.name, .int .i64 (t.n), .imm (t.names.map AVal.str), .imm (t.kids.map Ty.enc)]]) (fun k => k ≤ m.length ∧ ∀ i, i < k → ¬ (m.map Prod.fst).getD i 0 = n) (fun k => m.length - k) 0 (by kernel_rfl) (by simp) ⟨⟨(by kernel_rfl), (by kernel_rfl), (by kernel_rfl), (by kernel_rfl), trivial⟩, by simp [BelL, AVal.bel], by simp, (by kernel_rfl), by simp [AObj.belO, -List.map_map]⟩ ?_
 rintro k ⟨hk, ha⟩
 refine qSeq ?_ ?_
 refine qV 5 ?_ ?_
 refine qy (o_lenown (o := 1) (off := 0) (len := m.length) (sz := 1) (es := ((m.map Prod.fst).map (AVal.int .i64))) (fr := 0) (by kernel_rfl) ty26 (by kernel_rfl) (by simp)) ?_ ?_ ?_
 refine qR 1 [(0, .ptr 0 0), (1, .int .i64 (n)), (5, .ptr 3 0), (7, nI k), (14, .bool (decide (((k : Nat) : Int) < ((m.length : Nat) : Int))))] [.box [.own 1 0 m.length, .own 2 0 m.length], .arr 1 ((m.map Prod.fst).map (AVal.int .i64)) 0, .arr 5 ((m.map Prod.snd).map Ty.enc) 0, t.bx] ?_ ?_
 by_cases hb1 : ((k : Nat) : Int) < ((m.length : Nat) : Int)
 refine qt (decide_eq_true hb1) ?_ ?_
 refine qK ?_ ?_
 refine qz [(0, .ptr 0 0), (1, .int .i64 (n)), (5, .ptr 3 0), (7, nI k)] ?_ ?_
 refine qSeq ?_ ?_
 refine qB 1 ?_ ?_ ?_
 refine qV 5 ?_ ?_
 refine qy (o_ixown (k := .i64) (i := ((k : Nat) : Int)) (o := 1) (off := 0) (len := m.length) (sz := 1) (fr := 0) (es := ((m.map Prod.fst).map (AVal.int .i64))) (by kernel_rfl) ty26 ty3 (by kernel_rfl) rfl (by simp) (by first | omega | exact hmt _ | (simp only [List.length_map]; omega)) (by first | omega | exact hmt _ | (simp only [List.length_map]; omega))) ?_ ?_ ?_
 refine qy (o_ldown (t := 3) (o := 1) (idx := (0 + k)) (off := 0) (k := (((m.map Prod.fst).map (AVal.int .i64)).length)) (sz := 1) (fr := 0) (es := ((m.map Prod.fst).map (AVal.int .i64))) (x := (AVal.int .i64) ((m.map Prod.fst).getD (0 + k) 0)) (v := .int .i64 (((m.map Prod.fst).getD (0 + k) 0))) (by kernel_rfl) (by kernel_rfl) (by simp) (get_map _ _ _ _ (by first | omega | exact hmt _ | (simp only [List.length_map]; omega))) (by kernel_rfl)) ?_ ?_ ?_
 refine qR 2 [(0, .ptr 0 0), (1, .int .i64 (n)), (5, .ptr 3 0), (7, nI k), (25, .bool ((((m.map Prod.fst).getD (0 + k) 0)) == (n)))] [.box [.own 1 0 m.length, .own 2 0 m.length], .arr 1 ((m.map Prod.fst).map (AVal.int .i64)) 0, .arr 5 ((m.map Prod.snd).map Ty.enc) 0, t.bx] ?_ ?_
 by_cases hb2 : (((m.map Prod.fst).getD (0 + k) 0)) = (n)
 refine qt (beq_iff_eq.2 hb2) ?_ ?_
 refine qSeq ?_ ?_
 refine wDrw cxM (by kernel_rfl) extThen (dstart ?_)
 refine qu 5 ?_ ?_
 refine qd (o_ixown (k := .i64) (i := ((k : Nat) : Int)) (o := 2) (off := 0) (len := m.length) (sz := 5) (fr := 0) (es := ((m.map Prod.snd).map Ty.enc)) (by kernel_rfl) ty23 ty25 (by kernel_rfl) rfl (by simp) (by first | omega | exact hmt _ | (simp only [List.length_map]; omega)) (by first | omega | exact hmt _ | (simp only [List.length_map]; omega))) ?_ ?_ ?_ ?_
 refine qd (o_ldown (t := 25) (o := 2) (idx := (0 + k)) (off := 0) (k := (((m.map Prod.snd).map Ty.enc).length)) (sz := 5) (fr := 0) (es := ((m.map Prod.snd).map Ty.enc)) (x := Ty.enc ((m.map Prod.snd).getD (0 + k) Ty.zero)) (v := .agg [.int .i64 (((m.map Prod.snd).getD (0 + k) Ty.zero).kind), .str ((m.map Prod.snd).getD (0 + k) Ty.zero).name, .int .i64 (((m.map Prod.snd).getD (0 + k) Ty.zero).n), .imm (((m.map Prod.snd).getD (0 + k) Ty.zero).names.map AVal.str), .imm (((m.map Prod.snd).getD (0 + k) Ty.zero).kids.map Ty.enc)]) (by kernel_rfl) (by kernel_rfl) (by simp) (get_map _ _ _ _ (by first | omega | exact hmt _ | (simp only [List.length_map]; omega))) (by rw [ty_cells]; exact (by kernel_rfl))) ?_ ?_ ?_ ?_
 refine qu 1 ?_ ?_
 refine dcallP (args := [.agg [.int .i64 (((m.map Prod.snd).getD (0 + k) Ty.zero).kind), .str ((m.map Prod.snd).getD (0 + k) Ty.zero).name, .int .i64 (((m.map Prod.snd).getD (0 + k) Ty.zero).n), .imm (((m.map Prod.snd).getD (0 + k) Ty.zero).names.map AVal.str), .imm (((m.map Prod.snd).getD (0 + k) Ty.zero).kids.map Ty.enc)], .agg [.int .i64 (t.kind), .str t.name, .int .i64 (t.n), .imm (t.names.map AVal.str), .imm (t.kids.map Ty.enc)]]) (by kernel_rfl) (by kernel_rfl) (by kernel_rfl) (by kernel_rfl) (by kernel_rfl) (rEqual_spec ((m.map Prod.snd).getD (0 + k) Ty.zero) t (by first | omega | exact hmt _ | (simp only [List.length_map]; omega))) (by intro _; simp [Ty.v, frzL_app, Occ.v]) (by simp [Ty.v]) (by simp [Ty.v, ownsL_app]) ?_
 refine qu 1 ?_ ?_
 refine dend (by kernel_rfl) ⟨(by kernel_rfl), ?_⟩
 refine AThen_normal ?_
 refine qZ [(6, .bool (((m.map Prod.snd).getD (0 + k) Ty.zero).beq t))] [.box [.own 1 0 m.length, .own 2 0 m.length], .arr 1 ((m.map Prod.fst).map (AVal.int .i64)) 0, .arr 5 ((m.map Prod.snd).map Ty.enc) 0, t.bx] ?_ ?_
 refine wRet (by kernel_rfl) ?_
 apply iR
 apply aR
 apply aR
 apply iR
 apply aR
 refine leafA (l := [.bool (((m.map Prod.snd).getD (0 + k) Ty.zero).beq t)]) (.inr rfl) (by kernel_rfl) (by first | (rw [bdOk, mget_at0 ha (by omega) (by assumption)]; simp [awrap]; done) | (rw [bdOk, mget_at0 ha (by omega) (by assumption)]; done) | (rw [bdOk, mget_no m (fun i hi => ha i (by omega))]; simp [awrap])) (by simp [awrap]) (by simp [awrap]) ?_ ?_
 refine Eq.trans (b := [.box [.own 1 0 m.length, .own 2 0 m.length], .arr 1 ((m.map Prod.fst).map (AVal.int .i64)) 0, .arr 5 ((m.map Prod.snd).map Ty.enc) 0]) (by kernel_rfl) ?_
 rotate_left
 · simp [AObj.belO, hpB, Ty.v, -List.map_map]
 iterate 12 kernel_rfl
 refine qf (beq_eq_false_iff_ne.2 hb2) ?_ ?_
 refine qk ?_ ?_
 refine AIn_normal ?_
 refine AThen_normal ?_
 refine qz [(0, .ptr 0 0), (1, .int .i64 (n)), (5, .ptr 3 0), (7, nI k)] ?_ ?_
 refine qo ?_ ?_
 refine qr 1 ?_ ?_
 refine qy (o_add (a := ((k : Nat) : Int)) (b := 1) (by kernel_rfl) (by first | omega | exact hmt _ | (simp only [List.length_map]; omega)) (by first | omega | exact hmt _ | (simp only [List.length_map]; omega))) ?_ ?_ ?_
 refine qr 1 ?_ ?_
 refine qe ?_ ?_
 refine AThen_normal ⟨k + 1, ?_, ?_, ⟨⟨(by kernel_rfl), (by kernel_rfl), (by kernel_rfl), (by kernel_rfl), trivial⟩, by simp [BelL, AVal.bel], by simp, (by kernel_rfl), by simp [AObj.belO, -List.map_map]⟩⟩
 · omega
 · refine ⟨by omega, fun i hi => ?_⟩
   rcases Nat.lt_succ_iff_lt_or_eq.1 hi with h | h
   · exact ha i h
   · rw [h]; have hq : ¬ (m.map Prod.fst).getD (0 + k) 0 = n := by assumption
     rw [Nat.zero_add] at hq; exact hq
 iterate 21 kernel_rfl
 refine qf (decide_eq_false hb1) ?_ ?_
 refine wExit 0 (by kernel_rfl) (by kernel_rfl) ?_
 refine AThen_exit ?_
 refine AThen_exit ?_
 refine AIn_exit ?_
 refine AThen_normal ?_
 refine qz [(0, .ptr 0 0), (1, .int .i64 (n)), (5, .ptr 3 0)] ?_ ?_
 refine qV 7 ?_ ?_
 refine qY (o_appmap (o := 1) (len := m.length) (l := (m.map Prod.fst)) (xs := [(n)]) (enc := (AVal.int .i64)) (sz := 1) (fr := 0) (x := (.full [.int .i64 (n)])) (by kernel_rfl) ty26 ty3 ty26 rfl (by kernel_rfl) rfl (by first | rfl | simp) (by kernel_rfl) ⟨by decide, by kernel_rfl⟩ (fun _ => rfl) (by simp only [List.length_append, List.length_map, List.length_cons, List.length_nil]; omega) (by simp only [List.length_append, List.length_map, List.length_cons, List.length_nil]; omega)) ?_ ?_ ?_
 refine qR 3 [(0, .ptr 0 0), (5, .ptr 3 0)] [.box [.own 1 0 ((m.map Prod.fst) ++ [(n)]).length, .own 2 0 m.length], .arr 1 (((m.map Prod.fst) ++ [(n)]).map (AVal.int .i64)) 0, .arr 5 ((m.map Prod.snd).map Ty.enc) 0, t.bx] ?_ ?_
 refine qSeq ?_ ?_
 refine wDrw cxM (by kernel_rfl) extThen (dstart ?_)
 refine qu 5 ?_ ?_
 refine qd (o_lenown (o := 2) (off := 0) (len := m.length) (sz := 5) (es := ((m.map Prod.snd).map Ty.enc)) (fr := 0) (by kernel_rfl) ty23 (by kernel_rfl) (by simp)) ?_ ?_ ?_ ?_
 refine qu 1 ?_ ?_
 refine qD (o_appmapx (o := 2) (len := m.length) (l := (m.map Prod.snd)) (xs := [.agg [.int .i64 0, .str [], .int .i64 0, .full [], .full []]]) (enc := Ty.enc) (sz := 5) (fr := 0) (x := (.full [.agg [.int .i64 0, .str [], .int .i64 0, .full [], .full []]])) (by kernel_rfl) ty23 ty25 ty23 rfl (by kernel_rfl) rfl (by first | rfl | simp) (by kernel_rfl) ⟨by decide, by kernel_rfl⟩ (by kernel_rfl) (by simp only [List.length_append, List.length_map, List.length_cons, List.length_nil]; omega) (by simp only [List.length_append, List.length_map, List.length_cons, List.length_nil]; omega)) ?_ ?_ ?_ ?_
 refine qd (o_ixown (k := .i64) (i := ((m.length : Nat) : Int)) (o := 2) (off := 0) (len := ((m.map Prod.snd).length + 1)) (sz := 5) (fr := 0) (es := ((m.map Prod.snd).map Ty.enc ++ [.agg [.int .i64 0, .str [], .int .i64 0, .full [], .full []]])) (by kernel_rfl) ty23 ty25 (by kernel_rfl) rfl (by simp) (by first | omega | exact hmt _ | (simp only [List.length_map]; omega)) (by first | omega | exact hmt _ | (simp only [List.length_map]; omega))) ?_ ?_ ?_ ?_
 refine qD (o_stmapx (o := 2) (k := (((m.map Prod.snd).map Ty.enc ++ [AVal.agg [.int .i64 0, .str [], .int .i64 0, .full [], .full []]]).length)) (x := .agg [.int .i64 (t.kind), .str t.name, .int .i64 (t.n), .imm (t.names.map AVal.str), .imm (t.kids.map Ty.enc)]) (z := .agg [.int .i64 0, .str [], .int .i64 0, .full [], .full []]) (enc := Ty.enc) (l := (m.map Prod.snd)) (X := t) (idx := (0 + m.length)) (sz := 5) (by kernel_rfl) (Ty.enc_v t).symm (by kernel_rfl) (by simp) (by simp) ty25 ty_ok2 (by kernel_rfl) (by rw [Ty.enc_v]; exact (by kernel_rfl))) ?_ ?_ ?_ ?_
 refine qu 3 ?_ ?_
 refine dend (by kernel_rfl) ⟨(by kernel_rfl), ?_⟩
 refine AThen_normal ?_
 refine qZ [] [.box [.own 1 0 ((m.map Prod.fst) ++ [(n)]).length, .own 2 0 ((m.map Prod.snd).length + 1)], .arr 1 (((m.map Prod.fst) ++ [(n)]).map (AVal.int .i64)) 0, .arr 5 (((m.map Prod.snd) ++ [t]).map Ty.enc) 0, t.bx] ?_ ?_
 refine qU 1 [(6, .bool true)] ?_ ?_
 refine wRet (by kernel_rfl) ?_
 refine leafA (l := [.bool true]) (.inr rfl) (by kernel_rfl) (by first | (rw [bdOk, mget_at0 ha (by omega) (by assumption)]; simp [awrap]; done) | (rw [bdOk, mget_at0 ha (by omega) (by assumption)]; done) | (rw [bdOk, mget_no m (fun i hi => ha i (by omega))]; simp [awrap])) (by simp [awrap]) (by simp [awrap]) ?_ ?_
 refine Eq.trans (b := [.box [.own 1 0 ((m.map Prod.fst) ++ [(n)]).length, .own 2 0 ((m.map Prod.snd).length + 1)], .arr 1 (((m.map Prod.fst) ++ [(n)]).map (AVal.int .i64)) 0, .arr 5 (((m.map Prod.snd) ++ [t]).map Ty.enc) 0]) (by kernel_rfl) ?_
 rotate_left
 · simp [AObj.belO, hpB, Ty.v, -List.map_map]
 iterate 35 kernel_rfl
 all_goals
  first | (rw [hpB, rset, mget_at0 ha (by omega) (by assumption)]; done) | (rw [hpB, rset, mget_at0 ha (by omega) (by assumption)]; rfl) | (rw [hpB, rset, mget_no m (fun i hi => ha i (by omega))]; simp)
end Go.Proofs.YtdikgijfekfaoaaGreatDoor
