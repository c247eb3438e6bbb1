/- The law TypesForeign. Condition: sizes that can be had. -/
import Derived.Test.YtdikgijfekfaoaaGreatDoorX3
import Derived.Test.YtdikgijfekfaoaaGreatDoorW3
import Derived.Test.YtdikgijfekfaoaaGreatDoorT12
import Derived.Test.YtdikgijfekfaoaaGreatDoorH4
import Derived.Test.YtdikgijfekfaoaaGreatDoorAbsc
set_option linter.all false
set_option linter.unusedSimpArgs false
set_option linter.unusedVariables false
namespace Go.Proofs.YtdikgijfekfaoaaGreatDoor
open Go.Proofs.YtdikgijfekfaoaaGreatDoor.Abs
set_option maxRecDepth 20000
set_option maxHeartbeats 4000000
@[simp] theorem bel_vr (k : Nat) (x : Vr) : x.v.bel k = true := by simp [Vr.v]
@[simp] theorem belL_vr (k : Nat) : ∀ l : List Vr, belL k (l.map Vr.v) = true
  | [] => rfl
  | x :: l => by simp [belL, belL_vr k l]
theorem refs_vr (x : Vr) : x.v.refs = [] := bel_refs _ (bel_vr 0 x)
theorem refs_st (l : St) : (encM (AVal.int .i64) Vr.v l).flatMap (fun e => e.1.refs ++ e.2.refs) = [] := by
  rw [List.flatMap_eq_nil_iff]
  intro e he
  obtain ⟨p, _, rfl⟩ := List.mem_map.1 he
  simp [AVal.refs, refs_vr]
theorem renE_st (r : Nat → Nat) (l : St) : renE r (encM (AVal.int .i64) Vr.v l) = encM (AVal.int .i64) Vr.v l := renE_id (k := 0) (fun i hi => by omega) _ (encM_st 0 l)
noncomputable def c81 : Code := bodyOf Tryz.f81
theorem radd_raw   : CallsA cx 81 [.ptr 0 0, .agg [.bool false, .int .i64 0, .bool false, .int .i64 0, .str [], .int .i64 0, .full [], .full [], .full []]] [.box [.int .i64 0, .full []]] (fun v h => v = .int .i64 1 ∧ h = [.box [.int .i64 0, .own 2 0 (([] : List (Vr)).length + 1)], .box [.bool false, .int .i64 0, .bool false, .int .i64 0, .str [], .int .i64 0, .full [], .full [], .full []], .arr 9 ((([] : List (Vr)) ++ [(Vr.mk false 0 false (Ty.mk 0 [] 0 [] []) [])]).map Vr.v) 0]) := by
 refine func_raw (cx := cx) 20 1 [(ResultVar.tmp 4)] Tryz.func81 rfl rfl rfl rfl rfl (by simp) ?_
 show wpA cx 20 1 (at_ c81 []) _ _ _
 refine qZ [(0, .ptr 0 0), (1, .agg [.bool false, .int .i64 0, .bool false, .int .i64 0, .str [], .int .i64 0, .full [], .full [], .full []])] [.box [.int .i64 0, .full []]] ?_ ?_
 refine qW 2 [(0, .ptr 0 0), (3, .ptr 1 0)] [.box [.int .i64 0, .full []], .box [.bool false, .int .i64 0, .bool false, .int .i64 0, .str [], .int .i64 0, .full [], .full [], .full []]] ?_ ?_
 refine wOwnB 0 1 9 (cs := [.int .i64 0, .full []]) [.int .i64 0, .own 2 0 0] (by decide) (by kernel_rfl) (by kernel_rfl) (by kernel_rfl) ?_
 refine qZ [(0, .ptr 0 0), (3, .ptr 1 0)] [.box [.int .i64 0, .own 2 0 0], .box [.bool false, .int .i64 0, .bool false, .int .i64 0, .str [], .int .i64 0, .full [], .full [], .full []], .arr 9 (([] : List (Vr)).map Vr.v) 0] ?_ ?_
 refine qSeq ?_ ?_
 refine wDrw cxM (by kernel_rfl) extThen (dstart ?_)
 refine qu 7 ?_ ?_
 refine qD (o_appmapx (o := 2) (len := 0) (l := ([] : List (Vr))) (xs := [.agg [.bool false, .int .i64 0, .bool false, .int .i64 0, .str [], .int .i64 0, .full [], .full [], .full []]]) (enc := Vr.v) (sz := 9) (fr := 0) (x := (.full [.agg [.bool false, .int .i64 0, .bool false, .int .i64 0, .str [], .int .i64 0, .full [], .full [], .full []]])) (by kernel_rfl) ty54 ty105 ty54 rfl (by kernel_rfl) rfl (by first | rfl | simp) (by kernel_rfl) ⟨by decide, by kernel_rfl⟩ (by kernel_rfl) (by simp) (by simp)) ?_ ?_ ?_ ?_
 refine qu 3 ?_ ?_
 refine dend (by kernel_rfl) ⟨(by kernel_rfl), ?_⟩
 refine AThen_normal ?_
 refine qZ [(0, .ptr 0 0)] [.box [.int .i64 0, .own 2 0 (([] : List (Vr)).length + 1)], .box [.bool false, .int .i64 0, .bool false, .int .i64 0, .str [], .int .i64 0, .full [], .full [], .full []], .arr 9 (([] : List (Vr)).map Vr.v ++ [.agg [.bool false, .int .i64 0, .bool false, .int .i64 0, .str [], .int .i64 0, .full [], .full [], .full []]]) 0] ?_ ?_
 refine wFrzO 2 (sz := 9) (fr := 0) (es := (([] : List (Vr)).map Vr.v ++ [.agg [.bool false, .int .i64 0, .bool false, .int .i64 0, .str [], .int .i64 0, .full [], .full [], .full []]])) ((([] : List (Vr)) ++ [(Vr.mk false 0 false (Ty.mk 0 [] 0 [] []) [])]).map Vr.v) (by kernel_rfl) (by simp [Ty.v, ownsL_app]) (by simp [Vr.v, AVal.frz, frzL]) ?_
 refine qZ [(0, .ptr 0 0)] [.box [.int .i64 0, .own 2 0 (([] : List (Vr)).length + 1)], .box [.bool false, .int .i64 0, .bool false, .int .i64 0, .str [], .int .i64 0, .full [], .full [], .full []], .arr 9 ((([] : List (Vr)) ++ [(Vr.mk false 0 false (Ty.mk 0 [] 0 [] []) [])]).map Vr.v) 0] ?_ ?_
 refine qV 4 ?_ ?_
 refine qy (o_lenown (o := 2) (off := 0) (len := (([] : List (Vr)).length + 1)) (sz := 9) (es := ((([] : List (Vr)) ++ [(Vr.mk false 0 false (Ty.mk 0 [] 0 [] []) [])]).map Vr.v)) (fr := 0) (by kernel_rfl) ty54 (by kernel_rfl) (by simp)) ?_ ?_ ?_
 refine qR 1 [(4, nI ((([] : List (Vr)).length + 1)))] [.box [.int .i64 0, .own 2 0 (([] : List (Vr)).length + 1)], .box [.bool false, .int .i64 0, .bool false, .int .i64 0, .str [], .int .i64 0, .full [], .full [], .full []], .arr 9 ((([] : List (Vr)) ++ [(Vr.mk false 0 false (Ty.mk 0 [] 0 [] []) [])]).map Vr.v) 0] ?_ ?_
 refine wRet (by kernel_rfl) ?_
 refine leafR (l := [.int .i64 (((([] : List (Vr)).length + 1) : Nat) : Int)]) 3 [.box [.int .i64 0, .own 2 0 (([] : List (Vr)).length + 1)], .box [.bool false, .int .i64 0, .bool false, .int .i64 0, .str [], .int .i64 0, .full [], .full [], .full []], .arr 9 ((([] : List (Vr)) ++ [(Vr.mk false 0 false (Ty.mk 0 [] 0 [] []) [])]).map Vr.v) 0] (.inr rfl) (by kernel_rfl) (by decide) (by kernel_rfl) (by simp [awrap, -List.map_append, -List.map_take, -List.map_drop, -List.append_assoc]) (by simp [AObj.belO, -List.map_append, -List.map_take, -List.map_drop, -List.append_assoc]) ?_
 · exact ⟨rfl, rfl⟩
 iterate 15 kernel_rfl
theorem radd_at : CallsA cx 81 [.ptr 0 0, .agg [.bool false, .int .i64 0, .bool false, .int .i64 0, .str [], .int .i64 0, .full [], .full [], .full []]] [.box [.int .i64 0, .full []], .box [.int .i64 0, .str [], .int .i64 0, .full [], .full []]] (fun v h => v = .int .i64 1 ∧ h = [.box [.int .i64 0, .own 3 0 (([] : List (Vr)).length + 1)], .box [.int .i64 0, .str [], .int .i64 0, .full [], .full []], .box [.bool false, .int .i64 0, .bool false, .int .i64 0, .str [], .int .i64 0, .full [], .full [], .full []], .arr 9 ((([] : List (Vr)) ++ [(Vr.mk false 0 false (Ty.mk 0 [] 0 [] []) [])]).map Vr.v) 0]) := by
  refine CallsA_at [0] radd_raw rfl (by decide) (by simp) (by simp [AObj.belO]) (by simp [renH, AObj.ren, renL, AVal.ren]) rfl (by simp [renL, AVal.ren, lendR]) rfl ?_
  simp [lendH, setAll, renH, AObj.ren, renL, AVal.ren, lendR, Vr.v]
noncomputable def c34 : Code := bodyOf Tryz.f34
theorem rvar_raw   : CallsA cx 34 [.ptr 0 0] [.box [.int .i64 0, .full []]] (fun v h => v = .agg [.int .i64 6, .str [], .int .i64 1, .full [], .full []] ∧ h = [.box [.int .i64 0, .own 3 0 (([] : List (Vr)).length + 1)], .box [.int .i64 6, .str [], .int .i64 1, .full [], .full []], .box [.bool false, .int .i64 0, .bool false, .int .i64 0, .str [], .int .i64 0, .full [], .full [], .full []], .arr 9 ((([] : List (Vr)) ++ [(Vr.mk false 0 false (Ty.mk 0 [] 0 [] []) [])]).map Vr.v) 0]) := by
 refine func_raw (cx := cx) 11 1 [(ResultVar.cell 2 25)] Tryz.func34 rfl rfl rfl rfl rfl (by simp) ?_
 show wpA cx 11 1 (at_ c34 []) _ _ _
 refine qZ [(0, .ptr 0 0)] [.box [.int .i64 0, .full []]] ?_ ?_
 refine qW 1 [(0, .ptr 0 0), (2, .ptr 1 0)] [.box [.int .i64 0, .full []], .box [.int .i64 0, .str [], .int .i64 0, .full [], .full []]] ?_ ?_
 refine qV 6 ?_ ?_
 refine vcallH (args := [.ptr 0 0, .agg [.bool false, .int .i64 0, .bool false, .int .i64 0, .str [], .int .i64 0, .full [], .full [], .full []]]) (v := .int .i64 1) (h' := [.box [.int .i64 0, .own 3 0 (([] : List (Vr)).length + 1)], .box [.int .i64 0, .str [], .int .i64 0, .full [], .full []], .box [.bool false, .int .i64 0, .bool false, .int .i64 0, .str [], .int .i64 0, .full [], .full [], .full []], .arr 9 ((([] : List (Vr)) ++ [(Vr.mk false 0 false (Ty.mk 0 [] 0 [] []) [])]).map Vr.v) 0]) [.box [.int .i64 0, .full []], .box [.int .i64 0, .str [], .int .i64 0, .full [], .full []]] (by kernel_rfl) (by kernel_rfl) (by kernel_rfl) (by kernel_rfl) (by kernel_rfl) (radd_at) ?_
 refine qR 2 [(2, .ptr 1 0)] [.box [.int .i64 0, .own 3 0 (([] : List (Vr)).length + 1)], .box [.int .i64 6, .str [], .int .i64 1, .full [], .full []], .box [.bool false, .int .i64 0, .bool false, .int .i64 0, .str [], .int .i64 0, .full [], .full [], .full []], .arr 9 ((([] : List (Vr)) ++ [(Vr.mk false 0 false (Ty.mk 0 [] 0 [] []) [])]).map Vr.v) 0] ?_ ?_
 refine wRet (by kernel_rfl) ?_
 refine leafR (l := [.agg [.int .i64 6, .str [], .int .i64 1, .full [], .full []]]) 4 [.box [.int .i64 0, .own 3 0 (([] : List (Vr)).length + 1)], .box [.int .i64 6, .str [], .int .i64 1, .full [], .full []], .box [.bool false, .int .i64 0, .bool false, .int .i64 0, .str [], .int .i64 0, .full [], .full [], .full []], .arr 9 ((([] : List (Vr)) ++ [(Vr.mk false 0 false (Ty.mk 0 [] 0 [] []) [])]).map Vr.v) 0] (.inr rfl) (by kernel_rfl) (by decide) (by kernel_rfl) (by simp [awrap, -List.map_append, -List.map_take, -List.map_drop, -List.append_assoc]) (by simp [AObj.belO, -List.map_append, -List.map_take, -List.map_drop, -List.append_assoc]) ?_
 · exact ⟨rfl, rfl⟩
 iterate 4 kernel_rfl
def m1 : St := [(1, ⟨false, 0, false, Ty.zero, []⟩)]
def vT : Ty := .mk 6 [] 1 [] []
theorem stSm_m1 : stSm m1 := by
  intro n x h
  simp only [m1, mget] at h
  split at h
  · cases h; decide
  · cases h
theorem var0 : CallsA cx 33 [.ptr 0 0] [.box [.int .i64 0, .map 1], .map (encM (AVal.int .i64) Vr.v ([] : List (Int × Vr)))] (fun v h => v = .agg [.int .i64 6, .str [], .int .i64 1, .imm [], .imm []] ∧ h = [.box [.int .i64 0, .map 1], .map (encM (AVal.int .i64) Vr.v m1)]) := var_spec 0 [] (by decide)
def lsT (t : Ty) : Ty := .mk 4 [] 0 [] [t]
def all3 (l : List Int) (t : Ty) : List Ty := [t, openT l 2 0, lsT t]
theorem all3_len (l : List Int) (t : Ty) : (all3 l t).length = 3 := rfl
theorem lsT_sz (t : Ty) : (lsT t).sz = t.sz + 2 := by simp [lsT, Ty.sz, szS, Ty.szL]; omega
theorem all3_sz {l : List Int} {t : Ty} (ht : t.sz < 90000000) (i : Nat) : ((all3 l t).getD i Ty.zero).sz < 100000000 := by
  match i with
  | 0 => show t.sz < _; omega
  | 1 => exact Nat.lt_of_le_of_lt (openT_small l 2 0 (by decide)) (by decide)
  | 2 => show (lsT t).sz < _; rw [lsT_sz]; omega
  | i + 3 => simp [all3, Ty.zero, Ty.sz, szS, Ty.szL]
/-- Whether a type is strange, by its first k numbers. -/
def strB (x : Ty) (k : Nat) : Bool := !rvalidB x || ((visN [] x).take k).any fun n => decide (n > 100) && (n != 1)
theorem str_t {x : Ty} {k : Nat} (h : strB x k = true) : true = strB x (k + 1) := by
  unfold strB at h ⊢
  simp only [Bool.or_eq_true] at h
  rcases h with h | h
  · rw [h]; rfl
  · obtain ⟨n, hn, hp⟩ := List.any_eq_true.1 h
    rw [List.any_eq_true.2 ⟨n, List.take_subset_take_left _ (Nat.le_succ k) hn, hp⟩, Bool.or_true]
theorem str_s {x : Ty} {k : Nat} (hk : k < (visN [] x).length) (h : ¬ strB x k = true) : strB x (k + 1) = (decide ((visN [] x).getD k 0 > 100) && ((visN [] x).getD k 0 != 1)) := by
  have h := Bool.eq_false_iff.2 h
  unfold strB at h ⊢
  rw [Bool.or_eq_false_iff] at h
  rw [take_at _ k 0 hk, List.any_append, h.1, h.2]
  simp
theorem str_1 {x : Ty} {k : Nat} (hk : k < (visN [] x).length) (h : ¬ strB x k = true) (hg : ¬ (visN [] x).getD k 0 > 100) : false = strB x (k + 1) := by rw [str_s hk h, decide_eq_false hg]; rfl
theorem str_2 {x : Ty} {k : Nat} (hk : k < (visN [] x).length) (h : ¬ strB x k = true) (hg : (visN [] x).getD k 0 > 100) : ((visN [] x).getD k 0 != 1) = strB x (k + 1) := by rw [str_s hk h, decide_eq_true hg]; rfl
mutual
theorem vAll_occ {m : St} : ∀ (t : Ty), vAll m t = true → ∀ n ∈ occN t, mget n m ≠ none
  | .mk k x n l ks, h => by
    rw [vAll, Bool.and_eq_true] at h
    have ih := vAllL_occ ks h.2
    intro j hj
    rw [occN_mk, List.mem_append, List.mem_append] at hj
    have hv : isV k n = true → j = n → mget j m ≠ none := by
      rintro hv rfl hm
      rw [vOk_n (t := .mk k x j l ks) hv hm] at h
      cases h.1
    rcases hj with (hj | hj) | hj
    · split at hj
      · rename_i h6; exact hv (by simp [isV, h6]) (List.mem_singleton.1 hj)
      · simp at hj
    · exact ih j hj
    · split at hj
      · rename_i h5; exact hv (by simp [isV, h5]) (List.mem_singleton.1 hj)
      · simp at hj
theorem vAllL_occ {m : St} : ∀ (l : List Ty), vAllL m l = true → ∀ n ∈ occNL l, mget n m ≠ none
  | [], _, n, hn => by simp [occNL, occsL] at hn
  | t :: l, h, n, hn => by
    rw [vAllL, Bool.and_eq_true] at h
    rw [occNL_cons, List.mem_append] at hn
    rcases hn with hn | hn
    · exact vAll_occ t h.1 n hn
    · exact vAllL_occ l h.2 n hn
end
theorem str_has {x : Ty} {k : Nat} (h : strB x k = true) : ¬ hasB m1 x = true := by
  intro hh
  rw [hasB, Bool.and_eq_true] at hh
  unfold strB at h
  rw [← valid_same, hh.1] at h
  obtain ⟨n, hn, hp⟩ := List.any_eq_true.1 (show _ = true from h)
  have hm := List.mem_of_mem_take hn
  have hm : n ∈ occN x := by
    have := (mem_fold (occN x) []).1 hm
    simpa using this
  have h1 := vAll_occ x hh.2 n hm
  simp only [Bool.and_eq_true, decide_eq_true_eq] at hp
  refine h1 ?_
  simp only [m1, mget]
  rw [if_neg (by omega)]
theorem open_0 (l : List Int) (hl : i64L l) : CallsP cx 12 [.imm (l.map (.int .i64)), .int .i64 0, .int .i64 2] (openT l 2 0).v := open_spec l 0 2 hl (by decide) (by decide)
mutual
theorem beq_refl : ∀ a : Ty, a.beq a = true
  | .mk k x n l ks => by rw [Ty.beq]; simp [beqL_refl ks]
theorem beqL_refl : ∀ a : List Ty, Ty.beqL a a = true
  | [] => rfl
  | x :: a => by
    simp only [Ty.beqL, Bool.and_eq_true]
    exact ⟨beq_refl x, beqL_refl a⟩
end
theorem eq_self (x : Ty) (hx : x.sz < 100000000) : CallsP cx 17 [x.v, x.v] (.bool true) := by
  have := rEqual_spec x x hx
  rwa [beq_refl] at this
noncomputable def c28 : Code := bodyOf Tryz.f28
theorem list_spec (t : Ty)  : CallsP cx 28 [Ty.v t] (Ty.v (lsT t)) := by
 refine func_intro (cx := cx) 6 0 [(ResultVar.cell 2 25)] Tryz.func28 rfl rfl rfl rfl rfl (by simp) ?_
 show wpA cx 6 0 (at_ c28 []) _ _ _
 refine qZ [(0, Ty.v t)] [] ?_ ?_
 refine qW 2 [(1, .ptr 0 0), (2, .ptr 1 0)] [t.bx, .box [.int .i64 0, .str [], .int .i64 0, .full [], .full []]] ?_ ?_
 refine qW 4 [(2, .ptr 1 0)] [t.bx, .box [.int .i64 4, .str [], .int .i64 0, .full [], .full [.agg [.int .i64 (t.kind), .str t.name, .int .i64 (t.n), .imm (t.names.map AVal.str), .imm (t.kids.map Ty.enc)]]]] ?_ ?_
 refine wRet (by kernel_rfl) ?_
 refine leafP (l := [.agg [.int .i64 4, .str [], .int .i64 0, .full [], .full [.agg [.int .i64 (t.kind), .str t.name, .int .i64 (t.n), .imm (t.names.map AVal.str), .imm (t.kids.map Ty.enc)]]]]) (.inr rfl) (by kernel_rfl) ?_
 · simp [awrap, AVal.frz, frzL, lsT, Ty.v, Ty.kind, Ty.name, Ty.n, Ty.names, Ty.kids, Ty.enc_v]
 iterate 3 kernel_rfl
theorem rec_a (x : Ty) (hx : x.sz < 100000000) (hne : ¬ hasB m1 x = true) : CallsA cx 36 [.ptr 0 0, .full [.str [97]], .full [Ty.v x]] [.box [.int .i64 0, .map 1], .map (encM (AVal.int .i64) Vr.v m1)] (fun v h => v = .tup [.agg [.int .i64 0, .str [], .int .i64 0, .imm [], .imm []], .int .i64 1] ∧ h = [.box [.int .i64 0, .map 1], .map (encM (AVal.int .i64) Vr.v m1)]) := by
  refine CallsA_frz ?_
  have e : recE m1 [[97]] [x] = 1 := recE_has 0 (by decide) hne
  have := record_err [[97]] [x] 0 m1 (by decide) (fun i => by match i with | 0 => decide | 1 => decide | 2 => decide | i + 3 => simp) (fun i => by match i with | 0 => exact hx | i + 1 => simp [Ty.zero, Ty.sz, szS, Ty.szL]) stSm_m1 (by rw [e]; decide)
  rw [e] at this
  simpa [frzL, frzH, ownsL, AVal.frz, AVal.owns, Ty.enc_v] using this
theorem rec_b   : CallsA cx 36 [.ptr 0 0, .full [.str [97], .str [98]], .full [Ty.v vT]] [.box [.int .i64 0, .map 1], .map (encM (AVal.int .i64) Vr.v m1)] (fun v h => v = .tup [.agg [.int .i64 0, .str [], .int .i64 0, .imm [], .imm []], .int .i64 1] ∧ h = [.box [.int .i64 0, .map 1], .map (encM (AVal.int .i64) Vr.v m1)]) := by
  refine CallsA_frz ?_
  have e : recE m1 [[97], [98]] [vT] = 1 := by kernel_rfl
  have := record_err [[97], [98]] [vT] 0 m1 (by decide) (fun i => by match i with | 0 => decide | 1 => decide | 2 => decide | i + 3 => simp) (fun i => by match i with | 0 => decide | 1 => decide | 2 => decide | i + 3 => simp [Ty.zero, Ty.sz, szS, Ty.szL]) stSm_m1 (by rw [e]; decide)
  rw [e] at this
  simpa [frzL, frzH, ownsL, AVal.frz, AVal.owns, Ty.enc_v] using this
theorem rec_c   : CallsA cx 36 [.ptr 0 0, .full [.str [98], .str [97], .str [98]], .full [Ty.v vT, Ty.v vT, Ty.v vT]] [.box [.int .i64 0, .map 1], .map (encM (AVal.int .i64) Vr.v m1)] (fun v h => v = .tup [.agg [.int .i64 0, .str [], .int .i64 0, .imm [], .imm []], .int .i64 8] ∧ h = [.box [.int .i64 0, .map 1], .map (encM (AVal.int .i64) Vr.v m1)]) := by
  refine CallsA_frz ?_
  have e : recE m1 [[98], [97], [98]] [vT, vT, vT] = 8 := by kernel_rfl
  have := record_err [[98], [97], [98]] [vT, vT, vT] 0 m1 (by decide) (fun i => by match i with | 0 => decide | 1 => decide | 2 => decide | i + 3 => simp) (fun i => by match i with | 0 => decide | 1 => decide | 2 => decide | i + 3 => simp [Ty.zero, Ty.sz, szS, Ty.szL]) stSm_m1 (by rw [e]; decide)
  rw [e] at this
  simpa [frzL, frzH, ownsL, AVal.frz, AVal.owns, Ty.enc_v] using this
theorem rec_d   : CallsA cx 36 [.ptr 0 0, .full [.str [98], .str [98], .str [66]], .full [Ty.v vT, Ty.v vT, Ty.v vT]] [.box [.int .i64 0, .map 1], .map (encM (AVal.int .i64) Vr.v m1)] (fun v h => v = .tup [.agg [.int .i64 0, .str [], .int .i64 0, .imm [], .imm []], .int .i64 1] ∧ h = [.box [.int .i64 0, .map 1], .map (encM (AVal.int .i64) Vr.v m1)]) := by
  refine CallsA_frz ?_
  have e : recE m1 [[98], [98], [66]] [vT, vT, vT] = 1 := by kernel_rfl
  have := record_err [[98], [98], [66]] [vT, vT, vT] 0 m1 (by decide) (fun i => by match i with | 0 => decide | 1 => decide | 2 => decide | i + 3 => simp) (fun i => by match i with | 0 => decide | 1 => decide | 2 => decide | i + 3 => simp [Ty.zero, Ty.sz, szS, Ty.szL]) stSm_m1 (by rw [e]; decide)
  rw [e] at this
  simpa [frzL, frzH, ownsL, AVal.frz, AVal.owns, Ty.enc_v] using this
theorem rvar_at (t : Ty) : CallsA cx 34 [.ptr 3 0] [.box [.int .i64 0, .map 1], .map (encM (AVal.int .i64) Vr.v m1), .box [.int .i64 (t.kind), .str t.name, .int .i64 (t.n), .imm (t.names.map AVal.str), .imm (t.kids.map Ty.enc)], .box [.int .i64 0, .full []], .box [.int .i64 6, .str [], .int .i64 1, .imm [], .imm []]] (fun v h => v = .agg [.int .i64 6, .str [], .int .i64 1, .full [], .full []] ∧ h = [.box [.int .i64 0, .map 1], .map (encM (AVal.int .i64) Vr.v m1), .box [.int .i64 (t.kind), .str t.name, .int .i64 (t.n), .imm (t.names.map AVal.str), .imm (t.kids.map Ty.enc)], .box [.int .i64 0, .own 7 0 (([] : List (Vr)).length + 1)], .box [.int .i64 6, .str [], .int .i64 1, .imm [], .imm []], .box [.int .i64 6, .str [], .int .i64 1, .full [], .full []], .box [.bool false, .int .i64 0, .bool false, .int .i64 0, .str [], .int .i64 0, .full [], .full [], .full []], .arr 9 ((([] : List (Vr)) ++ [(Vr.mk false 0 false (Ty.mk 0 [] 0 [] []) [])]).map Vr.v) 0]) := by
  refine CallsA_at [3] rvar_raw rfl (by decide) (by simp) (by simp [AObj.belO]) (by simp [renH, AObj.ren, renL, AVal.ren]) rfl (by simp [renL, AVal.ren, lendR]) (by simp [AVal.ren, renL]) ?_
  simp [lendH, setAll, renH, AObj.ren, renL, AVal.ren, lendR, Vr.v]
noncomputable def c9 : Code := bodyOf Tryz.f9
theorem foreign_spec (t : Ty) (l : List Int) (ht : t.sz < 90000000) (hl : i64L l) : CallsP cx 9 [Ty.v t, .imm (l.map (AVal.int .i64))] (.bool true) := by
 have hsi := all3_sz (l := l) ht
 have h3 := all3_len l t
 refine func_intro (cx := cx) 164 0 [(ResultVar.tmp 4)] Tryz.func9 rfl rfl rfl rfl rfl (by simp) ?_
 show wpA cx 164 0 (at_ c9 []) _ _ _
 refine qZ [(0, Ty.v t), (1, .imm (l.map (AVal.int .i64)))] [] ?_ ?_
 refine qW 2 [(1, .imm (l.map (AVal.int .i64))), (2, .ptr 0 0)] [t.bx] ?_ ?_
 refine qO ?_ ?_
 refine vgrow1 (args := []) (args' := []) (V' := .ptr 2 0) (F := [.box [.int .i64 (t.kind), .str t.name, .int .i64 (t.n), .imm (t.names.map AVal.str), .imm (t.kids.map Ty.enc)]]) (G' := [.map (encM (AVal.int .i64) Vr.v ([] : List (Int × Vr))), .box [.int .i64 0, .map 1]]) (by kernel_rfl) (by kernel_rfl) (by kernel_rfl) (by kernel_rfl) (new_raw) [.box [.int .i64 (t.kind), .str t.name, .int .i64 (t.n), .imm (t.names.map AVal.str), .imm (t.kids.map Ty.enc)]] (by kernel_rfl) (by simp [AVal.frz, frzL, AVal.ren, renL, renH, AObj.ren, lendR, frzH, ownsL, AVal.owns, encM, renE]) (by simp [AVal.frz, frzL, AVal.ren, renL, renH, AObj.ren, lendR, frzH, ownsL, AVal.owns, encM, renE]) (by simp [AVal.frz, frzL, AVal.ren, renL, renH, AObj.ren, lendR, frzH, ownsL, AVal.owns, encM, renE]) (by simp [AVal.frz, frzL, AVal.ren, renL, renH, AObj.ren, lendR, frzH, ownsL, AVal.owns, encM, renE]) (by simp [AVal.frz, frzL, AVal.ren, renL, renH, AObj.ren, lendR, frzH, ownsL, AVal.owns, encM, renE]) ?_
 refine qR 1 [(1, .imm (l.map (AVal.int .i64))), (2, .ptr 0 0), (5, .ptr 2 0)] [t.bx, .map (encM (AVal.int .i64) Vr.v ([] : List (Int × Vr))), .box [.int .i64 0, .map 1]] ?_ ?_
 refine qW 3 [(1, .imm (l.map (AVal.int .i64))), (2, .ptr 0 0), (5, .ptr 2 0), (6, .ptr 3 0)] [t.bx, .map (encM (AVal.int .i64) Vr.v ([] : List (Int × Vr))), .box [.int .i64 0, .map 1], .box [.int .i64 0, .full []]] ?_ ?_
 refine wRen [2, 1, 0, 3] [(1, .imm (l.map (AVal.int .i64))), (2, .ptr 2 0), (5, .ptr 0 0), (6, .ptr 3 0)] [.box [.int .i64 0, .map 1], .map (encM (AVal.int .i64) Vr.v ([] : List (Int × Vr))), .box [.int .i64 (t.kind), .str t.name, .int .i64 (t.n), .imm (t.names.map AVal.str), .imm (t.kids.map Ty.enc)], .box [.int .i64 0, .full []]] (by decide) (by simp [-List.map_append, -List.map_take, -List.map_drop, -List.append_assoc, AVal.refs, refsL, AObj.refs, AObj.isIter, objOk, Abs.renT, keepH, renO, AObj.ren, AVal.ren, renL, List.idxOf_cons, all3, lsT, Ty.enc_v, Ty.v, Ty.kind, Ty.name, Ty.n, Ty.names, Ty.kids, refs_st, renE_st]) (by simp [-List.map_append, -List.map_take, -List.map_drop, -List.append_assoc, AVal.refs, refsL, AObj.refs, AObj.isIter, objOk, Abs.renT, keepH, renO, AObj.ren, AVal.ren, renL, List.idxOf_cons, all3, lsT, Ty.enc_v, Ty.v, Ty.kind, Ty.name, Ty.n, Ty.names, Ty.kids, refs_st, renE_st]) (by simp [-List.map_append, -List.map_take, -List.map_drop, -List.append_assoc, AVal.refs, refsL, AObj.refs, AObj.isIter, objOk, Abs.renT, keepH, renO, AObj.ren, AVal.ren, renL, List.idxOf_cons, all3, lsT, Ty.enc_v, Ty.v, Ty.kind, Ty.name, Ty.n, Ty.names, Ty.kids, refs_st, renE_st]) (by simp [-List.map_append, -List.map_take, -List.map_drop, -List.append_assoc, AVal.refs, refsL, AObj.refs, AObj.isIter, objOk, Abs.renT, keepH, renO, AObj.ren, AVal.ren, renL, List.idxOf_cons, all3, lsT, Ty.enc_v, Ty.v, Ty.kind, Ty.name, Ty.n, Ty.names, Ty.kids, refs_st, renE_st]) ?_
 refine qZ [(1, .imm (l.map (AVal.int .i64))), (2, .ptr 2 0), (5, .ptr 0 0), (6, .ptr 3 0)] [.box [.int .i64 0, .map 1], .map (encM (AVal.int .i64) Vr.v ([] : List (Int × Vr))), t.bx, .box [.int .i64 0, .full []]] ?_ ?_
 refine qSeq ?_ ?_
 refine qU 2 [(1, .imm (l.map (AVal.int .i64))), (2, .ptr 2 0), (5, .ptr 0 0), (6, .ptr 3 0), (26, .bool false)] ?_ ?_
 refine wIfF (by kernel_rfl) (by kernel_rfl) ?_
 refine qK ?_ ?_
 refine qz [(1, .imm (l.map (AVal.int .i64))), (2, .ptr 2 0), (5, .ptr 0 0), (6, .ptr 3 0)] ?_ ?_
 refine qV 1 ?_ ?_
 refine vcallA (args := [.ptr 0 0]) (hs := [.box [.int .i64 0, .map 1], .map (encM (AVal.int .i64) Vr.v ([] : List (Int × Vr)))]) (hs' := [.box [.int .i64 0, .map 1], .map (encM (AVal.int .i64) Vr.v m1)]) (rest := [.box [.int .i64 (t.kind), .str t.name, .int .i64 (t.n), .imm (t.names.map AVal.str), .imm (t.kids.map Ty.enc)], .box [.int .i64 0, .full []]]) (by kernel_rfl) (by kernel_rfl) (by kernel_rfl) (by kernel_rfl) (by kernel_rfl) (var0) (by simp [AObj.belO, hpV, Ty.v]) (by simp [AObj.belO, hpV, Ty.v]) rfl (by simp [AObj.belO, hpV, Ty.v]) (by simp [AObj.belO, hpV, Ty.v]) (by kernel_rfl) ?_
 refine qR 2 [(1, .imm (l.map (AVal.int .i64))), (2, .ptr 2 0), (5, .ptr 0 0), (6, .ptr 3 0), (7, .ptr 4 0)] [.box [.int .i64 0, .map 1], .map (encM (AVal.int .i64) Vr.v m1), t.bx, .box [.int .i64 0, .full []], .box [.int .i64 6, .str [], .int .i64 1, .imm [], .imm []]] ?_ ?_
 refine qV 1 ?_ ?_
 refine vcallH (args := [.ptr 3 0]) (v := .agg [.int .i64 6, .str [], .int .i64 1, .full [], .full []]) (h' := [.box [.int .i64 0, .map 1], .map (encM (AVal.int .i64) Vr.v m1), .box [.int .i64 (t.kind), .str t.name, .int .i64 (t.n), .imm (t.names.map AVal.str), .imm (t.kids.map Ty.enc)], .box [.int .i64 0, .own 7 0 (([] : List (Vr)).length + 1)], .box [.int .i64 6, .str [], .int .i64 1, .imm [], .imm []], .box [.int .i64 6, .str [], .int .i64 1, .full [], .full []], .box [.bool false, .int .i64 0, .bool false, .int .i64 0, .str [], .int .i64 0, .full [], .full [], .full []], .arr 9 ((([] : List (Vr)) ++ [(Vr.mk false 0 false (Ty.mk 0 [] 0 [] []) [])]).map Vr.v) 0]) [.box [.int .i64 0, .map 1], .map (encM (AVal.int .i64) Vr.v m1), .box [.int .i64 (t.kind), .str t.name, .int .i64 (t.n), .imm (t.names.map AVal.str), .imm (t.kids.map Ty.enc)], .box [.int .i64 0, .full []], .box [.int .i64 6, .str [], .int .i64 1, .imm [], .imm []]] (by kernel_rfl) (by kernel_rfl) (by kernel_rfl) (by kernel_rfl) (by kernel_rfl) (rvar_at t) ?_
 refine qN [(1, .imm (l.map (AVal.int .i64))), (2, .ptr 2 0), (5, .ptr 0 0), (7, .ptr 4 0)] [.box [.int .i64 0, .map 1], .map (encM (AVal.int .i64) Vr.v m1), t.bx, .box [.int .i64 0, .own 7 0 (([] : List (Vr)).length + 1)], .box [.int .i64 6, .str [], .int .i64 1, .imm [], .imm []], .box [.int .i64 6, .str [], .int .i64 1, .full [], .full []], .box [.bool false, .int .i64 0, .bool false, .int .i64 0, .str [], .int .i64 0, .full [], .full [], .full []], .arr 9 ((([] : List (Vr)) ++ [(Vr.mk false 0 false (Ty.mk 0 [] 0 [] []) [])]).map Vr.v) 0] ?_ ?_
 refine wRen [0, 1, 2, 4] [(1, .imm (l.map (AVal.int .i64))), (2, .ptr 2 0), (5, .ptr 0 0), (7, .ptr 3 0)] [.box [.int .i64 0, .map 1], .map (encM (AVal.int .i64) Vr.v m1), .box [.int .i64 (t.kind), .str t.name, .int .i64 (t.n), .imm (t.names.map AVal.str), .imm (t.kids.map Ty.enc)], .box [.int .i64 6, .str [], .int .i64 1, .imm [], .imm []]] (by decide) (by simp [-List.map_append, -List.map_take, -List.map_drop, -List.append_assoc, AVal.refs, refsL, AObj.refs, AObj.isIter, objOk, Abs.renT, keepH, renO, AObj.ren, AVal.ren, renL, List.idxOf_cons, all3, lsT, Ty.enc_v, Ty.v, Ty.kind, Ty.name, Ty.n, Ty.names, Ty.kids, refs_st, renE_st]) (by simp [-List.map_append, -List.map_take, -List.map_drop, -List.append_assoc, AVal.refs, refsL, AObj.refs, AObj.isIter, objOk, Abs.renT, keepH, renO, AObj.ren, AVal.ren, renL, List.idxOf_cons, all3, lsT, Ty.enc_v, Ty.v, Ty.kind, Ty.name, Ty.n, Ty.names, Ty.kids, refs_st, renE_st]) (by simp [-List.map_append, -List.map_take, -List.map_drop, -List.append_assoc, AVal.refs, refsL, AObj.refs, AObj.isIter, objOk, Abs.renT, keepH, renO, AObj.ren, AVal.ren, renL, List.idxOf_cons, all3, lsT, Ty.enc_v, Ty.v, Ty.kind, Ty.name, Ty.n, Ty.names, Ty.kids, refs_st, renE_st]) (by simp [-List.map_append, -List.map_take, -List.map_drop, -List.append_assoc, AVal.refs, refsL, AObj.refs, AObj.isIter, objOk, Abs.renT, keepH, renO, AObj.ren, AVal.ren, renL, List.idxOf_cons, all3, lsT, Ty.enc_v, Ty.v, Ty.kind, Ty.name, Ty.n, Ty.names, Ty.kids, refs_st, renE_st]) ?_
 refine qZ [(1, .imm (l.map (AVal.int .i64))), (2, .ptr 2 0), (5, .ptr 0 0), (7, .ptr 3 0)] [.box [.int .i64 0, .map 1], .map (encM (AVal.int .i64) Vr.v m1), t.bx, .box [.int .i64 6, .str [], .int .i64 1, .imm [], .imm []]] ?_ ?_
 refine qSeq ?_ ?_
 refine wDrw cxM (by kernel_rfl) extThen (dstart ?_)
 refine qu 2 ?_ ?_
 refine dcallP (args := [.imm (l.map (AVal.int .i64)), .int .i64 0, .int .i64 2]) (by kernel_rfl) (by kernel_rfl) (by kernel_rfl) (by kernel_rfl) (by kernel_rfl) (open_0 l hl) (by intro _; simp [Ty.v, frzL_app, Occ.v]) (by simp [Ty.v]) (by simp [Ty.v, ownsL_app]) ?_
 refine qu 1 ?_ ?_
 refine dcallP (args := [.agg [.int .i64 (t.kind), .str t.name, .int .i64 (t.n), .imm (t.names.map AVal.str), .imm (t.kids.map Ty.enc)]]) (by kernel_rfl) (by kernel_rfl) (by kernel_rfl) (by kernel_rfl) (by kernel_rfl) (list_spec t) (by intro _; simp [Ty.v, frzL_app, Occ.v]) (by simp [Ty.v]) (by simp [Ty.v, ownsL_app]) ?_
 refine qu 2 ?_ ?_
 refine dend (by kernel_rfl) ⟨(by kernel_rfl), ?_⟩
 refine AThen_normal ?_
 refine qZ [(5, .ptr 0 0), (7, .ptr 3 0), (8, .full [.agg [.int .i64 (t.kind), .str t.name, .int .i64 (t.n), .imm (t.names.map AVal.str), .imm (t.kids.map Ty.enc)], Ty.v (openT l 2 0), Ty.v (lsT t)])] [.box [.int .i64 0, .map 1], .map (encM (AVal.int .i64) Vr.v m1), t.bx, .box [.int .i64 6, .str [], .int .i64 1, .imm [], .imm []]] ?_ ?_
 refine wFrzT 8 (.full [.agg [.int .i64 (t.kind), .str t.name, .int .i64 (t.n), .imm (t.names.map AVal.str), .imm (t.kids.map Ty.enc)], Ty.v (openT l 2 0), Ty.v (lsT t)]) (.imm ((all3 l t).map Ty.enc)) (by kernel_rfl) (by simp [all3, lsT, Ty.enc_v, Ty.v, Ty.kind, Ty.name, Ty.n, Ty.names, Ty.kids, refs_st, renE_st]) (by simp [AVal.frz, frzL, all3, lsT, Ty.enc_v, Ty.v, Ty.kind, Ty.name, Ty.n, Ty.names, Ty.kids, refs_st, renE_st]) ?_
 refine qZ [(5, .ptr 0 0), (7, .ptr 3 0), (8, .imm ((all3 l t).map Ty.enc))] [.box [.int .i64 0, .map 1], .map (encM (AVal.int .i64) Vr.v m1), t.bx, .box [.int .i64 6, .str [], .int .i64 1, .imm [], .imm []]] ?_ ?_
 refine qSeq ?_ ?_
 refine qU 1 [(5, .ptr 0 0), (7, .ptr 3 0), (8, .imm ((all3 l t).map Ty.enc)), (9, .int .i64 0)] ?_ ?_
 refine qB 0 ?_ ?_ ?_
 refine wLoop (σ := Nat) (fun i => [(5, .ptr 0 0), (7, .ptr 3 0), (8, .imm ((all3 l t).map Ty.enc)), (9, .int .i64 ((i : Nat) : Int))]) (fun i => [.box [.int .i64 0, .map 1], .map (encM (AVal.int .i64) Vr.v m1), .box [.int .i64 (t.kind), .str t.name, .int .i64 (t.n), .imm (t.names.map AVal.str), .imm (t.kids.map Ty.enc)], .box [.int .i64 6, .str [], .int .i64 1, .imm [], .imm []]]) (fun i => i ≤ 3) (fun i => 3 - i) 0 (by kernel_rfl) (by exact Nat.zero_le _) ⟨⟨(by kernel_rfl), (by kernel_rfl), (by kernel_rfl), (by kernel_rfl), trivial⟩, by simp [BelL, AVal.bel], by simp, (by kernel_rfl), by simp [AObj.belO]⟩ ?_
 rintro i hi
 refine qSeq ?_ ?_
 refine qW 2 [(5, .ptr 0 0), (7, .ptr 3 0), (8, .imm ((all3 l t).map Ty.enc)), (9, nI i), (38, .bool (decide (((i : Nat) : Int) < 3)))] [.box [.int .i64 0, .map 1], .map (encM (AVal.int .i64) Vr.v m1), t.bx, .box [.int .i64 6, .str [], .int .i64 1, .imm [], .imm []]] ?_ ?_
 by_cases hb1 : ((i : Nat) : Int) < 3
 refine qt (decide_eq_true hb1) ?_ ?_
 refine qK ?_ ?_
 refine qz [(5, .ptr 0 0), (7, .ptr 3 0), (8, .imm ((all3 l t).map Ty.enc)), (9, nI i)] ?_ ?_
 refine qSeq ?_ ?_
 refine qB 1 ?_ ?_ ?_
 refine qV 2 ?_ ?_
 refine qy ((o_ixmap (k := .i64) (l := (all3 l t)) (enc := Ty.enc) (i := ((i : Nat) : Int)) Ty.zero (by kernel_rfl) ty23 ty25 ty_size (by first | omega | exact hsi _ | exact hst | assumption) (by first | omega | exact hsi _ | exact hst | assumption)).trans (congrArg (fun cs => some (AVal.pimm cs 0, _)) (ty_cells ((all3 l t).getD i Ty.zero)))) ?_ ?_ ?_
 refine qR 3 [(5, .ptr 0 0), (7, .ptr 3 0), (8, .imm ((all3 l t).map Ty.enc)), (9, nI i), (10, .ptr 4 0)] [.box [.int .i64 0, .map 1], .map (encM (AVal.int .i64) Vr.v m1), t.bx, .box [.int .i64 6, .str [], .int .i64 1, .imm [], .imm []], .box [.int .i64 (((all3 l t).getD i Ty.zero).kind), .str ((all3 l t).getD i Ty.zero).name, .int .i64 (((all3 l t).getD i Ty.zero).n), .imm (((all3 l t).getD i Ty.zero).names.map AVal.str), .imm (((all3 l t).getD i Ty.zero).kids.map Ty.enc)]] ?_ ?_
 refine qV 1 ?_ ?_
 refine vcallP (args := [.agg [.int .i64 (((all3 l t).getD i Ty.zero).kind), .str ((all3 l t).getD i Ty.zero).name, .int .i64 (((all3 l t).getD i Ty.zero).n), .imm (((all3 l t).getD i Ty.zero).names.map AVal.str), .imm (((all3 l t).getD i Ty.zero).kids.map Ty.enc)]]) (by kernel_rfl) (by kernel_rfl) (by kernel_rfl) (by kernel_rfl) (rnumbers_spec ((all3 l t).getD i Ty.zero) (by first | omega | exact hsi _ | exact hst | assumption)) (by simp [Ty.v, frzL_app, Occ.v]) (by simp [Ty.v]) (by simp [Ty.v, ownsL_app]) ?_
 refine qR 1 [(5, .ptr 0 0), (7, .ptr 3 0), (8, .imm ((all3 l t).map Ty.enc)), (9, nI i), (10, .ptr 4 0), (11, .imm ((visN [] ((all3 l t).getD i Ty.zero)).map (AVal.int .i64)))] [.box [.int .i64 0, .map 1], .map (encM (AVal.int .i64) Vr.v m1), t.bx, .box [.int .i64 6, .str [], .int .i64 1, .imm [], .imm []], .box [.int .i64 (((all3 l t).getD i Ty.zero).kind), .str ((all3 l t).getD i Ty.zero).name, .int .i64 (((all3 l t).getD i Ty.zero).n), .imm (((all3 l t).getD i Ty.zero).names.map AVal.str), .imm (((all3 l t).getD i Ty.zero).kids.map Ty.enc)]] ?_ ?_
 refine qV 1 ?_ ?_
 refine vcallP (args := [.agg [.int .i64 (((all3 l t).getD i Ty.zero).kind), .str ((all3 l t).getD i Ty.zero).name, .int .i64 (((all3 l t).getD i Ty.zero).n), .imm (((all3 l t).getD i Ty.zero).names.map AVal.str), .imm (((all3 l t).getD i Ty.zero).kids.map Ty.enc)]]) (by kernel_rfl) (by kernel_rfl) (by kernel_rfl) (by kernel_rfl) (rvalid_spec ((all3 l t).getD i Ty.zero) (by first | omega | exact hsi _ | exact hst | assumption)) (by simp [Ty.v, frzL_app, Occ.v]) (by simp [Ty.v]) (by simp [Ty.v, ownsL_app]) ?_
 refine qR 2 [(5, .ptr 0 0), (7, .ptr 3 0), (8, .imm ((all3 l t).map Ty.enc)), (9, nI i), (10, .ptr 4 0), (11, .imm ((visN [] ((all3 l t).getD i Ty.zero)).map (AVal.int .i64))), (12, .bool (!(rvalidB ((all3 l t).getD i Ty.zero))))] [.box [.int .i64 0, .map 1], .map (encM (AVal.int .i64) Vr.v m1), t.bx, .box [.int .i64 6, .str [], .int .i64 1, .imm [], .imm []], .box [.int .i64 (((all3 l t).getD i Ty.zero).kind), .str ((all3 l t).getD i Ty.zero).name, .int .i64 (((all3 l t).getD i Ty.zero).n), .imm (((all3 l t).getD i Ty.zero).names.map AVal.str), .imm (((all3 l t).getD i Ty.zero).kids.map Ty.enc)]] ?_ ?_
 refine qSeq ?_ ?_
 refine qU 1 [(5, .ptr 0 0), (7, .ptr 3 0), (8, .imm ((all3 l t).map Ty.enc)), (9, nI i), (10, .ptr 4 0), (11, .imm ((visN [] ((all3 l t).getD i Ty.zero)).map (AVal.int .i64))), (12, .bool (!(rvalidB ((all3 l t).getD i Ty.zero)))), (13, .int .i64 0)] ?_ ?_
 refine qB 2 ?_ ?_ ?_
 refine wLoop (σ := Nat) (fun k => [(5, .ptr 0 0), (7, .ptr 3 0), (8, .imm ((all3 l t).map Ty.enc)), (9, .int .i64 ((i : Nat) : Int)), (10, .ptr 4 0), (11, .imm ((visN [] ((all3 l t).getD i Ty.zero)).map (AVal.int .i64))), (12, .bool (strB ((all3 l t).getD i Ty.zero) k)), (13, .int .i64 ((k : Nat) : Int))]) (fun k => [.box [.int .i64 0, .map 1], .map (encM (AVal.int .i64) Vr.v m1), .box [.int .i64 (t.kind), .str t.name, .int .i64 (t.n), .imm (t.names.map AVal.str), .imm (t.kids.map Ty.enc)], .box [.int .i64 6, .str [], .int .i64 1, .imm [], .imm []], .box [.int .i64 (((all3 l t).getD i Ty.zero).kind), .str ((all3 l t).getD i Ty.zero).name, .int .i64 (((all3 l t).getD i Ty.zero).n), .imm (((all3 l t).getD i Ty.zero).names.map AVal.str), .imm (((all3 l t).getD i Ty.zero).kids.map Ty.enc)]]) (fun k => k ≤ (visN [] ((all3 l t).getD i Ty.zero)).length) (fun k => (visN [] ((all3 l t).getD i Ty.zero)).length - k) 0 (by kernel_rfl) (by exact Nat.zero_le _) ⟨⟨(by kernel_rfl), (by kernel_rfl), (by kernel_rfl), (by kernel_rfl), (by kernel_rfl), (by kernel_rfl), (Eq.trans (b := .bool (!(rvalidB ((all3 l t).getD i Ty.zero)))) (by kernel_rfl) (by simp [strB])), (by kernel_rfl), trivial⟩, by simp [BelL, AVal.bel], by simp, (by kernel_rfl), by simp [AObj.belO]⟩ ?_
 rintro k hk
 have hvl : (visN [] ((all3 l t).getD i Ty.zero)).length ≤ ((all3 l t).getD i Ty.zero).sz := by have := visN_len [] ((all3 l t).getD i Ty.zero); simpa using this
 have hsx := hsi i
 refine qSeq ?_ ?_
 refine qV 2 ?_ ?_
 refine qy (o_lenmap (l := (visN [] ((all3 l t).getD i Ty.zero))) (enc := (AVal.int .i64)) (by kernel_rfl) ty26) ?_ ?_ ?_
 refine qR 1 [(5, .ptr 0 0), (7, .ptr 3 0), (8, .imm ((all3 l t).map Ty.enc)), (9, nI i), (10, .ptr 4 0), (11, .imm ((visN [] ((all3 l t).getD i Ty.zero)).map (AVal.int .i64))), (12, .bool (strB ((all3 l t).getD i Ty.zero) k)), (13, nI k), (53, .bool (decide (((k : Nat) : Int) < (((visN [] ((all3 l t).getD i Ty.zero)).length : Nat) : Int))))] [.box [.int .i64 0, .map 1], .map (encM (AVal.int .i64) Vr.v m1), t.bx, .box [.int .i64 6, .str [], .int .i64 1, .imm [], .imm []], .box [.int .i64 (((all3 l t).getD i Ty.zero).kind), .str ((all3 l t).getD i Ty.zero).name, .int .i64 (((all3 l t).getD i Ty.zero).n), .imm (((all3 l t).getD i Ty.zero).names.map AVal.str), .imm (((all3 l t).getD i Ty.zero).kids.map Ty.enc)]] ?_ ?_
 by_cases hb2 : ((k : Nat) : Int) < (((visN [] ((all3 l t).getD i Ty.zero)).length : Nat) : Int)
 refine qt (decide_eq_true hb2) ?_ ?_
 refine qK ?_ ?_
 refine qz [(5, .ptr 0 0), (7, .ptr 3 0), (8, .imm ((all3 l t).map Ty.enc)), (9, nI i), (10, .ptr 4 0), (11, .imm ((visN [] ((all3 l t).getD i Ty.zero)).map (AVal.int .i64))), (12, .bool (strB ((all3 l t).getD i Ty.zero) k)), (13, nI k)] ?_ ?_
 refine qSeq ?_ ?_
 refine qB 3 ?_ ?_ ?_
 refine wDrw cxM (by kernel_rfl) (extIn extThen) (dstart ?_)
 refine qu 2 ?_ ?_
 by_cases hb3 : (strB ((all3 l t).getD i Ty.zero) k) = true
 refine dset 12 (.bool (strB ((all3 l t).getD i Ty.zero) k)) (.bool true) (extD (extIn extThen)) (by kernel_rfl) (congrArg AVal.bool (hb3)) ?_
 refine dset 56 (.bool (strB ((all3 l t).getD i Ty.zero) k)) (.bool true) (extD (extIn extThen)) (by kernel_rfl) (congrArg AVal.bool (hb3)) ?_
 refine dset 57 (.bool (strB ((all3 l t).getD i Ty.zero) k)) (.bool true) (extD (extIn extThen)) (by kernel_rfl) (congrArg AVal.bool (hb3)) ?_
 refine qu 16 ?_ ?_
 refine dend (by kernel_rfl) ⟨(by kernel_rfl), ?_⟩
 refine AIn_normal ?_
 refine AThen_normal ?_
 refine qZ [(5, .ptr 0 0), (7, .ptr 3 0), (8, .imm ((all3 l t).map Ty.enc)), (9, nI i), (10, .ptr 4 0), (11, .imm ((visN [] ((all3 l t).getD i Ty.zero)).map (AVal.int .i64))), (12, .bool true), (13, nI k), (58, .tup []), (59, .tup []), (60, .tup []), (61, .tup []), (62, .tup []), (63, .tup []), (64, .tup []), (65, .tup []), (66, .tup []), (67, .tup []), (68, .tup []), (69, .tup []), (70, .tup []), (71, .tup [])] [.box [.int .i64 0, .map 1], .map (encM (AVal.int .i64) Vr.v m1), t.bx, .box [.int .i64 6, .str [], .int .i64 1, .imm [], .imm []], .box [.int .i64 (((all3 l t).getD i Ty.zero).kind), .str ((all3 l t).getD i Ty.zero).name, .int .i64 (((all3 l t).getD i Ty.zero).n), .imm (((all3 l t).getD i Ty.zero).names.map AVal.str), .imm (((all3 l t).getD i Ty.zero).kids.map Ty.enc)]] ?_ ?_
 refine qo ?_ ?_
 refine qr 1 ?_ ?_
 refine qy (o_add (a := ((k : Nat) : Int)) (b := 1) (by kernel_rfl) (by first | omega | exact hsi _ | exact hst | assumption) (by first | omega | exact hsi _ | exact hst | assumption)) ?_ ?_ ?_
 refine qr 1 ?_ ?_
 refine qe ?_ ?_
 refine AThen_normal ⟨k + 1, ?_, ?_, ⟨⟨(by kernel_rfl), (by kernel_rfl), (by kernel_rfl), (by kernel_rfl), (by kernel_rfl), (by kernel_rfl), (Eq.trans (b := .bool true) (by kernel_rfl) (by first | exact congrArg AVal.bool (str_t (by assumption)) | exact congrArg AVal.bool (str_1 (by omega) (by assumption) (by assumption)) | exact congrArg AVal.bool (str_2 (by omega) (by assumption) (by assumption)))), (by kernel_rfl), trivial⟩, by simp [BelL, AVal.bel], by simp, (by kernel_rfl), by simp [AObj.belO]⟩⟩
 · omega
 · omega
 iterate 8 kernel_rfl
 refine dset 12 (.bool (strB ((all3 l t).getD i Ty.zero) k)) (.bool false) (extD (extIn extThen)) (by kernel_rfl) (congrArg AVal.bool (Bool.eq_false_iff.2 hb3)) ?_
 refine dset 56 (.bool (strB ((all3 l t).getD i Ty.zero) k)) (.bool false) (extD (extIn extThen)) (by kernel_rfl) (congrArg AVal.bool (Bool.eq_false_iff.2 hb3)) ?_
 refine dset 57 (.bool (strB ((all3 l t).getD i Ty.zero) k)) (.bool false) (extD (extIn extThen)) (by kernel_rfl) (congrArg AVal.bool (Bool.eq_false_iff.2 hb3)) ?_
 refine qu 2 ?_ ?_
 refine qd (o_ixmap (k := .i64) (l := (visN [] ((all3 l t).getD i Ty.zero))) (enc := (AVal.int .i64)) (i := ((k : Nat) : Int)) 0 (by kernel_rfl) ty26 ty3 (fun _ => rfl) (by first | omega | exact hsi _ | exact hst | assumption) (by first | omega | exact hsi _ | exact hst | assumption)) ?_ ?_ ?_ ?_
 refine qu 3 ?_ ?_
 by_cases hb4 : (((visN [] ((all3 l t).getD i Ty.zero)).getD k 0)) > 100
 refine dset 62 (.bool (decide ((((visN [] ((all3 l t).getD i Ty.zero)).getD k 0)) > 100))) (.bool true) (extD (extIn extThen)) (by kernel_rfl) (congrArg AVal.bool (decide_eq_true hb4)) ?_
 refine dset 63 (.bool (decide ((((visN [] ((all3 l t).getD i Ty.zero)).getD k 0)) > 100))) (.bool true) (extD (extIn extThen)) (by kernel_rfl) (congrArg AVal.bool (decide_eq_true hb4)) ?_
 refine qu 2 ?_ ?_
 refine qd (o_ixmap (k := .i64) (l := (visN [] ((all3 l t).getD i Ty.zero))) (enc := (AVal.int .i64)) (i := ((k : Nat) : Int)) 0 (by kernel_rfl) ty26 ty3 (fun _ => rfl) (by first | omega | exact hsi _ | exact hst | assumption) (by first | omega | exact hsi _ | exact hst | assumption)) ?_ ?_ ?_ ?_
 refine qu 7 ?_ ?_
 refine dend (by kernel_rfl) ⟨(by kernel_rfl), ?_⟩
 refine AIn_normal ?_
 refine AThen_normal ?_
 refine qZ [(5, .ptr 0 0), (7, .ptr 3 0), (8, .imm ((all3 l t).map Ty.enc)), (9, nI i), (10, .ptr 4 0), (11, .imm ((visN [] ((all3 l t).getD i Ty.zero)).map (AVal.int .i64))), (12, .bool ((((visN [] ((all3 l t).getD i Ty.zero)).getD k 0)) != 1)), (13, nI k), (58, .imm ((visN [] ((all3 l t).getD i Ty.zero)).map (AVal.int .i64))), (59, nI k), (60, .pimm [.int .i64 (((visN [] ((all3 l t).getD i Ty.zero)).getD k 0))] 0), (61, .int .i64 (((visN [] ((all3 l t).getD i Ty.zero)).getD k 0))), (62, .bool true), (63, .bool true), (64, .imm ((visN [] ((all3 l t).getD i Ty.zero)).map (AVal.int .i64))), (65, nI k), (66, .pimm [.int .i64 (((visN [] ((all3 l t).getD i Ty.zero)).getD k 0))] 0), (67, .int .i64 (((visN [] ((all3 l t).getD i Ty.zero)).getD k 0))), (68, .ptr 3 2), (69, .int .i64 1), (70, .bool ((((visN [] ((all3 l t).getD i Ty.zero)).getD k 0)) != 1)), (71, .bool ((((visN [] ((all3 l t).getD i Ty.zero)).getD k 0)) != 1))] [.box [.int .i64 0, .map 1], .map (encM (AVal.int .i64) Vr.v m1), t.bx, .box [.int .i64 6, .str [], .int .i64 1, .imm [], .imm []], .box [.int .i64 (((all3 l t).getD i Ty.zero).kind), .str ((all3 l t).getD i Ty.zero).name, .int .i64 (((all3 l t).getD i Ty.zero).n), .imm (((all3 l t).getD i Ty.zero).names.map AVal.str), .imm (((all3 l t).getD i Ty.zero).kids.map Ty.enc)]] ?_ ?_
 refine qo ?_ ?_
 refine qr 1 ?_ ?_
 refine qy (o_add (a := ((k : Nat) : Int)) (b := 1) (by kernel_rfl) (by first | omega | exact hsi _ | exact hst | assumption) (by first | omega | exact hsi _ | exact hst | assumption)) ?_ ?_ ?_
 refine qr 1 ?_ ?_
 refine qe ?_ ?_
 refine AThen_normal ⟨k + 1, ?_, ?_, ⟨⟨(by kernel_rfl), (by kernel_rfl), (by kernel_rfl), (by kernel_rfl), (by kernel_rfl), (by kernel_rfl), (Eq.trans (b := .bool ((((visN [] ((all3 l t).getD i Ty.zero)).getD k 0)) != 1)) (by kernel_rfl) (by first | exact congrArg AVal.bool (str_t (by assumption)) | exact congrArg AVal.bool (str_1 (by omega) (by assumption) (by assumption)) | exact congrArg AVal.bool (str_2 (by omega) (by assumption) (by assumption)))), (by kernel_rfl), trivial⟩, by simp [BelL, AVal.bel], by simp, (by kernel_rfl), by simp [AObj.belO]⟩⟩
 · omega
 · omega
 iterate 12 kernel_rfl
 refine dset 62 (.bool (decide ((((visN [] ((all3 l t).getD i Ty.zero)).getD k 0)) > 100))) (.bool false) (extD (extIn extThen)) (by kernel_rfl) (congrArg AVal.bool (decide_eq_false hb4)) ?_
 refine dset 63 (.bool (decide ((((visN [] ((all3 l t).getD i Ty.zero)).getD k 0)) > 100))) (.bool false) (extD (extIn extThen)) (by kernel_rfl) (congrArg AVal.bool (decide_eq_false hb4)) ?_
 refine qu 10 ?_ ?_
 refine dend (by kernel_rfl) ⟨(by kernel_rfl), ?_⟩
 refine AIn_normal ?_
 refine AThen_normal ?_
 refine qZ [(5, .ptr 0 0), (7, .ptr 3 0), (8, .imm ((all3 l t).map Ty.enc)), (9, nI i), (10, .ptr 4 0), (11, .imm ((visN [] ((all3 l t).getD i Ty.zero)).map (AVal.int .i64))), (12, .bool false), (13, nI k), (58, .imm ((visN [] ((all3 l t).getD i Ty.zero)).map (AVal.int .i64))), (59, nI k), (60, .pimm [.int .i64 (((visN [] ((all3 l t).getD i Ty.zero)).getD k 0))] 0), (61, .int .i64 (((visN [] ((all3 l t).getD i Ty.zero)).getD k 0))), (62, .bool false), (63, .bool false), (64, .tup []), (65, .tup []), (66, .tup []), (67, .tup []), (68, .tup []), (69, .tup []), (70, .tup []), (71, .bool false)] [.box [.int .i64 0, .map 1], .map (encM (AVal.int .i64) Vr.v m1), t.bx, .box [.int .i64 6, .str [], .int .i64 1, .imm [], .imm []], .box [.int .i64 (((all3 l t).getD i Ty.zero).kind), .str ((all3 l t).getD i Ty.zero).name, .int .i64 (((all3 l t).getD i Ty.zero).n), .imm (((all3 l t).getD i Ty.zero).names.map AVal.str), .imm (((all3 l t).getD i Ty.zero).kids.map Ty.enc)]] ?_ ?_
 refine qo ?_ ?_
 refine qr 1 ?_ ?_
 refine qy (o_add (a := ((k : Nat) : Int)) (b := 1) (by kernel_rfl) (by first | omega | exact hsi _ | exact hst | assumption) (by first | omega | exact hsi _ | exact hst | assumption)) ?_ ?_ ?_
 refine qr 1 ?_ ?_
 refine qe ?_ ?_
 refine AThen_normal ⟨k + 1, ?_, ?_, ⟨⟨(by kernel_rfl), (by kernel_rfl), (by kernel_rfl), (by kernel_rfl), (by kernel_rfl), (by kernel_rfl), (Eq.trans (b := .bool false) (by kernel_rfl) (by first | exact congrArg AVal.bool (str_t (by assumption)) | exact congrArg AVal.bool (str_1 (by omega) (by assumption) (by assumption)) | exact congrArg AVal.bool (str_2 (by omega) (by assumption) (by assumption)))), (by kernel_rfl), trivial⟩, by simp [BelL, AVal.bel], by simp, (by kernel_rfl), by simp [AObj.belO]⟩⟩
 · omega
 · omega
 iterate 20 kernel_rfl
 refine qf (decide_eq_false hb2) ?_ ?_
 refine wExit 2 (by kernel_rfl) (by kernel_rfl) ?_
 refine AThen_exit ?_
 refine AThen_exit ?_
 refine AIn_exit ?_
 refine AThen_normal ?_
 refine qz [(5, .ptr 0 0), (7, .ptr 3 0), (8, .imm ((all3 l t).map Ty.enc)), (9, nI i), (10, .ptr 4 0), (11, .imm ((visN [] ((all3 l t).getD i Ty.zero)).map (AVal.int .i64))), (12, .bool (strB ((all3 l t).getD i Ty.zero) k))] ?_ ?_
 refine qSeq ?_ ?_
 refine qU 2 [(5, .ptr 0 0), (7, .ptr 3 0), (8, .imm ((all3 l t).map Ty.enc)), (9, nI i), (10, .ptr 4 0), (11, .imm ((visN [] ((all3 l t).getD i Ty.zero)).map (AVal.int .i64))), (74, .bool (!(strB ((all3 l t).getD i Ty.zero) k)))] ?_ ?_
 by_cases hb5 : (strB ((all3 l t).getD i Ty.zero) k) = true
 refine qf (x := (!(strB ((all3 l t).getD i Ty.zero) k))) (congrArg not (hb5)) ?_ ?_
 refine qK ?_ ?_
 refine qz [(5, .ptr 0 0), (7, .ptr 3 0), (8, .imm ((all3 l t).map Ty.enc)), (9, nI i), (10, .ptr 4 0), (11, .imm ((visN [] ((all3 l t).getD i Ty.zero)).map (AVal.int .i64)))] ?_ ?_
 have hst : ¬ hasB m1 ((all3 l t).getD i Ty.zero) = true := str_has (k := k) (by assumption)
 refine qz [(5, .ptr 0 0), (7, .ptr 3 0), (8, .imm ((all3 l t).map Ty.enc)), (9, nI i), (10, .ptr 4 0), (11, .imm ((visN [] ((all3 l t).getD i Ty.zero)).map (AVal.int .i64)))] ?_ ?_
 refine qV 4 ?_ ?_
 refine vcallA (args := [.ptr 0 0, .full [.str [97]], .full [.agg [.int .i64 (((all3 l t).getD i Ty.zero).kind), .str ((all3 l t).getD i Ty.zero).name, .int .i64 (((all3 l t).getD i Ty.zero).n), .imm (((all3 l t).getD i Ty.zero).names.map AVal.str), .imm (((all3 l t).getD i Ty.zero).kids.map Ty.enc)]]]) (hs := [.box [.int .i64 0, .map 1], .map (encM (AVal.int .i64) Vr.v m1)]) (hs' := [.box [.int .i64 0, .map 1], .map (encM (AVal.int .i64) Vr.v m1)]) (rest := [.box [.int .i64 (t.kind), .str t.name, .int .i64 (t.n), .imm (t.names.map AVal.str), .imm (t.kids.map Ty.enc)], .box [.int .i64 6, .str [], .int .i64 1, .imm [], .imm []], .box [.int .i64 (((all3 l t).getD i Ty.zero).kind), .str ((all3 l t).getD i Ty.zero).name, .int .i64 (((all3 l t).getD i Ty.zero).n), .imm (((all3 l t).getD i Ty.zero).names.map AVal.str), .imm (((all3 l t).getD i Ty.zero).kids.map Ty.enc)]]) (by kernel_rfl) (by kernel_rfl) (by kernel_rfl) (by kernel_rfl) (by kernel_rfl) (rec_a ((all3 l t).getD i Ty.zero) (by first | omega | exact hsi _ | exact hst | assumption) (by first | omega | exact hsi _ | exact hst | assumption)) (by simp [AObj.belO, hpV, Ty.v]) (by simp [AObj.belO, hpV, Ty.v]) rfl (by simp [AObj.belO, hpV, Ty.v]) (by simp [AObj.belO, hpV, Ty.v]) (by kernel_rfl) ?_
 refine qR 6 [(5, .ptr 0 0), (7, .ptr 3 0), (8, .imm ((all3 l t).map Ty.enc)), (9, nI i), (10, .ptr 4 0), (11, .imm ((visN [] ((all3 l t).getD i Ty.zero)).map (AVal.int .i64))), (15, .int .i64 1)] [.box [.int .i64 0, .map 1], .map (encM (AVal.int .i64) Vr.v m1), t.bx, .box [.int .i64 6, .str [], .int .i64 1, .imm [], .imm []], .box [.int .i64 (((all3 l t).getD i Ty.zero).kind), .str ((all3 l t).getD i Ty.zero).name, .int .i64 (((all3 l t).getD i Ty.zero).n), .imm (((all3 l t).getD i Ty.zero).names.map AVal.str), .imm (((all3 l t).getD i Ty.zero).kids.map Ty.enc)], .box [.int .i64 0, .str [], .int .i64 0, .imm [], .imm []]] ?_ ?_
 refine qSeq ?_ ?_
 refine wDrw cxM (by kernel_rfl) extThen (dstart ?_)
 refine qu 3 ?_ ?_
 refine dcallA (args := [.ptr 0 0, .agg [.int .i64 (((all3 l t).getD i Ty.zero).kind), .str ((all3 l t).getD i Ty.zero).name, .int .i64 (((all3 l t).getD i Ty.zero).n), .imm (((all3 l t).getD i Ty.zero).names.map AVal.str), .imm (((all3 l t).getD i Ty.zero).kids.map Ty.enc)], .agg [.int .i64 6, .str [], .int .i64 1, .imm [], .imm []]]) (hs := [.box [.int .i64 0, .map 1], .map (encM (AVal.int .i64) Vr.v m1)]) (hs' := [.box [.int .i64 0, .map 1], .map (encM (AVal.int .i64) Vr.v m1)]) (rest := [.box [.int .i64 (t.kind), .str t.name, .int .i64 (t.n), .imm (t.names.map AVal.str), .imm (t.kids.map Ty.enc)], .box [.int .i64 6, .str [], .int .i64 1, .imm [], .imm []], .box [.int .i64 (((all3 l t).getD i Ty.zero).kind), .str ((all3 l t).getD i Ty.zero).name, .int .i64 (((all3 l t).getD i Ty.zero).n), .imm (((all3 l t).getD i Ty.zero).names.map AVal.str), .imm (((all3 l t).getD i Ty.zero).kids.map Ty.enc)], .box [.int .i64 0, .str [], .int .i64 0, .imm [], .imm []]]) (L := [0, 1]) (by kernel_rfl) (by kernel_rfl) (by kernel_rfl) (by kernel_rfl) (by kernel_rfl) (by kernel_rfl) (unify_err ((all3 l t).getD i Ty.zero) (Ty.mk 6 [] 1 [] []) 0 m1 (by first | exact hsi _ | decide) (by first | exact hsi _ | decide) stSm_m1 (fun hh => by first | exact hst hh.1 | exact hst hh.2)) (by simp [AObj.belO, hpV, Ty.v]) (by simp [AObj.belO, hpV, Ty.v]) rfl (by simp [AObj.belO, hpV, Ty.v]) (by simp [AObj.belO, hpV, Ty.v]) (by kernel_rfl) rfl rfl ?_
 refine qu 5 ?_ ?_
 refine dcallA (args := [.ptr 0 0, .agg [.int .i64 6, .str [], .int .i64 1, .imm [], .imm []], .agg [.int .i64 (((all3 l t).getD i Ty.zero).kind), .str ((all3 l t).getD i Ty.zero).name, .int .i64 (((all3 l t).getD i Ty.zero).n), .imm (((all3 l t).getD i Ty.zero).names.map AVal.str), .imm (((all3 l t).getD i Ty.zero).kids.map Ty.enc)]]) (hs := [.box [.int .i64 0, .map 1], .map (encM (AVal.int .i64) Vr.v m1)]) (hs' := [.box [.int .i64 0, .map 1], .map (encM (AVal.int .i64) Vr.v m1)]) (rest := [.box [.int .i64 (t.kind), .str t.name, .int .i64 (t.n), .imm (t.names.map AVal.str), .imm (t.kids.map Ty.enc)], .box [.int .i64 6, .str [], .int .i64 1, .imm [], .imm []], .box [.int .i64 (((all3 l t).getD i Ty.zero).kind), .str ((all3 l t).getD i Ty.zero).name, .int .i64 (((all3 l t).getD i Ty.zero).n), .imm (((all3 l t).getD i Ty.zero).names.map AVal.str), .imm (((all3 l t).getD i Ty.zero).kids.map Ty.enc)], .box [.int .i64 0, .str [], .int .i64 0, .imm [], .imm []]]) (L := [0, 1]) (by kernel_rfl) (by kernel_rfl) (by kernel_rfl) (by kernel_rfl) (by kernel_rfl) (by kernel_rfl) (unify_err (Ty.mk 6 [] 1 [] []) ((all3 l t).getD i Ty.zero) 0 m1 (by first | exact hsi _ | decide) (by first | exact hsi _ | decide) stSm_m1 (fun hh => by first | exact hst hh.1 | exact hst hh.2)) (by simp [AObj.belO, hpV, Ty.v]) (by simp [AObj.belO, hpV, Ty.v]) rfl (by simp [AObj.belO, hpV, Ty.v]) (by simp [AObj.belO, hpV, Ty.v]) (by kernel_rfl) rfl rfl ?_
 refine qu 9 ?_ ?_
 refine dcallA (args := [.ptr 0 0, .agg [.int .i64 (((all3 l t).getD i Ty.zero).kind), .str ((all3 l t).getD i Ty.zero).name, .int .i64 (((all3 l t).getD i Ty.zero).n), .imm (((all3 l t).getD i Ty.zero).names.map AVal.str), .imm (((all3 l t).getD i Ty.zero).kids.map Ty.enc)]]) (hs := [.box [.int .i64 0, .map 1], .map (encM (AVal.int .i64) Vr.v m1)]) (hs' := [.box [.int .i64 0, .map 1], .map (encM (AVal.int .i64) Vr.v m1)]) (rest := [.box [.int .i64 (t.kind), .str t.name, .int .i64 (t.n), .imm (t.names.map AVal.str), .imm (t.kids.map Ty.enc)], .box [.int .i64 6, .str [], .int .i64 1, .imm [], .imm []], .box [.int .i64 (((all3 l t).getD i Ty.zero).kind), .str ((all3 l t).getD i Ty.zero).name, .int .i64 (((all3 l t).getD i Ty.zero).n), .imm (((all3 l t).getD i Ty.zero).names.map AVal.str), .imm (((all3 l t).getD i Ty.zero).kids.map Ty.enc)], .box [.int .i64 0, .str [], .int .i64 0, .imm [], .imm []]]) (L := [0, 1]) (by kernel_rfl) (by kernel_rfl) (by kernel_rfl) (by kernel_rfl) (by kernel_rfl) (by kernel_rfl) (free_err ((all3 l t).getD i Ty.zero) 0 m1 (hsi _) stSm_m1 hst) (by simp [AObj.belO, hpV, Ty.v]) (by simp [AObj.belO, hpV, Ty.v]) rfl (by simp [AObj.belO, hpV, Ty.v]) (by simp [AObj.belO, hpV, Ty.v]) (by kernel_rfl) rfl rfl ?_
 refine qu 6 ?_ ?_
 refine dcallA (args := [.ptr 0 0, .agg [.int .i64 (((all3 l t).getD i Ty.zero).kind), .str ((all3 l t).getD i Ty.zero).name, .int .i64 (((all3 l t).getD i Ty.zero).n), .imm (((all3 l t).getD i Ty.zero).names.map AVal.str), .imm (((all3 l t).getD i Ty.zero).kids.map Ty.enc)]]) (hs := [.box [.int .i64 0, .map 1], .map (encM (AVal.int .i64) Vr.v m1)]) (hs' := [.box [.int .i64 0, .map 1], .map (encM (AVal.int .i64) Vr.v m1)]) (rest := [.box [.int .i64 (t.kind), .str t.name, .int .i64 (t.n), .imm (t.names.map AVal.str), .imm (t.kids.map Ty.enc)], .box [.int .i64 6, .str [], .int .i64 1, .imm [], .imm []], .box [.int .i64 (((all3 l t).getD i Ty.zero).kind), .str ((all3 l t).getD i Ty.zero).name, .int .i64 (((all3 l t).getD i Ty.zero).n), .imm (((all3 l t).getD i Ty.zero).names.map AVal.str), .imm (((all3 l t).getD i Ty.zero).kids.map Ty.enc)], .box [.int .i64 0, .str [], .int .i64 0, .imm [], .imm []]]) (L := [0, 1]) (by kernel_rfl) (by kernel_rfl) (by kernel_rfl) (by kernel_rfl) (by kernel_rfl) (by kernel_rfl) (resolve_err ((all3 l t).getD i Ty.zero) 0 m1 (hsi _) stSm_m1 hst) (by simp [AObj.belO, hpV, Ty.v]) (by simp [AObj.belO, hpV, Ty.v]) rfl (by simp [AObj.belO, hpV, Ty.v]) (by simp [AObj.belO, hpV, Ty.v]) (by kernel_rfl) rfl rfl ?_
 refine qu 1 ?_ ?_
 refine dcallP (args := [Ty.v ((all3 l t).getD i Ty.zero), .agg [.int .i64 (((all3 l t).getD i Ty.zero).kind), .str ((all3 l t).getD i Ty.zero).name, .int .i64 (((all3 l t).getD i Ty.zero).n), .imm (((all3 l t).getD i Ty.zero).names.map AVal.str), .imm (((all3 l t).getD i Ty.zero).kids.map Ty.enc)]]) (by kernel_rfl) (by kernel_rfl) (by kernel_rfl) (by kernel_rfl) (by kernel_rfl) (eq_self ((all3 l t).getD i Ty.zero) (by first | omega | exact hsi _ | exact hst | assumption)) (by intro _; simp [Ty.v, frzL_app, Occ.v]) (by simp [Ty.v]) (by simp [Ty.v, ownsL_app]) ?_
 refine qu 6 ?_ ?_
 refine dcallA (args := [.ptr 0 0, .agg [.int .i64 (((all3 l t).getD i Ty.zero).kind), .str ((all3 l t).getD i Ty.zero).name, .int .i64 (((all3 l t).getD i Ty.zero).n), .imm (((all3 l t).getD i Ty.zero).names.map AVal.str), .imm (((all3 l t).getD i Ty.zero).kids.map Ty.enc)], .imm ((visN [] ((all3 l t).getD i Ty.zero)).map (AVal.int .i64))]) (hs := [.box [.int .i64 0, .map 1], .map (encM (AVal.int .i64) Vr.v m1)]) (hs' := [.box [.int .i64 0, .map 1], .map (encM (AVal.int .i64) Vr.v m1)]) (rest := [.box [.int .i64 (t.kind), .str t.name, .int .i64 (t.n), .imm (t.names.map AVal.str), .imm (t.kids.map Ty.enc)], .box [.int .i64 6, .str [], .int .i64 1, .imm [], .imm []], .box [.int .i64 (((all3 l t).getD i Ty.zero).kind), .str ((all3 l t).getD i Ty.zero).name, .int .i64 (((all3 l t).getD i Ty.zero).n), .imm (((all3 l t).getD i Ty.zero).names.map AVal.str), .imm (((all3 l t).getD i Ty.zero).kids.map Ty.enc)], .box [.int .i64 0, .str [], .int .i64 0, .imm [], .imm []]]) (L := [0, 1]) (by kernel_rfl) (by kernel_rfl) (by kernel_rfl) (by kernel_rfl) (by kernel_rfl) (by kernel_rfl) (fresh_err ((all3 l t).getD i Ty.zero) (visN [] ((all3 l t).getD i Ty.zero)) 0 m1 (hsi _) stSm_m1 hst) (by simp [AObj.belO, hpV, Ty.v]) (by simp [AObj.belO, hpV, Ty.v]) rfl (by simp [AObj.belO, hpV, Ty.v]) (by simp [AObj.belO, hpV, Ty.v]) (by kernel_rfl) rfl rfl ?_
 refine qu 1 ?_ ?_
 refine dcallP (args := [Ty.v ((all3 l t).getD i Ty.zero), .agg [.int .i64 (((all3 l t).getD i Ty.zero).kind), .str ((all3 l t).getD i Ty.zero).name, .int .i64 (((all3 l t).getD i Ty.zero).n), .imm (((all3 l t).getD i Ty.zero).names.map AVal.str), .imm (((all3 l t).getD i Ty.zero).kids.map Ty.enc)]]) (by kernel_rfl) (by kernel_rfl) (by kernel_rfl) (by kernel_rfl) (by kernel_rfl) (eq_self ((all3 l t).getD i Ty.zero) (by first | omega | exact hsi _ | exact hst | assumption)) (by intro _; simp [Ty.v, frzL_app, Occ.v]) (by simp [Ty.v]) (by simp [Ty.v, ownsL_app]) ?_
 refine qu 2 ?_ ?_
 refine dend (by kernel_rfl) ⟨(by kernel_rfl), ?_⟩
 refine AThen_normal ?_
 refine qZ [(5, .ptr 0 0), (7, .ptr 3 0), (8, .imm ((all3 l t).map Ty.enc)), (9, nI i), (89, .ptr 0 0), (90, .agg [.int .i64 6, .str [], .int .i64 1, .imm [], .imm []]), (91, .agg [.int .i64 (((all3 l t).getD i Ty.zero).kind), .str ((all3 l t).getD i Ty.zero).name, .int .i64 (((all3 l t).getD i Ty.zero).n), .imm (((all3 l t).getD i Ty.zero).names.map AVal.str), .imm (((all3 l t).getD i Ty.zero).kids.map Ty.enc)]), (92, .int .i64 1), (93, .bool false), (96, .int .i64 1), (97, .bool false), (100, .ptr 0 0), (101, .agg [.int .i64 (((all3 l t).getD i Ty.zero).kind), .str ((all3 l t).getD i Ty.zero).name, .int .i64 (((all3 l t).getD i Ty.zero).n), .imm (((all3 l t).getD i Ty.zero).names.map AVal.str), .imm (((all3 l t).getD i Ty.zero).kids.map Ty.enc)]), (102, .imm []), (103, .int .i64 0), (104, .bool false), (107, .ptr 0 0), (108, .agg [.int .i64 (((all3 l t).getD i Ty.zero).kind), .str ((all3 l t).getD i Ty.zero).name, .int .i64 (((all3 l t).getD i Ty.zero).n), .imm (((all3 l t).getD i Ty.zero).names.map AVal.str), .imm (((all3 l t).getD i Ty.zero).kids.map Ty.enc)]), (109, Ty.v ((all3 l t).getD i Ty.zero)), (110, .agg [.int .i64 (((all3 l t).getD i Ty.zero).kind), .str ((all3 l t).getD i Ty.zero).name, .int .i64 (((all3 l t).getD i Ty.zero).n), .imm (((all3 l t).getD i Ty.zero).names.map AVal.str), .imm (((all3 l t).getD i Ty.zero).kids.map Ty.enc)]), (111, .bool true), (112, .bool false), (115, .ptr 0 0), (116, .agg [.int .i64 (((all3 l t).getD i Ty.zero).kind), .str ((all3 l t).getD i Ty.zero).name, .int .i64 (((all3 l t).getD i Ty.zero).n), .imm (((all3 l t).getD i Ty.zero).names.map AVal.str), .imm (((all3 l t).getD i Ty.zero).kids.map Ty.enc)]), (117, .imm ((visN [] ((all3 l t).getD i Ty.zero)).map (AVal.int .i64))), (118, Ty.v ((all3 l t).getD i Ty.zero)), (119, .agg [.int .i64 (((all3 l t).getD i Ty.zero).kind), .str ((all3 l t).getD i Ty.zero).name, .int .i64 (((all3 l t).getD i Ty.zero).n), .imm (((all3 l t).getD i Ty.zero).names.map AVal.str), .imm (((all3 l t).getD i Ty.zero).kids.map Ty.enc)]), (120, .bool true), (121, .bool false), (122, .bool false)] [.box [.int .i64 0, .map 1], .map (encM (AVal.int .i64) Vr.v m1), t.bx, .box [.int .i64 6, .str [], .int .i64 1, .imm [], .imm []], .box [.int .i64 (((all3 l t).getD i Ty.zero).kind), .str ((all3 l t).getD i Ty.zero).name, .int .i64 (((all3 l t).getD i Ty.zero).n), .imm (((all3 l t).getD i Ty.zero).names.map AVal.str), .imm (((all3 l t).getD i Ty.zero).kids.map Ty.enc)], .box [.int .i64 0, .str [], .int .i64 0, .imm [], .imm []]] ?_ ?_
 refine wIfF (by kernel_rfl) (by kernel_rfl) ?_
 refine qk ?_ ?_
 refine AIn_normal ?_
 refine AThen_normal ?_
 refine qz [(5, .ptr 0 0), (7, .ptr 3 0), (8, .imm ((all3 l t).map Ty.enc)), (9, nI i), (89, .ptr 0 0), (90, .agg [.int .i64 6, .str [], .int .i64 1, .imm [], .imm []]), (91, .agg [.int .i64 (((all3 l t).getD i Ty.zero).kind), .str ((all3 l t).getD i Ty.zero).name, .int .i64 (((all3 l t).getD i Ty.zero).n), .imm (((all3 l t).getD i Ty.zero).names.map AVal.str), .imm (((all3 l t).getD i Ty.zero).kids.map Ty.enc)]), (92, .int .i64 1), (93, .bool false), (96, .int .i64 1), (97, .bool false), (100, .ptr 0 0), (101, .agg [.int .i64 (((all3 l t).getD i Ty.zero).kind), .str ((all3 l t).getD i Ty.zero).name, .int .i64 (((all3 l t).getD i Ty.zero).n), .imm (((all3 l t).getD i Ty.zero).names.map AVal.str), .imm (((all3 l t).getD i Ty.zero).kids.map Ty.enc)]), (102, .imm []), (103, .int .i64 0), (104, .bool false), (107, .ptr 0 0), (108, .agg [.int .i64 (((all3 l t).getD i Ty.zero).kind), .str ((all3 l t).getD i Ty.zero).name, .int .i64 (((all3 l t).getD i Ty.zero).n), .imm (((all3 l t).getD i Ty.zero).names.map AVal.str), .imm (((all3 l t).getD i Ty.zero).kids.map Ty.enc)]), (109, Ty.v ((all3 l t).getD i Ty.zero)), (110, .agg [.int .i64 (((all3 l t).getD i Ty.zero).kind), .str ((all3 l t).getD i Ty.zero).name, .int .i64 (((all3 l t).getD i Ty.zero).n), .imm (((all3 l t).getD i Ty.zero).names.map AVal.str), .imm (((all3 l t).getD i Ty.zero).kids.map Ty.enc)]), (111, .bool true), (112, .bool false), (115, .ptr 0 0), (116, .agg [.int .i64 (((all3 l t).getD i Ty.zero).kind), .str ((all3 l t).getD i Ty.zero).name, .int .i64 (((all3 l t).getD i Ty.zero).n), .imm (((all3 l t).getD i Ty.zero).names.map AVal.str), .imm (((all3 l t).getD i Ty.zero).kids.map Ty.enc)]), (117, .imm ((visN [] ((all3 l t).getD i Ty.zero)).map (AVal.int .i64))), (118, Ty.v ((all3 l t).getD i Ty.zero)), (119, .agg [.int .i64 (((all3 l t).getD i Ty.zero).kind), .str ((all3 l t).getD i Ty.zero).name, .int .i64 (((all3 l t).getD i Ty.zero).n), .imm (((all3 l t).getD i Ty.zero).names.map AVal.str), .imm (((all3 l t).getD i Ty.zero).kids.map Ty.enc)]), (120, .bool true), (121, .bool false)] ?_ ?_
 refine qo ?_ ?_
 refine qr 1 ?_ ?_
 refine qy (o_add (a := ((i : Nat) : Int)) (b := 1) (by kernel_rfl) (by first | omega | exact hsi _ | exact hst | assumption) (by first | omega | exact hsi _ | exact hst | assumption)) ?_ ?_ ?_
 refine qr 1 ?_ ?_
 refine qe ?_ ?_
 refine AThen_normal ⟨i + 1, ?_, ?_, ⟨⟨(by kernel_rfl), (by kernel_rfl), (by kernel_rfl), (by kernel_rfl), trivial⟩, by simp [BelL, AVal.bel], by simp, (by kernel_rfl), by simp [AObj.belO]⟩⟩
 · omega
 · omega
 iterate 24 kernel_rfl
 refine qt (x := (!(strB ((all3 l t).getD i Ty.zero) k))) (congrArg not (Bool.eq_false_iff.2 hb5)) ?_ ?_
 refine wExit 1 (by kernel_rfl) (by kernel_rfl) ?_
 refine AThen_exit ?_
 refine AIn_exit ?_
 refine AThen_normal ?_
 refine qz [(5, .ptr 0 0), (7, .ptr 3 0), (8, .imm ((all3 l t).map Ty.enc)), (9, nI i)] ?_ ?_
 refine qo ?_ ?_
 refine qr 1 ?_ ?_
 refine qy (o_add (a := ((i : Nat) : Int)) (b := 1) (by kernel_rfl) (by first | omega | exact hsi _ | exact hst | assumption) (by first | omega | exact hsi _ | exact hst | assumption)) ?_ ?_ ?_
 refine qr 1 ?_ ?_
 refine qe ?_ ?_
 refine AThen_normal ⟨i + 1, ?_, ?_, ⟨⟨(by kernel_rfl), (by kernel_rfl), (by kernel_rfl), (by kernel_rfl), trivial⟩, by simp [BelL, AVal.bel], by simp, (by kernel_rfl), by simp [AObj.belO]⟩⟩
 · omega
 · omega
 iterate 35 kernel_rfl
 refine qf (decide_eq_false hb1) ?_ ?_
 refine wExit 0 (by kernel_rfl) (by kernel_rfl) ?_
 refine AThen_exit ?_
 refine AThen_exit ?_
 refine AIn_exit ?_
 refine AThen_normal ?_
 refine qz [(5, .ptr 0 0), (7, .ptr 3 0)] ?_ ?_
 refine qV 4 ?_ ?_
 refine vcallA (args := [.ptr 0 0, .full [.str [97], .str [98]], .full [.agg [.int .i64 6, .str [], .int .i64 1, .imm [], .imm []]]]) (hs := [.box [.int .i64 0, .map 1], .map (encM (AVal.int .i64) Vr.v m1)]) (hs' := [.box [.int .i64 0, .map 1], .map (encM (AVal.int .i64) Vr.v m1)]) (rest := [.box [.int .i64 (t.kind), .str t.name, .int .i64 (t.n), .imm (t.names.map AVal.str), .imm (t.kids.map Ty.enc)], .box [.int .i64 6, .str [], .int .i64 1, .imm [], .imm []]]) (by kernel_rfl) (by kernel_rfl) (by kernel_rfl) (by kernel_rfl) (by kernel_rfl) (rec_b) (by simp [AObj.belO, hpV, Ty.v]) (by simp [AObj.belO, hpV, Ty.v]) rfl (by simp [AObj.belO, hpV, Ty.v]) (by simp [AObj.belO, hpV, Ty.v]) (by kernel_rfl) ?_
 refine qR 6 [(5, .ptr 0 0), (7, .ptr 3 0), (17, .int .i64 1)] [.box [.int .i64 0, .map 1], .map (encM (AVal.int .i64) Vr.v m1), t.bx, .box [.int .i64 6, .str [], .int .i64 1, .imm [], .imm []], .box [.int .i64 0, .str [], .int .i64 0, .imm [], .imm []]] ?_ ?_
 refine qV 6 ?_ ?_
 refine vcallA (args := [.ptr 0 0, .full [.str [98], .str [97], .str [98]], .full [.agg [.int .i64 6, .str [], .int .i64 1, .imm [], .imm []], .agg [.int .i64 6, .str [], .int .i64 1, .imm [], .imm []], .agg [.int .i64 6, .str [], .int .i64 1, .imm [], .imm []]]]) (hs := [.box [.int .i64 0, .map 1], .map (encM (AVal.int .i64) Vr.v m1)]) (hs' := [.box [.int .i64 0, .map 1], .map (encM (AVal.int .i64) Vr.v m1)]) (rest := [.box [.int .i64 (t.kind), .str t.name, .int .i64 (t.n), .imm (t.names.map AVal.str), .imm (t.kids.map Ty.enc)], .box [.int .i64 6, .str [], .int .i64 1, .imm [], .imm []], .box [.int .i64 0, .str [], .int .i64 0, .imm [], .imm []]]) (by kernel_rfl) (by kernel_rfl) (by kernel_rfl) (by kernel_rfl) (by kernel_rfl) (rec_c) (by simp [AObj.belO, hpV, Ty.v]) (by simp [AObj.belO, hpV, Ty.v]) rfl (by simp [AObj.belO, hpV, Ty.v]) (by simp [AObj.belO, hpV, Ty.v]) (by kernel_rfl) ?_
 refine qR 6 [(5, .ptr 0 0), (7, .ptr 3 0), (17, .int .i64 1), (19, .int .i64 8)] [.box [.int .i64 0, .map 1], .map (encM (AVal.int .i64) Vr.v m1), t.bx, .box [.int .i64 6, .str [], .int .i64 1, .imm [], .imm []], .box [.int .i64 0, .str [], .int .i64 0, .imm [], .imm []], .box [.int .i64 0, .str [], .int .i64 0, .imm [], .imm []]] ?_ ?_
 refine qV 6 ?_ ?_
 refine vcallA (args := [.ptr 0 0, .full [.str [98], .str [98], .str [66]], .full [.agg [.int .i64 6, .str [], .int .i64 1, .imm [], .imm []], .agg [.int .i64 6, .str [], .int .i64 1, .imm [], .imm []], .agg [.int .i64 6, .str [], .int .i64 1, .imm [], .imm []]]]) (hs := [.box [.int .i64 0, .map 1], .map (encM (AVal.int .i64) Vr.v m1)]) (hs' := [.box [.int .i64 0, .map 1], .map (encM (AVal.int .i64) Vr.v m1)]) (rest := [.box [.int .i64 (t.kind), .str t.name, .int .i64 (t.n), .imm (t.names.map AVal.str), .imm (t.kids.map Ty.enc)], .box [.int .i64 6, .str [], .int .i64 1, .imm [], .imm []], .box [.int .i64 0, .str [], .int .i64 0, .imm [], .imm []], .box [.int .i64 0, .str [], .int .i64 0, .imm [], .imm []]]) (by kernel_rfl) (by kernel_rfl) (by kernel_rfl) (by kernel_rfl) (by kernel_rfl) (rec_d) (by simp [AObj.belO, hpV, Ty.v]) (by simp [AObj.belO, hpV, Ty.v]) rfl (by simp [AObj.belO, hpV, Ty.v]) (by simp [AObj.belO, hpV, Ty.v]) (by kernel_rfl) ?_
 refine qR 6 [(17, .int .i64 1), (19, .int .i64 8), (21, .int .i64 1)] [.box [.int .i64 0, .map 1], .map (encM (AVal.int .i64) Vr.v m1), t.bx, .box [.int .i64 6, .str [], .int .i64 1, .imm [], .imm []], .box [.int .i64 0, .str [], .int .i64 0, .imm [], .imm []], .box [.int .i64 0, .str [], .int .i64 0, .imm [], .imm []], .box [.int .i64 0, .str [], .int .i64 0, .imm [], .imm []]] ?_ ?_
 refine qV 11 ?_ ?_
 refine qc [] (lives_spec) ?_ ?_
 refine qX 2 ?_ ?_
 refine leafB (b := true) (.inr rfl) (by kernel_rfl) ?_
 · rfl
 iterate 38 kernel_rfl
end Go.Proofs.YtdikgijfekfaoaaGreatDoor
