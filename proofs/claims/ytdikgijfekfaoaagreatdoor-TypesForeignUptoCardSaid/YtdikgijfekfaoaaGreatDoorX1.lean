/- has of a store: what it answers. Condition: sizes that can be had. -/
import Derived.Test.YtdikgijfekfaoaaGreatDoorW2
import Derived.Test.YtdikgijfekfaoaaGreatDoorV2
import Derived.Test.YtdikgijfekfaoaaGreatDoorW5
import Derived.Test.YtdikgijfekfaoaaGreatDoorAbsc
set_option linter.all false
set_option linter.unusedSimpArgs false
set_option linter.unusedVariables false
namespace Go.Proofs.YtdikgijfekfaoaaGreatDoor
open Go.Proofs.YtdikgijfekfaoaaGreatDoor.Abs
set_option maxRecDepth 20000
set_option maxHeartbeats 4000000
structure Vr where
  row : Bool
  lv : Int
  bd : Bool
  val : Ty
  names : List (List UInt8)
def Vr.v (x : Vr) : AVal := .agg [.bool x.row, .int .i64 x.lv, .bool x.bd, .int .i64 x.val.kind, .str x.val.name, .int .i64 x.val.n, .imm (x.val.names.map .str), .imm (x.val.kids.map Ty.enc), .imm (x.names.map .str)]
def Vr.zero : Vr := ⟨false, 0, false, Ty.zero, []⟩
abbrev St := List (Int × Vr)
@[simp] theorem encM_st (k : Nat) (l : St) : ((encM (AVal.int .i64) Vr.v l).all fun e => e.1.bel k && e.2.bel k) = true := by
  simp [encM, Vr.v, List.all_eq_true]
def stSm (m : St) : Prop := ∀ n x, mget n m = some x → x.names.length < 100000000
/-- What the closure of has asks of one part. -/
def vOk (m : St) (t : Ty) : Bool := if isV t.kind t.n = true then (match mget t.n m with
  | none => false
  | some x => (x.row == (t.kind == 5)) && (!x.row || x.names == t.names)) else true
mutual
def vAll (m : St) : Ty → Bool
  | .mk k x n l ks => vOk m (.mk k x n l ks) && vAllL m ks
def vAllL (m : St) : List Ty → Bool
  | [] => true
  | t :: l => vAll m t && vAllL m l
end
theorem vAll_eq (m : St) (t : Ty) : vAll m t = (vOk m t && vAllL m t.kids) := by cases t; rfl
theorem vAllL_all (m : St) : ∀ l, vAllL m l = l.all (vAll m)
  | [] => rfl
  | t :: l => by rw [vAllL, vAllL_all m l, List.all_cons]
theorem vAllL_take (m : St) (l : List Ty) (k : Nat) (h : k < l.length) : vAllL m (l.take (k + 1)) = (vAllL m (l.take k) && vAll m (l.getD k Ty.zero)) := by
  rw [take_snocT l k h, vAllL_all, vAllL_all, List.all_append]; simp
def hasB (m : St) (t : Ty) : Bool := validB t && vAll m t
def hpS (lv : Int) (m : St) : AHeap := [.box [.int .i64 lv, .map 1], .map (encM (AVal.int .i64) Vr.v m)]
def hpH (lv : Int) (m : St) (u : Ty) (b : Bool) : AHeap := [.box [.int .i64 lv, .map 1], .map (encM (AVal.int .i64) Vr.v m), .box [.ptr 0 0], u.bx, .box [.bool b]]
theorem vOk_0 {m : St} {t : Ty} (h : ¬ isV t.kind t.n = true) : vOk m t = true := by rw [vOk, if_neg h]
theorem vOk_n {m : St} {t : Ty} (h : isV t.kind t.n = true) (hm : mget t.n m = none) : vOk m t = false := by rw [vOk, if_pos h, hm]
theorem vOk_s {m : St} {t : Ty} {x : Vr} (h : isV t.kind t.n = true) (hm : mget t.n m = some x) : vOk m t = ((x.row == (t.kind == 5)) && (!x.row || x.names == t.names)) := by rw [vOk, if_pos h, hm]
noncomputable def c103 : Code := bodyOf Tryz.f103
theorem has1_spec (t u : Ty) (lv : Int) (m : St) (b : Bool) (hs : t.sz < 100000000) (hm : stSm m) : CallsA cx 103 [Ty.v t, .ptr 2 0, .ptr 4 0] (hpH lv m u b) (fun v h => v = (.tup []) ∧ h = hpH lv m u (b && vOk m t)) := by
 have hz1 := sz_names t
 refine func_intro (cx := cx) 43 5 [] Tryz.func103 rfl rfl rfl rfl rfl (by simp) ?_
 show wpA cx 43 5 (at_ c103 []) _ _ _
 refine qZ [(0, Ty.v t), (1, .ptr 2 0), (2, .ptr 4 0)] [.box [.int .i64 (lv), .map 1], .map (encM (AVal.int .i64) Vr.v m), .box [.ptr 0 0], u.bx, .box [.bool (b)]] ?_ ?_
 refine qW 1 [(1, .ptr 2 0), (2, .ptr 4 0), (3, .ptr 5 0)] [.box [.int .i64 (lv), .map 1], .map (encM (AVal.int .i64) Vr.v m), .box [.ptr 0 0], u.bx, .box [.bool (b)], t.bx] ?_ ?_
 refine qSeq ?_ ?_
 refine qV 1 ?_ ?_
 refine vcallH (args := [.agg [.int .i64 (t.kind), .str t.name, .int .i64 (t.n), .imm (t.names.map AVal.str), .imm (t.kids.map Ty.enc)]]) (v := .bool (isV (t.kind) (t.n))) (h' := [.box [.int .i64 (lv), .map 1], .map (encM (AVal.int .i64) Vr.v m), .box [.ptr 0 0], .box [.int .i64 (u.kind), .str u.name, .int .i64 (u.n), .imm (u.names.map AVal.str), .imm (u.kids.map Ty.enc)], .box [.bool (b)], .box [.int .i64 (t.kind), .str t.name, .int .i64 (t.n), .imm (t.names.map AVal.str), .imm (t.kids.map Ty.enc)]]) [.box [.int .i64 (lv), .map 1], .map (encM (AVal.int .i64) Vr.v m), .box [.ptr 0 0], .box [.int .i64 (u.kind), .str u.name, .int .i64 (u.n), .imm (u.names.map AVal.str), .imm (u.kids.map Ty.enc)], .box [.bool (b)], .box [.int .i64 (t.kind), .str t.name, .int .i64 (t.n), .imm (t.names.map AVal.str), .imm (t.kids.map Ty.enc)]] (by kernel_rfl) (by kernel_rfl) (by kernel_rfl) (by kernel_rfl) (by kernel_rfl) (CallsA_head (vars_any (t.kind) (t.n) t.name) rfl rfl rfl) ?_
 refine qR 1 [(1, .ptr 2 0), (2, .ptr 4 0), (3, .ptr 5 0), (8, .bool (!(isV (t.kind) (t.n))))] [.box [.int .i64 (lv), .map 1], .map (encM (AVal.int .i64) Vr.v m), .box [.ptr 0 0], u.bx, .box [.bool (b)], t.bx] ?_ ?_
 by_cases hb1 : (isV (t.kind) (t.n)) = true
 refine qf (x := (!(isV (t.kind) (t.n)))) (congrArg not (hb1)) ?_ ?_
 refine qK ?_ ?_
 refine qz [(1, .ptr 2 0), (2, .ptr 4 0), (3, .ptr 5 0)] ?_ ?_
 refine qSeq ?_ ?_
 refine wDrw cxM (by kernel_rfl) extThen (dstart ?_)
 refine qu 6 ?_ ?_
 rcases hm2 : mget (t.n) m with _ | x2
 refine qd (o_lookN (ok := true) (o := 1) (ek := (AVal.int .i64)) (ev := Vr.v) (l := m) (k := (t.n)) keyI hm2 (by kernel_rfl) ty88 ty3 rfl ty93 (by kernel_rfl)) ?_ ?_ ?_ ?_
 refine qu 6 ?_ ?_
 refine dend (by kernel_rfl) ⟨(by kernel_rfl), ?_⟩
 refine AThen_normal ?_
 refine qZ [(2, .ptr 4 0), (3, .ptr 5 0), (4, .ptr 6 0), (5, .bool false)] [.box [.int .i64 (lv), .map 1], .map (encM (AVal.int .i64) Vr.v m), .box [.ptr 0 0], u.bx, .box [.bool (b)], t.bx, .box [.bool false, .int .i64 0, .bool false, .int .i64 0, .str [], .int .i64 0, .full [], .full [], .full []]] ?_ ?_
 refine qo ?_ ?_
 refine qr 2 ?_ ?_
 by_cases hb3 : (b) = true
 refine vset 19 (.bool (b)) (.bool true) (extO extFin) (by kernel_rfl) (congrArg AVal.bool (hb3)) ?_
 refine vset 20 (.bool (b)) (.bool true) (extO extFin) (by kernel_rfl) (congrArg AVal.bool (hb3)) ?_
 refine qr 23 ?_ ?_
 refine qe ?_ ?_
 refine leafA (l := []) (.inl rfl) (by kernel_rfl) (by simp [awrap]) (by simp [awrap]) (by simp [awrap]) ?_ ?_
 refine Eq.trans (b := [.box [.int .i64 (lv), .map 1], .map (encM (AVal.int .i64) Vr.v m), .box [.ptr 0 0], .box [.int .i64 (u.kind), .str u.name, .int .i64 (u.n), .imm (u.names.map AVal.str), .imm (u.kids.map Ty.enc)], .box [.bool false]]) (by kernel_rfl) ?_
 rotate_left
 · simp [AObj.belO, hpH, Ty.v]
 iterate 2 kernel_rfl
 refine vset 19 (.bool (b)) (.bool false) (extO extFin) (by kernel_rfl) (congrArg AVal.bool (Bool.eq_false_iff.2 hb3)) ?_
 refine vset 20 (.bool (b)) (.bool false) (extO extFin) (by kernel_rfl) (congrArg AVal.bool (Bool.eq_false_iff.2 hb3)) ?_
 refine qr 23 ?_ ?_
 refine qe ?_ ?_
 refine leafA (l := []) (.inl rfl) (by kernel_rfl) (by simp [awrap]) (by simp [awrap]) (by simp [awrap]) ?_ ?_
 refine Eq.trans (b := [.box [.int .i64 (lv), .map 1], .map (encM (AVal.int .i64) Vr.v m), .box [.ptr 0 0], .box [.int .i64 (u.kind), .str u.name, .int .i64 (u.n), .imm (u.names.map AVal.str), .imm (u.kids.map Ty.enc)], .box [.bool false]]) (by kernel_rfl) ?_
 rotate_left
 · simp [AObj.belO, hpH, Ty.v]
 iterate 9 kernel_rfl
 refine qd (o_lookS (ok := true) (o := 1) (ek := (AVal.int .i64)) (ev := Vr.v) (l := m) (k := (t.n)) (x := x2) keyI hm2 (by kernel_rfl) ty88 ty3 rfl ty93 (by kernel_rfl)) ?_ ?_ ?_ ?_
 refine qu 6 ?_ ?_
 refine dend (by kernel_rfl) ⟨(by kernel_rfl), ?_⟩
 refine AThen_normal ?_
 refine qZ [(2, .ptr 4 0), (3, .ptr 5 0), (4, .ptr 6 0), (5, .bool true)] [.box [.int .i64 (lv), .map 1], .map (encM (AVal.int .i64) Vr.v m), .box [.ptr 0 0], u.bx, .box [.bool (b)], t.bx, .box [.bool (x2.row), .int .i64 (x2.lv), .bool (x2.bd), .int .i64 (x2.val.kind), .str x2.val.name, .int .i64 (x2.val.n), .imm (x2.val.names.map AVal.str), .imm (x2.val.kids.map Ty.enc), .imm (x2.names.map AVal.str)]] ?_ ?_
 refine qo ?_ ?_
 refine qr 2 ?_ ?_
 by_cases hb4 : (b) = true
 refine vset 19 (.bool (b)) (.bool true) (extO extFin) (by kernel_rfl) (congrArg AVal.bool (hb4)) ?_
 refine vset 20 (.bool (b)) (.bool true) (extO extFin) (by kernel_rfl) (congrArg AVal.bool (hb4)) ?_
 refine qr 11 ?_ ?_
 by_cases hb5 : ((x2.row) == ((t.kind) == 5)) = true
 refine vset 29 (.bool ((x2.row) == ((t.kind) == 5))) (.bool true) (extO extFin) (by kernel_rfl) (congrArg AVal.bool (hb5)) ?_
 refine vset 30 (.bool ((x2.row) == ((t.kind) == 5))) (.bool true) (extO extFin) (by kernel_rfl) (congrArg AVal.bool (hb5)) ?_
 refine vset 31 (.bool ((x2.row) == ((t.kind) == 5))) (.bool true) (extO extFin) (by kernel_rfl) (congrArg AVal.bool (hb5)) ?_
 refine qr 4 ?_ ?_
 by_cases hb6 : (x2.row) = true
 refine vset 34 (.bool (!(x2.row))) (.bool false) (extO extFin) (by kernel_rfl) (congrArg AVal.bool (congrArg not (hb6))) ?_
 refine vset 35 (.bool (!(x2.row))) (.bool false) (extO extFin) (by kernel_rfl) (congrArg AVal.bool (congrArg not (hb6))) ?_
 refine qr 4 ?_ ?_
 refine vcallP (args := [.imm (x2.names.map AVal.str), .imm (t.names.map AVal.str)]) (by kernel_rfl) (by kernel_rfl) (by kernel_rfl) (by kernel_rfl) (slEqual_spec x2.names t.names (by first | omega | (have := hm _ _ (by assumption); omega))) (by simp [Ty.v, frzL_app, Occ.v]) (by simp [Ty.v]) (by simp [Ty.v, ownsL_app]) ?_
 refine qr 3 ?_ ?_
 refine qe ?_ ?_
 refine leafA (l := []) (.inl rfl) (by kernel_rfl) (by simp [awrap]) (by simp [awrap]) (by simp [awrap]) ?_ ?_
 refine Eq.trans (b := [.box [.int .i64 (lv), .map 1], .map (encM (AVal.int .i64) Vr.v m), .box [.ptr 0 0], .box [.int .i64 (u.kind), .str u.name, .int .i64 (u.n), .imm (u.names.map AVal.str), .imm (u.kids.map Ty.enc)], .box [.bool (x2.names == t.names)]]) (by kernel_rfl) ?_
 rotate_left
 · simp [AObj.belO, hpH, Ty.v]
 iterate 3 kernel_rfl
 refine vset 34 (.bool (!(x2.row))) (.bool true) (extO extFin) (by kernel_rfl) (congrArg AVal.bool (congrArg not (Bool.eq_false_iff.2 hb6))) ?_
 refine vset 35 (.bool (!(x2.row))) (.bool true) (extO extFin) (by kernel_rfl) (congrArg AVal.bool (congrArg not (Bool.eq_false_iff.2 hb6))) ?_
 refine qr 8 ?_ ?_
 refine qe ?_ ?_
 refine leafA (l := []) (.inl rfl) (by kernel_rfl) (by simp [awrap]) (by simp [awrap]) (by simp [awrap]) ?_ ?_
 refine Eq.trans (b := [.box [.int .i64 (lv), .map 1], .map (encM (AVal.int .i64) Vr.v m), .box [.ptr 0 0], .box [.int .i64 (u.kind), .str u.name, .int .i64 (u.n), .imm (u.names.map AVal.str), .imm (u.kids.map Ty.enc)], .box [.bool true]]) (by kernel_rfl) ?_
 rotate_left
 · simp [AObj.belO, hpH, Ty.v]
 iterate 3 kernel_rfl
 refine vset 29 (.bool ((x2.row) == ((t.kind) == 5))) (.bool false) (extO extFin) (by kernel_rfl) (congrArg AVal.bool (Bool.eq_false_iff.2 hb5)) ?_
 refine vset 30 (.bool ((x2.row) == ((t.kind) == 5))) (.bool false) (extO extFin) (by kernel_rfl) (congrArg AVal.bool (Bool.eq_false_iff.2 hb5)) ?_
 refine vset 31 (.bool ((x2.row) == ((t.kind) == 5))) (.bool false) (extO extFin) (by kernel_rfl) (congrArg AVal.bool (Bool.eq_false_iff.2 hb5)) ?_
 refine qr 12 ?_ ?_
 refine qe ?_ ?_
 refine leafA (l := []) (.inl rfl) (by kernel_rfl) (by simp [awrap]) (by simp [awrap]) (by simp [awrap]) ?_ ?_
 refine Eq.trans (b := [.box [.int .i64 (lv), .map 1], .map (encM (AVal.int .i64) Vr.v m), .box [.ptr 0 0], .box [.int .i64 (u.kind), .str u.name, .int .i64 (u.n), .imm (u.names.map AVal.str), .imm (u.kids.map Ty.enc)], .box [.bool false]]) (by kernel_rfl) ?_
 rotate_left
 · simp [AObj.belO, hpH, Ty.v]
 iterate 3 kernel_rfl
 refine vset 19 (.bool (b)) (.bool false) (extO extFin) (by kernel_rfl) (congrArg AVal.bool (Bool.eq_false_iff.2 hb4)) ?_
 refine vset 20 (.bool (b)) (.bool false) (extO extFin) (by kernel_rfl) (congrArg AVal.bool (Bool.eq_false_iff.2 hb4)) ?_
 refine qr 23 ?_ ?_
 refine qe ?_ ?_
 refine leafA (l := []) (.inl rfl) (by kernel_rfl) (by simp [awrap]) (by simp [awrap]) (by simp [awrap]) ?_ ?_
 refine Eq.trans (b := [.box [.int .i64 (lv), .map 1], .map (encM (AVal.int .i64) Vr.v m), .box [.ptr 0 0], .box [.int .i64 (u.kind), .str u.name, .int .i64 (u.n), .imm (u.names.map AVal.str), .imm (u.kids.map Ty.enc)], .box [.bool false]]) (by kernel_rfl) ?_
 rotate_left
 · simp [AObj.belO, hpH, Ty.v]
 iterate 14 kernel_rfl
 refine qt (x := (!(isV (t.kind) (t.n)))) (congrArg not (Bool.eq_false_iff.2 hb1)) ?_ ?_
 refine wRet (by kernel_rfl) ?_
 apply aR
 refine leafA (l := []) (.inr rfl) (by kernel_rfl) (by simp [awrap]) (by simp [awrap]) (by simp [awrap]) ?_ ?_
 refine Eq.trans (b := [.box [.int .i64 (lv), .map 1], .map (encM (AVal.int .i64) Vr.v m), .box [.ptr 0 0], .box [.int .i64 (u.kind), .str u.name, .int .i64 (u.n), .imm (u.names.map AVal.str), .imm (u.kids.map Ty.enc)], .box [.bool (b)]]) (by kernel_rfl) ?_
 rotate_left
 · simp [AObj.belO, hpH, Ty.v]
 iterate 6 kernel_rfl
 all_goals
  refine congrArg (hpH lv m u) ?_
  first | (rw [vOk_0 (by assumption), Bool.and_true]; done) | (rw [vOk_n (by assumption) (by assumption), Bool.and_false]; done) | (rw [vOk_s (by assumption) (by assumption)]; cases b <;> simp_all; done) | (rw [vOk_s (by assumption) (by assumption)]; simp_all; done)
theorem visitH_spec (t u : Ty) (lv : Int) (m : St) (b : Bool) (hs : t.sz < 100000000) (hm : stSm m) : CallsA cx 54 [Ty.v t, .fn (.func 103) [] [.ptr 2 0, .ptr 4 0]] (hpH lv m u b) (fun v h => v = (.tup []) ∧ h = hpH lv m u (b && vAll m t)) := by
 induction hN : t.sz using Nat.strongRecOn generalizing t u b with | _ N ih =>
 have ihV : ∀ (t' u : Ty) (b : Bool), t'.sz < t.sz → CallsA cx 54 [t'.v, .fn (.func 103) [] [.ptr 2 0, .ptr 4 0]] (hpH lv m u b) (fun v h => v = .tup [] ∧ h = hpH lv m u (b && vAll m t')) := fun t' u b h1 => ih _ (by rw [← hN]; exact h1) t' u b (by omega) rfl
 have hz2 := sz_kids t
 refine func_intro (cx := cx) 29 5 [] Tryz.func54 rfl rfl rfl rfl rfl (by simp) ?_
 show wpA cx 29 5 (at_ c54 []) _ _ _
 refine qZ [(0, Ty.v t), (1, .fn (.func 103) [] [.ptr 2 0, .ptr 4 0])] [.box [.int .i64 (lv), .map 1], .map (encM (AVal.int .i64) Vr.v m), .box [.ptr 0 0], u.bx, .box [.bool (b)]] ?_ ?_
 refine qW 1 [(1, .fn (.func 103) [] [.ptr 2 0, .ptr 4 0]), (2, .ptr 5 0)] [.box [.int .i64 (lv), .map 1], .map (encM (AVal.int .i64) Vr.v m), .box [.ptr 0 0], u.bx, .box [.bool (b)], t.bx] ?_ ?_
 refine qSeq ?_ ?_
 refine qU 3 [(1, .fn (.func 103) [] [.ptr 2 0, .ptr 4 0]), (2, .ptr 5 0), (8, .bool ((t.kind) != 5))] ?_ ?_
 by_cases hb1 : (t.kind) = 5
 refine qf (x := ((t.kind) != 5)) (bne_eq_false_iff_eq.2 hb1) ?_ ?_
 refine qK ?_ ?_
 refine qz [(1, .fn (.func 103) [] [.ptr 2 0, .ptr 4 0]), (2, .ptr 5 0)] ?_ ?_
 refine qSeq ?_ ?_
 refine qV 2 ?_ ?_
 refine qy (o_lenmap (l := t.kids) (enc := Ty.enc) (by kernel_rfl) ty23) ?_ ?_ ?_
 refine qR 1 [(1, .fn (.func 103) [] [.ptr 2 0, .ptr 4 0]), (2, .ptr 5 0), (13, .imm (t.kids.map Ty.enc)), (14, nI t.kids.length), (15, .int .i64 0)] [.box [.int .i64 (lv), .map 1], .map (encM (AVal.int .i64) Vr.v m), .box [.ptr 0 0], u.bx, .box [.bool (b)], t.bx] ?_ ?_
 refine qB 0 ?_ ?_ ?_
 refine wLoop (σ := Nat) (fun k => [(1, .fn (.func 103) [] [.ptr 2 0, .ptr 4 0]), (2, .ptr 5 0), (13, .imm (t.kids.map Ty.enc)), (14, .int .i64 ((t.kids.length : Nat) : Int)), (15, .int .i64 ((k : Nat) : Int))]) (fun k => [.box [.int .i64 (lv), .map 1], .map (encM (AVal.int .i64) Vr.v m), .box [.ptr 0 0], .box [.int .i64 (u.kind), .str u.name, .int .i64 (u.n), .imm (u.names.map AVal.str), .imm (u.kids.map Ty.enc)], .box [.bool ((b) && vAllL m (t.kids.take k))], .box [.int .i64 (t.kind), .str t.name, .int .i64 (t.n), .imm (t.names.map AVal.str), .imm (t.kids.map Ty.enc)]]) (fun k => k ≤ t.kids.length) (fun k => t.kids.length - k) 0 (by kernel_rfl) (by exact Nat.zero_le _) ⟨⟨(by kernel_rfl), (by kernel_rfl), (by kernel_rfl), (by kernel_rfl), (by kernel_rfl), trivial⟩, by simp [BelL, AVal.bel], by simp, (Eq.trans (b := [.box [.int .i64 (lv), .map 1], .map (encM (AVal.int .i64) Vr.v m), .box [.ptr 0 0], .box [.int .i64 (u.kind), .str u.name, .int .i64 (u.n), .imm (u.names.map AVal.str), .imm (u.kids.map Ty.enc)], .box [.bool (b)], .box [.int .i64 (t.kind), .str t.name, .int .i64 (t.n), .imm (t.names.map AVal.str), .imm (t.kids.map Ty.enc)]]) (by kernel_rfl) (by simp [vAllL])), by simp [AObj.belO]⟩ ?_
 rintro k hk
 refine qW 1 [(1, .fn (.func 103) [] [.ptr 2 0, .ptr 4 0]), (2, .ptr 5 0), (13, .imm (t.kids.map Ty.enc)), (14, nI t.kids.length), (15, nI k), (16, .bool (decide (((k : Nat) : Int) < ((t.kids.length : Nat) : Int))))] [.box [.int .i64 (lv), .map 1], .map (encM (AVal.int .i64) Vr.v m), .box [.ptr 0 0], u.bx, .box [.bool ((b) && vAllL m (t.kids.take k))], t.bx] ?_ ?_
 refine qSeq ?_ ?_
 by_cases hb2 : ((k : Nat) : Int) < ((t.kids.length : Nat) : Int)
 refine qt (decide_eq_true hb2) ?_ ?_
 refine qK ?_ ?_
 refine qz [(1, .fn (.func 103) [] [.ptr 2 0, .ptr 4 0]), (2, .ptr 5 0), (13, .imm (t.kids.map Ty.enc)), (14, nI t.kids.length), (15, nI k)] ?_ ?_
 refine qSeq ?_ ?_
 refine qB 1 ?_ ?_ ?_
 refine qO ?_ ?_
 refine qy ((o_ixmap (k := .i64) (l := t.kids) (enc := Ty.enc) (i := ((k : Nat) : Int)) Ty.zero (by kernel_rfl) ty23 ty25 ty_size (by first | omega | assumption | exact sz_kid t k (by omega)) (by first | omega | assumption | exact sz_kid t k (by omega))).trans (congrArg (fun cs => some (AVal.pimm cs 0, _)) (ty_cells (t.kids.getD k Ty.zero)))) ?_ ?_ ?_
 refine qR 3 [(1, .fn (.func 103) [] [.ptr 2 0, .ptr 4 0]), (2, .ptr 5 0), (5, .ptr 6 0), (13, .imm (t.kids.map Ty.enc)), (14, nI t.kids.length), (15, nI k)] [.box [.int .i64 (lv), .map 1], .map (encM (AVal.int .i64) Vr.v m), .box [.ptr 0 0], u.bx, .box [.bool ((b) && vAllL m (t.kids.take k))], t.bx, .box [.int .i64 ((t.kids.getD k Ty.zero).kind), .str (t.kids.getD k Ty.zero).name, .int .i64 ((t.kids.getD k Ty.zero).n), .imm ((t.kids.getD k Ty.zero).names.map AVal.str), .imm ((t.kids.getD k Ty.zero).kids.map Ty.enc)]] ?_ ?_
 refine qo ?_ ?_
 refine qr 2 ?_ ?_
 refine vcallA (args := [.agg [.int .i64 ((t.kids.getD k Ty.zero).kind), .str (t.kids.getD k Ty.zero).name, .int .i64 ((t.kids.getD k Ty.zero).n), .imm ((t.kids.getD k Ty.zero).names.map AVal.str), .imm ((t.kids.getD k Ty.zero).kids.map Ty.enc)], .fn (.func 103) [] [.ptr 2 0, .ptr 4 0]]) (hs := [.box [.int .i64 (lv), .map 1], .map (encM (AVal.int .i64) Vr.v m), .box [.ptr 0 0], .box [.int .i64 (u.kind), .str u.name, .int .i64 (u.n), .imm (u.names.map AVal.str), .imm (u.kids.map Ty.enc)], .box [.bool ((b) && vAllL m (t.kids.take k))]]) (hs' := [.box [.int .i64 ((lv)), .map 1], .map (encM (AVal.int .i64) Vr.v m), .box [.ptr 0 0], .box [.int .i64 (u.kind), .str u.name, .int .i64 (u.n), .imm (u.names.map AVal.str), .imm (u.kids.map Ty.enc)], .box [.bool ((((b) && vAllL m (t.kids.take k)) && vAll m (t.kids.getD k Ty.zero)))]]) (rest := [.box [.int .i64 (t.kind), .str t.name, .int .i64 (t.n), .imm (t.names.map AVal.str), .imm (t.kids.map Ty.enc)], .box [.int .i64 ((t.kids.getD k Ty.zero).kind), .str (t.kids.getD k Ty.zero).name, .int .i64 ((t.kids.getD k Ty.zero).n), .imm ((t.kids.getD k Ty.zero).names.map AVal.str), .imm ((t.kids.getD k Ty.zero).kids.map Ty.enc)]]) (by kernel_rfl) (by kernel_rfl) (by kernel_rfl) (by kernel_rfl) (by kernel_rfl) (ihV (t.kids.getD k Ty.zero) u ((b) && vAllL m (t.kids.take k)) (by first | omega | assumption | exact sz_kid t k (by omega))) (by simp [AObj.belO, hpH, Ty.v]) (by simp [AObj.belO, hpH, Ty.v]) rfl (by simp [AObj.belO, hpH, Ty.v]) (by simp [AObj.belO, hpH, Ty.v]) (by kernel_rfl) ?_
 refine qe ?_ ?_
 refine AIn_normal ?_
 refine AThen_normal ?_
 refine qZ [(1, .fn (.func 103) [] [.ptr 2 0, .ptr 4 0]), (2, .ptr 5 0), (13, .imm (t.kids.map Ty.enc)), (14, nI t.kids.length), (15, nI k)] [.box [.int .i64 ((lv)), .map 1], .map (encM (AVal.int .i64) Vr.v m), .box [.ptr 0 0], u.bx, .box [.bool ((((b) && vAllL m (t.kids.take k)) && vAll m (t.kids.getD k Ty.zero)))], t.bx, .box [.int .i64 ((t.kids.getD k Ty.zero).kind), .str (t.kids.getD k Ty.zero).name, .int .i64 ((t.kids.getD k Ty.zero).n), .imm ((t.kids.getD k Ty.zero).names.map AVal.str), .imm ((t.kids.getD k Ty.zero).kids.map Ty.enc)]] ?_ ?_
 refine qo ?_ ?_
 refine qy (o_add (a := ((k : Nat) : Int)) (b := 1) (by kernel_rfl) (by first | omega | assumption | exact sz_kid t k (by omega)) (by first | omega | assumption | exact sz_kid t k (by omega))) ?_ ?_ ?_
 refine qr 1 ?_ ?_
 refine qe ?_ ?_
 refine AThen_normal ⟨k + 1, ?_, ?_, ⟨⟨(by kernel_rfl), (by kernel_rfl), (by kernel_rfl), (by kernel_rfl), (by kernel_rfl), trivial⟩, by simp [BelL, AVal.bel], by simp, (Eq.trans (b := [.box [.int .i64 ((lv)), .map 1], .map (encM (AVal.int .i64) Vr.v m), .box [.ptr 0 0], .box [.int .i64 (u.kind), .str u.name, .int .i64 (u.n), .imm (u.names.map AVal.str), .imm (u.kids.map Ty.enc)], .box [.bool ((((b) && vAllL m (t.kids.take k)) && vAll m (t.kids.getD k Ty.zero)))], .box [.int .i64 (t.kind), .str t.name, .int .i64 (t.n), .imm (t.names.map AVal.str), .imm (t.kids.map Ty.enc)]]) (by kernel_rfl) (by rw [vAllL_take m t.kids k (by omega), Bool.and_assoc])), by simp [AObj.belO]⟩⟩
 · omega
 · omega
 iterate 19 kernel_rfl
 refine qf (decide_eq_false hb2) ?_ ?_
 refine wExit 0 (by kernel_rfl) (by kernel_rfl) ?_
 refine AThen_exit ?_
 refine AThen_exit ?_
 refine AIn_exit ?_
 refine AThen_normal ?_
 refine qz [(1, .fn (.func 103) [] [.ptr 2 0, .ptr 4 0]), (2, .ptr 5 0)] ?_ ?_
 refine qU 3 [(1, .fn (.func 103) [] [.ptr 2 0, .ptr 4 0]), (2, .ptr 5 0), (25, .bool ((t.kind) == 5))] ?_ ?_
 refine qt (beq_iff_eq.2 hb1) ?_ ?_
 refine qo ?_ ?_
 refine qr 2 ?_ ?_
 refine vcallA (args := [.agg [.int .i64 (t.kind), .str t.name, .int .i64 (t.n), .imm (t.names.map AVal.str), .imm (t.kids.map Ty.enc)], .ptr 2 0, .ptr 4 0]) (hs := [.box [.int .i64 (lv), .map 1], .map (encM (AVal.int .i64) Vr.v m), .box [.ptr 0 0], .box [.int .i64 (u.kind), .str u.name, .int .i64 (u.n), .imm (u.names.map AVal.str), .imm (u.kids.map Ty.enc)], .box [.bool ((b) && vAllL m (t.kids.take k))]]) (hs' := [.box [.int .i64 ((lv)), .map 1], .map (encM (AVal.int .i64) Vr.v m), .box [.ptr 0 0], .box [.int .i64 (u.kind), .str u.name, .int .i64 (u.n), .imm (u.names.map AVal.str), .imm (u.kids.map Ty.enc)], .box [.bool ((((b) && vAllL m (t.kids.take k)) && vOk m t))]]) (rest := [.box [.int .i64 (t.kind), .str t.name, .int .i64 (t.n), .imm (t.names.map AVal.str), .imm (t.kids.map Ty.enc)]]) (by kernel_rfl) (by kernel_rfl) (by kernel_rfl) (by kernel_rfl) (by kernel_rfl) (has1_spec t u (lv) m ((b) && vAllL m (t.kids.take k)) (by first | omega | assumption | exact sz_kid t k (by omega)) (by first | omega | assumption | exact sz_kid t k (by omega))) (by simp [AObj.belO, hpH, Ty.v]) (by simp [AObj.belO, hpH, Ty.v]) rfl (by simp [AObj.belO, hpH, Ty.v]) (by simp [AObj.belO, hpH, Ty.v]) (by kernel_rfl) ?_
 refine qe ?_ ?_
 refine leafA (l := []) (.inl rfl) (by kernel_rfl) (by simp [awrap]) (by simp [awrap]) (by simp [awrap]) ?_ ?_
 refine Eq.trans (b := [.box [.int .i64 ((lv)), .map 1], .map (encM (AVal.int .i64) Vr.v m), .box [.ptr 0 0], .box [.int .i64 (u.kind), .str u.name, .int .i64 (u.n), .imm (u.names.map AVal.str), .imm (u.kids.map Ty.enc)], .box [.bool ((((b) && vAllL m (t.kids.take k)) && vOk m t))]]) (by kernel_rfl) ?_
 rotate_left
 · simp [AObj.belO, hpH, Ty.v]
 iterate 19 kernel_rfl
 refine qt (x := ((t.kind) != 5)) (bne_iff_ne.2 hb1) ?_ ?_
 refine qo ?_ ?_
 refine qr 2 ?_ ?_
 refine vcallA (args := [.agg [.int .i64 (t.kind), .str t.name, .int .i64 (t.n), .imm (t.names.map AVal.str), .imm (t.kids.map Ty.enc)], .ptr 2 0, .ptr 4 0]) (hs := [.box [.int .i64 (lv), .map 1], .map (encM (AVal.int .i64) Vr.v m), .box [.ptr 0 0], .box [.int .i64 (u.kind), .str u.name, .int .i64 (u.n), .imm (u.names.map AVal.str), .imm (u.kids.map Ty.enc)], .box [.bool (b)]]) (hs' := [.box [.int .i64 ((lv)), .map 1], .map (encM (AVal.int .i64) Vr.v m), .box [.ptr 0 0], .box [.int .i64 (u.kind), .str u.name, .int .i64 (u.n), .imm (u.names.map AVal.str), .imm (u.kids.map Ty.enc)], .box [.bool (((b) && vOk m t))]]) (rest := [.box [.int .i64 (t.kind), .str t.name, .int .i64 (t.n), .imm (t.names.map AVal.str), .imm (t.kids.map Ty.enc)]]) (by kernel_rfl) (by kernel_rfl) (by kernel_rfl) (by kernel_rfl) (by kernel_rfl) (has1_spec t u (lv) m (b) (by first | omega | assumption | exact sz_kid t k (by omega)) (by first | omega | assumption | exact sz_kid t k (by omega))) (by simp [AObj.belO, hpH, Ty.v]) (by simp [AObj.belO, hpH, Ty.v]) rfl (by simp [AObj.belO, hpH, Ty.v]) (by simp [AObj.belO, hpH, Ty.v]) (by kernel_rfl) ?_
 refine qN [(1, .fn (.func 103) [] [.ptr 2 0, .ptr 4 0]), (2, .ptr 5 0)] [.box [.int .i64 ((lv)), .map 1], .map (encM (AVal.int .i64) Vr.v m), .box [.ptr 0 0], u.bx, .box [.bool (((b) && vOk m t))], t.bx] ?_ ?_
 refine qSeq ?_ ?_
 refine qV 2 ?_ ?_
 refine qy (o_lenmap (l := t.kids) (enc := Ty.enc) (by kernel_rfl) ty23) ?_ ?_ ?_
 refine qR 1 [(1, .fn (.func 103) [] [.ptr 2 0, .ptr 4 0]), (2, .ptr 5 0), (13, .imm (t.kids.map Ty.enc)), (14, nI t.kids.length), (15, .int .i64 0)] [.box [.int .i64 ((lv)), .map 1], .map (encM (AVal.int .i64) Vr.v m), .box [.ptr 0 0], u.bx, .box [.bool (((b) && vOk m t))], t.bx] ?_ ?_
 refine qB 0 ?_ ?_ ?_
 refine wLoop (σ := Nat) (fun k => [(1, .fn (.func 103) [] [.ptr 2 0, .ptr 4 0]), (2, .ptr 5 0), (13, .imm (t.kids.map Ty.enc)), (14, .int .i64 ((t.kids.length : Nat) : Int)), (15, .int .i64 ((k : Nat) : Int))]) (fun k => [.box [.int .i64 (lv), .map 1], .map (encM (AVal.int .i64) Vr.v m), .box [.ptr 0 0], .box [.int .i64 (u.kind), .str u.name, .int .i64 (u.n), .imm (u.names.map AVal.str), .imm (u.kids.map Ty.enc)], .box [.bool ((((b) && vOk m t)) && vAllL m (t.kids.take k))], .box [.int .i64 (t.kind), .str t.name, .int .i64 (t.n), .imm (t.names.map AVal.str), .imm (t.kids.map Ty.enc)]]) (fun k => k ≤ t.kids.length) (fun k => t.kids.length - k) 0 (by kernel_rfl) (by exact Nat.zero_le _) ⟨⟨(by kernel_rfl), (by kernel_rfl), (by kernel_rfl), (by kernel_rfl), (by kernel_rfl), trivial⟩, by simp [BelL, AVal.bel], by simp, (Eq.trans (b := [.box [.int .i64 ((lv)), .map 1], .map (encM (AVal.int .i64) Vr.v m), .box [.ptr 0 0], .box [.int .i64 (u.kind), .str u.name, .int .i64 (u.n), .imm (u.names.map AVal.str), .imm (u.kids.map Ty.enc)], .box [.bool (((b) && vOk m t))], .box [.int .i64 (t.kind), .str t.name, .int .i64 (t.n), .imm (t.names.map AVal.str), .imm (t.kids.map Ty.enc)]]) (by kernel_rfl) (by simp [vAllL])), by simp [AObj.belO]⟩ ?_
 rintro k hk
 refine qW 1 [(1, .fn (.func 103) [] [.ptr 2 0, .ptr 4 0]), (2, .ptr 5 0), (13, .imm (t.kids.map Ty.enc)), (14, nI t.kids.length), (15, nI k), (16, .bool (decide (((k : Nat) : Int) < ((t.kids.length : Nat) : Int))))] [.box [.int .i64 (lv), .map 1], .map (encM (AVal.int .i64) Vr.v m), .box [.ptr 0 0], u.bx, .box [.bool ((((b) && vOk m t)) && vAllL m (t.kids.take k))], t.bx] ?_ ?_
 refine qSeq ?_ ?_
 by_cases hb4 : ((k : Nat) : Int) < ((t.kids.length : Nat) : Int)
 refine qt (decide_eq_true hb4) ?_ ?_
 refine qK ?_ ?_
 refine qz [(1, .fn (.func 103) [] [.ptr 2 0, .ptr 4 0]), (2, .ptr 5 0), (13, .imm (t.kids.map Ty.enc)), (14, nI t.kids.length), (15, nI k)] ?_ ?_
 refine qSeq ?_ ?_
 refine qB 1 ?_ ?_ ?_
 refine qO ?_ ?_
 refine qy ((o_ixmap (k := .i64) (l := t.kids) (enc := Ty.enc) (i := ((k : Nat) : Int)) Ty.zero (by kernel_rfl) ty23 ty25 ty_size (by first | omega | assumption | exact sz_kid t k (by omega)) (by first | omega | assumption | exact sz_kid t k (by omega))).trans (congrArg (fun cs => some (AVal.pimm cs 0, _)) (ty_cells (t.kids.getD k Ty.zero)))) ?_ ?_ ?_
 refine qR 3 [(1, .fn (.func 103) [] [.ptr 2 0, .ptr 4 0]), (2, .ptr 5 0), (5, .ptr 6 0), (13, .imm (t.kids.map Ty.enc)), (14, nI t.kids.length), (15, nI k)] [.box [.int .i64 (lv), .map 1], .map (encM (AVal.int .i64) Vr.v m), .box [.ptr 0 0], u.bx, .box [.bool ((((b) && vOk m t)) && vAllL m (t.kids.take k))], t.bx, .box [.int .i64 ((t.kids.getD k Ty.zero).kind), .str (t.kids.getD k Ty.zero).name, .int .i64 ((t.kids.getD k Ty.zero).n), .imm ((t.kids.getD k Ty.zero).names.map AVal.str), .imm ((t.kids.getD k Ty.zero).kids.map Ty.enc)]] ?_ ?_
 refine qo ?_ ?_
 refine qr 2 ?_ ?_
 refine vcallA (args := [.agg [.int .i64 ((t.kids.getD k Ty.zero).kind), .str (t.kids.getD k Ty.zero).name, .int .i64 ((t.kids.getD k Ty.zero).n), .imm ((t.kids.getD k Ty.zero).names.map AVal.str), .imm ((t.kids.getD k Ty.zero).kids.map Ty.enc)], .fn (.func 103) [] [.ptr 2 0, .ptr 4 0]]) (hs := [.box [.int .i64 (lv), .map 1], .map (encM (AVal.int .i64) Vr.v m), .box [.ptr 0 0], .box [.int .i64 (u.kind), .str u.name, .int .i64 (u.n), .imm (u.names.map AVal.str), .imm (u.kids.map Ty.enc)], .box [.bool ((((b) && vOk m t)) && vAllL m (t.kids.take k))]]) (hs' := [.box [.int .i64 ((lv)), .map 1], .map (encM (AVal.int .i64) Vr.v m), .box [.ptr 0 0], .box [.int .i64 (u.kind), .str u.name, .int .i64 (u.n), .imm (u.names.map AVal.str), .imm (u.kids.map Ty.enc)], .box [.bool ((((((b) && vOk m t)) && vAllL m (t.kids.take k)) && vAll m (t.kids.getD k Ty.zero)))]]) (rest := [.box [.int .i64 (t.kind), .str t.name, .int .i64 (t.n), .imm (t.names.map AVal.str), .imm (t.kids.map Ty.enc)], .box [.int .i64 ((t.kids.getD k Ty.zero).kind), .str (t.kids.getD k Ty.zero).name, .int .i64 ((t.kids.getD k Ty.zero).n), .imm ((t.kids.getD k Ty.zero).names.map AVal.str), .imm ((t.kids.getD k Ty.zero).kids.map Ty.enc)]]) (by kernel_rfl) (by kernel_rfl) (by kernel_rfl) (by kernel_rfl) (by kernel_rfl) (ihV (t.kids.getD k Ty.zero) u ((((b) && vOk m t)) && vAllL m (t.kids.take k)) (by first | omega | assumption | exact sz_kid t k (by omega))) (by simp [AObj.belO, hpH, Ty.v]) (by simp [AObj.belO, hpH, Ty.v]) rfl (by simp [AObj.belO, hpH, Ty.v]) (by simp [AObj.belO, hpH, Ty.v]) (by kernel_rfl) ?_
 refine qe ?_ ?_
 refine AIn_normal ?_
 refine AThen_normal ?_
 refine qZ [(1, .fn (.func 103) [] [.ptr 2 0, .ptr 4 0]), (2, .ptr 5 0), (13, .imm (t.kids.map Ty.enc)), (14, nI t.kids.length), (15, nI k)] [.box [.int .i64 ((lv)), .map 1], .map (encM (AVal.int .i64) Vr.v m), .box [.ptr 0 0], u.bx, .box [.bool ((((((b) && vOk m t)) && vAllL m (t.kids.take k)) && vAll m (t.kids.getD k Ty.zero)))], t.bx, .box [.int .i64 ((t.kids.getD k Ty.zero).kind), .str (t.kids.getD k Ty.zero).name, .int .i64 ((t.kids.getD k Ty.zero).n), .imm ((t.kids.getD k Ty.zero).names.map AVal.str), .imm ((t.kids.getD k Ty.zero).kids.map Ty.enc)]] ?_ ?_
 refine qo ?_ ?_
 refine qy (o_add (a := ((k : Nat) : Int)) (b := 1) (by kernel_rfl) (by first | omega | assumption | exact sz_kid t k (by omega)) (by first | omega | assumption | exact sz_kid t k (by omega))) ?_ ?_ ?_
 refine qr 1 ?_ ?_
 refine qe ?_ ?_
 refine AThen_normal ⟨k + 1, ?_, ?_, ⟨⟨(by kernel_rfl), (by kernel_rfl), (by kernel_rfl), (by kernel_rfl), (by kernel_rfl), trivial⟩, by simp [BelL, AVal.bel], by simp, (Eq.trans (b := [.box [.int .i64 ((lv)), .map 1], .map (encM (AVal.int .i64) Vr.v m), .box [.ptr 0 0], .box [.int .i64 (u.kind), .str u.name, .int .i64 (u.n), .imm (u.names.map AVal.str), .imm (u.kids.map Ty.enc)], .box [.bool ((((((b) && vOk m t)) && vAllL m (t.kids.take k)) && vAll m (t.kids.getD k Ty.zero)))], .box [.int .i64 (t.kind), .str t.name, .int .i64 (t.n), .imm (t.names.map AVal.str), .imm (t.kids.map Ty.enc)]]) (by kernel_rfl) (by rw [vAllL_take m t.kids k (by omega), Bool.and_assoc])), by simp [AObj.belO]⟩⟩
 · omega
 · omega
 iterate 19 kernel_rfl
 refine qf (decide_eq_false hb4) ?_ ?_
 refine wExit 0 (by kernel_rfl) (by kernel_rfl) ?_
 refine AThen_exit ?_
 refine AThen_exit ?_
 refine AIn_exit ?_
 refine AThen_normal ?_
 refine qz [(1, .fn (.func 103) [] [.ptr 2 0, .ptr 4 0]), (2, .ptr 5 0)] ?_ ?_
 refine qU 3 [(1, .fn (.func 103) [] [.ptr 2 0, .ptr 4 0]), (2, .ptr 5 0), (25, .bool ((t.kind) == 5))] ?_ ?_
 refine qf (beq_eq_false_iff_ne.2 hb1) ?_ ?_
 refine qk ?_ ?_
 refine leafA (l := []) (.inl rfl) (by kernel_rfl) (by simp [awrap]) (by simp [awrap]) (by simp [awrap]) ?_ ?_
 refine Eq.trans (b := [.box [.int .i64 (lv), .map 1], .map (encM (AVal.int .i64) Vr.v m), .box [.ptr 0 0], .box [.int .i64 (u.kind), .str u.name, .int .i64 (u.n), .imm (u.names.map AVal.str), .imm (u.kids.map Ty.enc)], .box [.bool ((((b) && vOk m t)) && vAllL m (t.kids.take k))]]) (by kernel_rfl) ?_
 rotate_left
 · simp [AObj.belO, hpH, Ty.v]
 iterate 22 kernel_rfl
 all_goals
  refine congrArg (hpH lv m u) ?_
  rw [vAll_eq, List.take_of_length_le (by omega)]
  first | (rw [Bool.and_assoc]; done) | (rw [Bool.and_assoc, Bool.and_comm (vAllL m t.kids)]; done)
noncomputable def c64 : Code := bodyOf Tryz.f64
theorem has_S (t : Ty) (lv : Int) (m : St) (hs : t.sz < 100000000) (hm : stSm m) : CallsA cx 64 [.ptr 0 0, Ty.v t] (hpS lv m) (fun v h => v = (.bool (hasB m t)) ∧ h = hpS lv m) := by
 refine func_intro (cx := cx) 12 2 [(ResultVar.tmp 4)] Tryz.func64 rfl rfl rfl rfl rfl (by simp) ?_
 show wpA cx 12 2 (at_ c64 []) _ _ _
 refine qZ [(0, .ptr 0 0), (1, Ty.v t)] [.box [.int .i64 (lv), .map 1], .map (encM (AVal.int .i64) Vr.v m)] ?_ ?_
 refine qW 3 [(2, .ptr 2 0), (3, .ptr 3 0)] [.box [.int .i64 (lv), .map 1], .map (encM (AVal.int .i64) Vr.v m), .box [.ptr 0 0], t.bx] ?_ ?_
 refine qV 1 ?_ ?_
 refine vcallP (args := [.agg [.int .i64 (t.kind), .str t.name, .int .i64 (t.n), .imm (t.names.map AVal.str), .imm (t.kids.map Ty.enc)]]) (by kernel_rfl) (by kernel_rfl) (by kernel_rfl) (by kernel_rfl) (tvalid_spec t (by first | omega | assumption)) (by simp [Ty.v, frzL_app, Occ.v]) (by simp [Ty.v]) (by simp [Ty.v, ownsL_app]) ?_
 refine qR 2 [(2, .ptr 2 0), (3, .ptr 3 0), (5, .ptr 4 0)] [.box [.int .i64 (lv), .map 1], .map (encM (AVal.int .i64) Vr.v m), .box [.ptr 0 0], t.bx, .box [.bool (validB t)]] ?_ ?_
 refine qV 2 ?_ ?_
 refine vcallA (args := [.agg [.int .i64 (t.kind), .str t.name, .int .i64 (t.n), .imm (t.names.map AVal.str), .imm (t.kids.map Ty.enc)], .fn (.func 103) [] [.ptr 2 0, .ptr 4 0]]) (hs := [.box [.int .i64 (lv), .map 1], .map (encM (AVal.int .i64) Vr.v m), .box [.ptr 0 0], .box [.int .i64 (t.kind), .str t.name, .int .i64 (t.n), .imm (t.names.map AVal.str), .imm (t.kids.map Ty.enc)], .box [.bool (validB t)]]) (hs' := [.box [.int .i64 ((lv)), .map 1], .map (encM (AVal.int .i64) Vr.v m), .box [.ptr 0 0], .box [.int .i64 (t.kind), .str t.name, .int .i64 (t.n), .imm (t.names.map AVal.str), .imm (t.kids.map Ty.enc)], .box [.bool (((validB t) && vAll m t))]]) (rest := []) (by kernel_rfl) (by kernel_rfl) (by kernel_rfl) (by kernel_rfl) (by kernel_rfl) (visitH_spec t t (lv) m (validB t) (by first | omega | assumption) (by first | omega | assumption)) (by simp [AObj.belO, hpH, hpS, Ty.v]) (by simp [AObj.belO, hpH, hpS, Ty.v]) rfl (by simp [AObj.belO, hpH, hpS, Ty.v]) (by simp [AObj.belO, hpH, hpS, Ty.v]) (by kernel_rfl) ?_
 refine qN [(5, .ptr 4 0)] [.box [.int .i64 ((lv)), .map 1], .map (encM (AVal.int .i64) Vr.v m), .box [.ptr 0 0], t.bx, .box [.bool (((validB t) && vAll m t))]] ?_ ?_
 refine qU 2 [(4, .bool (((validB t) && vAll m t)))] ?_ ?_
 refine wRet (by kernel_rfl) ?_
 refine leafA (l := [.bool (((validB t) && vAll m t))]) (.inr rfl) (by kernel_rfl) (by simp [awrap, hasB]) (by simp [awrap]) (by simp [awrap]) ?_ ?_
 refine Eq.trans (b := [.box [.int .i64 ((lv)), .map 1], .map (encM (AVal.int .i64) Vr.v m)]) (by kernel_rfl) ?_
 · rfl
 · simp [AObj.belO, hpH, hpS, Ty.v]
 iterate 7 kernel_rfl
end Go.Proofs.YtdikgijfekfaoaaGreatDoor
