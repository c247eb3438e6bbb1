/- Table, Sum and Referrers, in both packages, and Short. Condition: sizes that can be had. -/
import Derived.Test.YtindpcpdkikdmaaGreatDoorCN
set_option linter.all false
namespace Go.Proofs.YtindpcpdkikdmaaGreatDoor
open Go.Proofs.YtindpcpdkikdmaaGreatDoor.Abs
set_option maxRecDepth 20000
set_option maxHeartbeats 4000000
def tbOf (l : List Tb) (n : List UInt8) : Tb := (l.find? (fun t => t.name == n)).getD Tb.zero
def tbHas (l : List Tb) (n : List UInt8) : Bool := (l.find? (fun t => t.name == n)).isSome
def smOf (l : List Sm) (n : List UInt8) : Sm := (l.find? (fun t => t.name == n)).getD Sm.zero
def smHas (l : List Sm) (n : List UInt8) : Bool := (l.find? (fun t => t.name == n)).isSome
theorem find_at {α : Type} (p : α → Bool) (d : α) : ∀ (l : List α) (k : Nat), k < l.length → (∀ i, i < k → p (l.getD i d) = false) → p (l.getD k d) = true → l.find? p = some (l.getD k d)
  | [], k, h, _, _ => by simp at h
  | x :: l, 0, _, _, hp => by simp at hp; simp [List.find?, hp]
  | x :: l, k + 1, h, ha, hp => by
    have h0 := ha 0 (by omega)
    simp at h0
    have := find_at p d l k (by simpa using h) (fun i hi => by have := ha (i + 1) (by omega); simpa using this) (by simpa using hp)
    simp only [List.find?, h0]
    rw [this]; simp
theorem find_no {α : Type} (p : α → Bool) (d : α) (l : List α) (ha : ∀ i, i < l.length → p (l.getD i d) = false) : l.find? p = none := by
  rw [List.find?_eq_none]
  intro x hx
  obtain ⟨i, hi, rfl⟩ := List.getElem_of_mem hx
  have := ha i hi
  rw [List.getD_eq_getElem?_getD, List.getElem?_eq_getElem hi] at this
  simpa using this
theorem tb_at {l : List Tb} {n : List UInt8} {k : Nat} (hk : k < l.length) (ha : ∀ i, i < k → ¬ (l.getD i Tb.zero).name = n) (h : (l.getD k Tb.zero).name = n) : tbOf l n = l.getD k Tb.zero ∧ tbHas l n = true := by
  have := find_at (fun t : Tb => t.name == n) Tb.zero l k hk (fun i hi => by simpa using ha i hi) (by simpa using h)
  unfold tbOf tbHas; rw [this]; exact ⟨rfl, rfl⟩
theorem tb_no {l : List Tb} {n : List UInt8} (ha : ∀ i, i < l.length → ¬ (l.getD i Tb.zero).name = n) : tbOf l n = Tb.zero ∧ tbHas l n = false := by
  have := find_no (fun t : Tb => t.name == n) Tb.zero l (fun i hi => by simpa using ha i hi)
  unfold tbOf tbHas; rw [this]; exact ⟨rfl, rfl⟩
theorem sm_at {l : List Sm} {n : List UInt8} {k : Nat} (hk : k < l.length) (ha : ∀ i, i < k → ¬ (l.getD i Sm.zero).name = n) (h : (l.getD k Sm.zero).name = n) : smOf l n = l.getD k Sm.zero ∧ smHas l n = true := by
  have := find_at (fun t : Sm => t.name == n) Sm.zero l k hk (fun i hi => by simpa using ha i hi) (by simpa using h)
  unfold smOf smHas; rw [this]; exact ⟨rfl, rfl⟩
theorem sm_no {l : List Sm} {n : List UInt8} (ha : ∀ i, i < l.length → ¬ (l.getD i Sm.zero).name = n) : smOf l n = Sm.zero ∧ smHas l n = false := by
  have := find_no (fun t : Sm => t.name == n) Sm.zero l (fun i hi => by simpa using ha i hi)
  unfold smOf smHas; rw [this]; exact ⟨rfl, rfl⟩
theorem tb_gone {l : List Tb} {n : List UInt8} (h : ¬ tbHas l n = true) : tbOf l n = Tb.zero := by
  unfold tbHas at h; unfold tbOf
  cases hf : l.find? (fun t => t.name == n) with
  | none => rfl
  | some x => rw [hf] at h; exact absurd rfl h
theorem tbOf_or (l : List Tb) (n : List UInt8) : tbOf l n ∈ l ∨ tbOf l n = Tb.zero := by
  unfold tbOf
  cases hf : l.find? (fun t => t.name == n) with
  | none => exact .inr rfl
  | some x => exact .inl (List.mem_of_find?_eq_some hf)
theorem smOf_or (l : List Sm) (n : List UInt8) : smOf l n ∈ l ∨ smOf l n = Sm.zero := by
  unfold smOf
  cases hf : l.find? (fun t => t.name == n) with
  | none => exact .inr rfl
  | some x => exact .inl (List.mem_of_find?_eq_some hf)
theorem tbz_sm : Tb.zero.sm := ⟨by simp [Tb.zero], (fun c hc => by cases hc), by simp [Tb.zero], by simp [Tb.zero], by decide⟩
theorem smz_sm : Sm.zero.sm := ⟨by simp [Sm.zero], fun c hc => by cases hc⟩
theorem tbOf_sm {s : Sc} (h : s.sm) (n : List UInt8) : (tbOf s.tabs n).sm := by
  rcases tbOf_or s.tabs n with h1 | h1
  · exact h.2.2.2 _ h1
  · rw [h1]; exact tbz_sm
theorem smOf_sm {s : Sc} (h : s.sm) (n : List UInt8) : (smOf s.sums n).sm := by
  rcases smOf_or s.sums n with h1 | h1
  · exact h.2.1 _ h1
  · rw [h1]; exact smz_sm
theorem cloneCo (l : List Co) (hn : l.length < 1000000000) : CallsP cx 44 [.imm (l.map Co.v)] (.imm (l.map Co.v)) :=
  CallsP_post (clone44 (l.map Co.v) [] (rowOk_map (fun _ => rfl) l) (by simp [fits]; omega) rfl (belL_cos _ l)) (by rintro v h ⟨rfl, rfl⟩; simp [AVal.frz, frzL]) (by simp)
theorem cloneStr (l : List (List UInt8)) (hn : l.length < 1000000000) : CallsP cx 45 [.imm (l.map .str)] (.imm (l.map .str)) :=
  CallsP_post (clone45 (l.map .str) [] (rowOk_map (fun _ => rfl) l) (by simp [fits]; omega) rfl (belL_strs _ l)) (by rintro v h ⟨rfl, rfl⟩; simp [AVal.frz, frzL]) (by simp)
theorem cloneRf (l : List Rf) (hn : l.length < 1000000000) : CallsP cx 46 [.imm (l.map Rf.v)] (.imm (l.map Rf.v)) :=
  CallsP_post (clone46 (l.map Rf.v) [] (rowOk_map (fun _ => rfl) l) (by simp [fits]; omega) rfl (belL_rfs _ l)) (by rintro v h ⟨rfl, rfl⟩; simp [AVal.frz, frzL]) (by simp)
theorem cloneCt (l : List Ct) (hn : l.length < 1000000000) : CallsP cx 49 [.imm (l.map Ct.v)] (.imm (l.map Ct.v)) :=
  CallsP_post (clone49 (l.map Ct.v) [] (rowOk_map (fun _ => rfl) l) (by simp [fits]; omega) rfl (belL_cts _ l)) (by rintro v h ⟨rfl, rfl⟩; simp [AVal.frz, frzL]) (by simp)
noncomputable def c43 : Code := bodyOf Tryz.f43
theorem nameTb_spec (t : Tb)  : CallsP cx 43 [Tb.v t] (.str t.name) := by
 refine func_intro (cx := cx) 5 0 [(ResultVar.tmp 2)] Tryz.func43 rfl rfl rfl rfl rfl (by simp) ?_
 show wpA cx 5 0 (at_ c43 []) _ _ _
 refine qZ [(0, Tb.v t)] [] ?_ ?_
 refine qW 2 [(1, .ptr 0 0)] [.box [.str t.name, .imm (t.cols.map Co.v), .imm (t.key.map AVal.str), .imm (t.refs.map Rf.v), .int .i64 (t.chk.kind), .str t.chk.name, .int .i64 (t.chk.n), .str t.chk.s, .imm (t.chk.names.map AVal.str), .imm (t.chk.binds.map AVal.str), .imm (t.chk.kids.map Ex.enc), .int .i64 (t.chk.pos), .int .i64 (t.chk.fin)]] ?_ ?_
 refine qU 3 [(2, .str t.name)] ?_ ?_
 refine wRet (by kernel_rfl) ?_
 refine leafS (s := t.name) (.inr rfl) (by kernel_rfl) ?_
 · rfl
 iterate 3 kernel_rfl
noncomputable def c48 : Code := bodyOf Tryz.f48
theorem nameSm_spec (t : Sm)  : CallsP cx 48 [Sm.v t] (.str t.name) := by
 refine func_intro (cx := cx) 5 0 [(ResultVar.tmp 2)] Tryz.func48 rfl rfl rfl rfl rfl (by simp) ?_
 show wpA cx 5 0 (at_ c48 []) _ _ _
 refine qZ [(0, Sm.v t)] [] ?_ ?_
 refine qW 2 [(1, .ptr 0 0)] [.box [.str t.name, .imm (t.ctors.map Ct.v)]] ?_ ?_
 refine qU 3 [(2, .str t.name)] ?_ ?_
 refine wRet (by kernel_rfl) ?_
 refine leafS (s := t.name) (.inr rfl) (by kernel_rfl) ?_
 · rfl
 iterate 3 kernel_rfl
noncomputable def c42 : Code := bodyOf Tryz.f42
theorem namedTb_spec (l : List Tb) (n : List UInt8) (hn : l.length < 1000000000) : CallsP cx 42 [.imm (l.map Tb.v), .fn (.func 43) [] [], .str n] (.tup [Tb.v (tbOf l n), .bool (tbHas l n)]) := by
 refine func_intro (cx := cx) 25 0 [(ResultVar.cell 6 41), (ResultVar.tmp 7)] Tryz.func42 rfl rfl rfl rfl rfl (by simp) ?_
 show wpA cx 25 0 (at_ c42 []) _ _ _
 refine qZ [(0, .imm (l.map Tb.v)), (1, .fn (.func 43) [] []), (2, .str n)] [] ?_ ?_
 refine qW 2 [(0, .imm (l.map Tb.v)), (1, .fn (.func 43) [] []), (2, .str n), (6, .ptr 0 0)] [.box [.str [], .full [], .full [], .full [], .int .i64 0, .str [], .int .i64 0, .str [], .full [], .full [], .full [], .int .i64 0, .int .i64 0]] ?_ ?_
 refine qSeq ?_ ?_
 refine qV 1 ?_ ?_
 refine qy (o_lenmap (l := l) (enc := Tb.v) (by kernel_rfl) ty24) ?_ ?_ ?_
 refine qR 1 [(1, .fn (.func 43) [] []), (2, .str n), (6, .ptr 0 0), (11, .imm (l.map Tb.v)), (12, nI l.length), (13, .int .i64 0)] [.box [.str [], .full [], .full [], .full [], .int .i64 0, .str [], .int .i64 0, .str [], .full [], .full [], .full [], .int .i64 0, .int .i64 0]] ?_ ?_
 refine qB 0 ?_ ?_ ?_
 refine wLoop (σ := Nat) (fun k => [(1, .fn (.func 43) [] []), (2, .str n), (6, .ptr 0 0), (11, .imm (l.map Tb.v)), (12, .int .i64 ((l.length : Nat) : Int)), (13, .int .i64 ((k : Nat) : Int))]) (fun k => [.box [.str [], .full [], .full [], .full [], .int .i64 0, .str [], .int .i64 0, .str [], .full [], .full [], .full [], .int .i64 0, .int .i64 0]]) (fun k => k ≤ l.length ∧ ∀ i, i < k → ¬ (l.getD i Tb.zero).name = n) (fun k => l.length - k) 0 (by kernel_rfl) (by exact ⟨Nat.zero_le _, fun i h => absurd h (Nat.not_lt_zero i)⟩) ⟨⟨(by kernel_rfl), (by kernel_rfl), (by kernel_rfl), (by kernel_rfl), (by kernel_rfl), (by kernel_rfl), trivial⟩, by simp [BelL, AVal.bel], by simp, (by kernel_rfl), by simp [AObj.belO, AVal.bel, belL]⟩ ?_
 rintro k ⟨hk, ha⟩
 refine qW 1 [(1, .fn (.func 43) [] []), (2, .str n), (6, .ptr 0 0), (11, .imm (l.map Tb.v)), (12, nI l.length), (13, nI k), (14, .bool (decide (((k : Nat) : Int) < ((l.length : Nat) : Int))))] [.box [.str [], .full [], .full [], .full [], .int .i64 0, .str [], .int .i64 0, .str [], .full [], .full [], .full [], .int .i64 0, .int .i64 0]] ?_ ?_
 refine qSeq ?_ ?_
 by_cases hb1 : ((k : Nat) : Int) < ((l.length : Nat) : Int)
 refine qt (decide_eq_true hb1) ?_ ?_
 refine qK ?_ ?_
 refine qz [(1, .fn (.func 43) [] []), (2, .str n), (6, .ptr 0 0), (11, .imm (l.map Tb.v)), (12, nI l.length), (13, nI k)] ?_ ?_
 refine qSeq ?_ ?_
 refine qB 1 ?_ ?_ ?_
 refine qO ?_ ?_
 refine qy ((o_ixmap (k := .i64) (l := l) (enc := Tb.v) (i := ((k : Nat) : Int)) Tb.zero (by kernel_rfl) ty24 ty41 (fun _ => rfl) (by omega) (by omega)).trans (congrArg (fun cs => some (AVal.pimm cs 0, _)) (tb_cells (l.getD k Tb.zero)))) ?_ ?_ ?_
 refine qR 3 [(1, .fn (.func 43) [] []), (2, .str n), (6, .ptr 0 0), (9, .ptr 1 0), (11, .imm (l.map Tb.v)), (12, nI l.length), (13, nI k)] [.box [.str [], .full [], .full [], .full [], .int .i64 0, .str [], .int .i64 0, .str [], .full [], .full [], .full [], .int .i64 0, .int .i64 0], .box [.str (l.getD k Tb.zero).name, .imm ((l.getD k Tb.zero).cols.map Co.v), .imm ((l.getD k Tb.zero).key.map AVal.str), .imm ((l.getD k Tb.zero).refs.map Rf.v), .int .i64 ((l.getD k Tb.zero).chk.kind), .str (l.getD k Tb.zero).chk.name, .int .i64 ((l.getD k Tb.zero).chk.n), .str (l.getD k Tb.zero).chk.s, .imm ((l.getD k Tb.zero).chk.names.map AVal.str), .imm ((l.getD k Tb.zero).chk.binds.map AVal.str), .imm ((l.getD k Tb.zero).chk.kids.map Ex.enc), .int .i64 ((l.getD k Tb.zero).chk.pos), .int .i64 ((l.getD k Tb.zero).chk.fin)]] ?_ ?_
 refine qV 2 ?_ ?_
 refine vcallP (args := [.agg [.str (l.getD k Tb.zero).name, .imm ((l.getD k Tb.zero).cols.map Co.v), .imm ((l.getD k Tb.zero).key.map AVal.str), .imm ((l.getD k Tb.zero).refs.map Rf.v), .int .i64 ((l.getD k Tb.zero).chk.kind), .str (l.getD k Tb.zero).chk.name, .int .i64 ((l.getD k Tb.zero).chk.n), .str (l.getD k Tb.zero).chk.s, .imm ((l.getD k Tb.zero).chk.names.map AVal.str), .imm ((l.getD k Tb.zero).chk.binds.map AVal.str), .imm ((l.getD k Tb.zero).chk.kids.map Ex.enc), .int .i64 ((l.getD k Tb.zero).chk.pos), .int .i64 ((l.getD k Tb.zero).chk.fin)]]) (by kernel_rfl) (by kernel_rfl) (by kernel_rfl) (by kernel_rfl) (nameTb_spec (l.getD k Tb.zero)) (by simp [Ty.v, Ex.v, Ct.v, Co.v, Rf.v, Sm.v, Tb.v, Sc.v]) (by simp [Ty.v, Ex.v, Ct.v, Co.v, Rf.v, Sm.v, Tb.v, Sc.v]) (by simp [Ty.v, Ex.v, Ct.v, Co.v, Rf.v, Sm.v, Tb.v, Sc.v]) ?_
 refine qR 2 [(1, .fn (.func 43) [] []), (2, .str n), (6, .ptr 0 0), (9, .ptr 1 0), (11, .imm (l.map Tb.v)), (12, nI l.length), (13, nI k), (21, .bool ((l.getD k Tb.zero).name == n))] [.box [.str [], .full [], .full [], .full [], .int .i64 0, .str [], .int .i64 0, .str [], .full [], .full [], .full [], .int .i64 0, .int .i64 0], .box [.str (l.getD k Tb.zero).name, .imm ((l.getD k Tb.zero).cols.map Co.v), .imm ((l.getD k Tb.zero).key.map AVal.str), .imm ((l.getD k Tb.zero).refs.map Rf.v), .int .i64 ((l.getD k Tb.zero).chk.kind), .str (l.getD k Tb.zero).chk.name, .int .i64 ((l.getD k Tb.zero).chk.n), .str (l.getD k Tb.zero).chk.s, .imm ((l.getD k Tb.zero).chk.names.map AVal.str), .imm ((l.getD k Tb.zero).chk.binds.map AVal.str), .imm ((l.getD k Tb.zero).chk.kids.map Ex.enc), .int .i64 ((l.getD k Tb.zero).chk.pos), .int .i64 ((l.getD k Tb.zero).chk.fin)]] ?_ ?_
 by_cases hb2 : (l.getD k Tb.zero).name = n
 refine qt (beq_iff_eq.2 hb2) ?_ ?_
 refine qW 3 [(6, .ptr 0 0), (7, .bool true)] [.box [.str (l.getD k Tb.zero).name, .imm ((l.getD k Tb.zero).cols.map Co.v), .imm ((l.getD k Tb.zero).key.map AVal.str), .imm ((l.getD k Tb.zero).refs.map Rf.v), .int .i64 ((l.getD k Tb.zero).chk.kind), .str (l.getD k Tb.zero).chk.name, .int .i64 ((l.getD k Tb.zero).chk.n), .str (l.getD k Tb.zero).chk.s, .imm ((l.getD k Tb.zero).chk.names.map AVal.str), .imm ((l.getD k Tb.zero).chk.binds.map AVal.str), .imm ((l.getD k Tb.zero).chk.kids.map Ex.enc), .int .i64 ((l.getD k Tb.zero).chk.pos), .int .i64 ((l.getD k Tb.zero).chk.fin)], .box [.str (l.getD k Tb.zero).name, .imm ((l.getD k Tb.zero).cols.map Co.v), .imm ((l.getD k Tb.zero).key.map AVal.str), .imm ((l.getD k Tb.zero).refs.map Rf.v), .int .i64 ((l.getD k Tb.zero).chk.kind), .str (l.getD k Tb.zero).chk.name, .int .i64 ((l.getD k Tb.zero).chk.n), .str (l.getD k Tb.zero).chk.s, .imm ((l.getD k Tb.zero).chk.names.map AVal.str), .imm ((l.getD k Tb.zero).chk.binds.map AVal.str), .imm ((l.getD k Tb.zero).chk.kids.map Ex.enc), .int .i64 ((l.getD k Tb.zero).chk.pos), .int .i64 ((l.getD k Tb.zero).chk.fin)]] ?_ ?_
 refine wRet (by kernel_rfl) ?_
 apply iR
 apply aR
 apply aR
 apply iR
 apply aR
 refine leafP (l := [.agg [.str (l.getD k Tb.zero).name, .imm ((l.getD k Tb.zero).cols.map Co.v), .imm ((l.getD k Tb.zero).key.map AVal.str), .imm ((l.getD k Tb.zero).refs.map Rf.v), .int .i64 ((l.getD k Tb.zero).chk.kind), .str (l.getD k Tb.zero).chk.name, .int .i64 ((l.getD k Tb.zero).chk.n), .str (l.getD k Tb.zero).chk.s, .imm ((l.getD k Tb.zero).chk.names.map AVal.str), .imm ((l.getD k Tb.zero).chk.binds.map AVal.str), .imm ((l.getD k Tb.zero).chk.kids.map Ex.enc), .int .i64 ((l.getD k Tb.zero).chk.pos), .int .i64 ((l.getD k Tb.zero).chk.fin)], .bool true]) (.inr rfl) (by kernel_rfl) ?_
 rotate_left
 iterate 2 kernel_rfl
 refine qf (beq_eq_false_iff_ne.2 hb2) ?_ ?_
 refine qk ?_ ?_
 refine AIn_normal ?_
 refine AThen_normal ?_
 refine qz [(1, .fn (.func 43) [] []), (2, .str n), (6, .ptr 0 0), (11, .imm (l.map Tb.v)), (12, nI l.length), (13, nI k)] ?_ ?_
 refine qo ?_ ?_
 refine qy (o_add (a := ((k : Nat) : Int)) (b := 1) (by kernel_rfl) (by omega) (by omega)) ?_ ?_ ?_
 refine qr 1 ?_ ?_
 refine qe ?_ ?_
 refine AThen_normal ⟨k + 1, ?_, ?_, ⟨⟨(by kernel_rfl), (by kernel_rfl), (by kernel_rfl), (by kernel_rfl), (by kernel_rfl), (by kernel_rfl), trivial⟩, by simp [BelL, AVal.bel], by simp, (by kernel_rfl), by simp [AObj.belO, AVal.bel, belL]⟩⟩
 · omega
 · refine ⟨by omega, fun i hi => ?_⟩
   rcases Nat.lt_succ_iff_lt_or_eq.1 hi with h | h
   · exact ha i h
   · subst h; assumption
 iterate 20 kernel_rfl
 refine qf (decide_eq_false hb1) ?_ ?_
 refine wExit 0 (by kernel_rfl) (by kernel_rfl) ?_
 refine AThen_exit ?_
 refine AThen_exit ?_
 refine AIn_exit ?_
 refine AThen_normal ?_
 refine qz [(6, .ptr 0 0)] ?_ ?_
 refine qW 1 [(6, .ptr 0 0), (10, .ptr 1 0)] [.box [.str [], .full [], .full [], .full [], .int .i64 0, .str [], .int .i64 0, .str [], .full [], .full [], .full [], .int .i64 0, .int .i64 0], .box [.str [], .full [], .full [], .full [], .int .i64 0, .str [], .int .i64 0, .str [], .full [], .full [], .full [], .int .i64 0, .int .i64 0]] ?_ ?_
 refine qU 3 [(6, .ptr 0 0), (7, .bool false)] ?_ ?_
 refine wRet (by kernel_rfl) ?_
 refine leafP (l := [.agg [.str [], .full [], .full [], .full [], .int .i64 0, .str [], .int .i64 0, .str [], .full [], .full [], .full [], .int .i64 0, .int .i64 0], .bool false]) (.inr rfl) (by kernel_rfl) ?_
 rotate_left
 iterate 15 kernel_rfl
 all_goals
  first | (rw [(tb_at (l := l) (n := n) (k := k) (by omega) ha (by assumption)).1, (tb_at (l := l) (n := n) (k := k) (by omega) ha (by assumption)).2]; simp [awrap, AVal.frz, frzL, Tb.v, Sm.v]; done) | (rw [(tb_no (l := l) (n := n) (fun i hi => ha i (by omega))).1, (tb_no (l := l) (n := n) (fun i hi => ha i (by omega))).2]; simp [awrap, AVal.frz, frzL, Tb.v, Tb.zero, Ex.zero, Ex.v, Ex.kind, Ex.name, Ex.n, Ex.s, Ex.names, Ex.binds, Ex.kids, Ex.pos, Ex.fin]; done)
noncomputable def c47 : Code := bodyOf Tryz.f47
theorem namedSm_spec (l : List Sm) (n : List UInt8) (hn : l.length < 1000000000) : CallsP cx 47 [.imm (l.map Sm.v), .fn (.func 48) [] [], .str n] (.tup [Sm.v (smOf l n), .bool (smHas l n)]) := by
 refine func_intro (cx := cx) 25 0 [(ResultVar.cell 6 46), (ResultVar.tmp 7)] Tryz.func47 rfl rfl rfl rfl rfl (by simp) ?_
 show wpA cx 25 0 (at_ c47 []) _ _ _
 refine qZ [(0, .imm (l.map Sm.v)), (1, .fn (.func 48) [] []), (2, .str n)] [] ?_ ?_
 refine qW 2 [(0, .imm (l.map Sm.v)), (1, .fn (.func 48) [] []), (2, .str n), (6, .ptr 0 0)] [.box [.str [], .full []]] ?_ ?_
 refine qSeq ?_ ?_
 refine qV 1 ?_ ?_
 refine qy (o_lenmap (l := l) (enc := Sm.v) (by kernel_rfl) ty23) ?_ ?_ ?_
 refine qR 1 [(1, .fn (.func 48) [] []), (2, .str n), (6, .ptr 0 0), (11, .imm (l.map Sm.v)), (12, nI l.length), (13, .int .i64 0)] [.box [.str [], .full []]] ?_ ?_
 refine qB 0 ?_ ?_ ?_
 refine wLoop (σ := Nat) (fun k => [(1, .fn (.func 48) [] []), (2, .str n), (6, .ptr 0 0), (11, .imm (l.map Sm.v)), (12, .int .i64 ((l.length : Nat) : Int)), (13, .int .i64 ((k : Nat) : Int))]) (fun k => [.box [.str [], .full []]]) (fun k => k ≤ l.length ∧ ∀ i, i < k → ¬ (l.getD i Sm.zero).name = n) (fun k => l.length - k) 0 (by kernel_rfl) (by exact ⟨Nat.zero_le _, fun i h => absurd h (Nat.not_lt_zero i)⟩) ⟨⟨(by kernel_rfl), (by kernel_rfl), (by kernel_rfl), (by kernel_rfl), (by kernel_rfl), (by kernel_rfl), trivial⟩, by simp [BelL, AVal.bel], by simp, (by kernel_rfl), by simp [AObj.belO, AVal.bel, belL]⟩ ?_
 rintro k ⟨hk, ha⟩
 refine qW 1 [(1, .fn (.func 48) [] []), (2, .str n), (6, .ptr 0 0), (11, .imm (l.map Sm.v)), (12, nI l.length), (13, nI k), (14, .bool (decide (((k : Nat) : Int) < ((l.length : Nat) : Int))))] [.box [.str [], .full []]] ?_ ?_
 refine qSeq ?_ ?_
 by_cases hb1 : ((k : Nat) : Int) < ((l.length : Nat) : Int)
 refine qt (decide_eq_true hb1) ?_ ?_
 refine qK ?_ ?_
 refine qz [(1, .fn (.func 48) [] []), (2, .str n), (6, .ptr 0 0), (11, .imm (l.map Sm.v)), (12, nI l.length), (13, nI k)] ?_ ?_
 refine qSeq ?_ ?_
 refine qB 1 ?_ ?_ ?_
 refine qO ?_ ?_
 refine qy ((o_ixmap (k := .i64) (l := l) (enc := Sm.v) (i := ((k : Nat) : Int)) Sm.zero (by kernel_rfl) ty23 ty46 (fun _ => rfl) (by omega) (by omega)).trans (congrArg (fun cs => some (AVal.pimm cs 0, _)) (sm_cells (l.getD k Sm.zero)))) ?_ ?_ ?_
 refine qR 3 [(1, .fn (.func 48) [] []), (2, .str n), (6, .ptr 0 0), (9, .ptr 1 0), (11, .imm (l.map Sm.v)), (12, nI l.length), (13, nI k)] [.box [.str [], .full []], .box [.str (l.getD k Sm.zero).name, .imm ((l.getD k Sm.zero).ctors.map Ct.v)]] ?_ ?_
 refine qV 2 ?_ ?_
 refine vcallP (args := [.agg [.str (l.getD k Sm.zero).name, .imm ((l.getD k Sm.zero).ctors.map Ct.v)]]) (by kernel_rfl) (by kernel_rfl) (by kernel_rfl) (by kernel_rfl) (nameSm_spec (l.getD k Sm.zero)) (by simp [Ty.v, Ex.v, Ct.v, Co.v, Rf.v, Sm.v, Tb.v, Sc.v]) (by simp [Ty.v, Ex.v, Ct.v, Co.v, Rf.v, Sm.v, Tb.v, Sc.v]) (by simp [Ty.v, Ex.v, Ct.v, Co.v, Rf.v, Sm.v, Tb.v, Sc.v]) ?_
 refine qR 2 [(1, .fn (.func 48) [] []), (2, .str n), (6, .ptr 0 0), (9, .ptr 1 0), (11, .imm (l.map Sm.v)), (12, nI l.length), (13, nI k), (21, .bool ((l.getD k Sm.zero).name == n))] [.box [.str [], .full []], .box [.str (l.getD k Sm.zero).name, .imm ((l.getD k Sm.zero).ctors.map Ct.v)]] ?_ ?_
 by_cases hb2 : (l.getD k Sm.zero).name = n
 refine qt (beq_iff_eq.2 hb2) ?_ ?_
 refine qW 3 [(6, .ptr 0 0), (7, .bool true)] [.box [.str (l.getD k Sm.zero).name, .imm ((l.getD k Sm.zero).ctors.map Ct.v)], .box [.str (l.getD k Sm.zero).name, .imm ((l.getD k Sm.zero).ctors.map Ct.v)]] ?_ ?_
 refine wRet (by kernel_rfl) ?_
 apply iR
 apply aR
 apply aR
 apply iR
 apply aR
 refine leafP (l := [.agg [.str (l.getD k Sm.zero).name, .imm ((l.getD k Sm.zero).ctors.map Ct.v)], .bool true]) (.inr rfl) (by kernel_rfl) ?_
 rotate_left
 iterate 2 kernel_rfl
 refine qf (beq_eq_false_iff_ne.2 hb2) ?_ ?_
 refine qk ?_ ?_
 refine AIn_normal ?_
 refine AThen_normal ?_
 refine qz [(1, .fn (.func 48) [] []), (2, .str n), (6, .ptr 0 0), (11, .imm (l.map Sm.v)), (12, nI l.length), (13, nI k)] ?_ ?_
 refine qo ?_ ?_
 refine qy (o_add (a := ((k : Nat) : Int)) (b := 1) (by kernel_rfl) (by omega) (by omega)) ?_ ?_ ?_
 refine qr 1 ?_ ?_
 refine qe ?_ ?_
 refine AThen_normal ⟨k + 1, ?_, ?_, ⟨⟨(by kernel_rfl), (by kernel_rfl), (by kernel_rfl), (by kernel_rfl), (by kernel_rfl), (by kernel_rfl), trivial⟩, by simp [BelL, AVal.bel], by simp, (by kernel_rfl), by simp [AObj.belO, AVal.bel, belL]⟩⟩
 · omega
 · refine ⟨by omega, fun i hi => ?_⟩
   rcases Nat.lt_succ_iff_lt_or_eq.1 hi with h | h
   · exact ha i h
   · subst h; assumption
 iterate 20 kernel_rfl
 refine qf (decide_eq_false hb1) ?_ ?_
 refine wExit 0 (by kernel_rfl) (by kernel_rfl) ?_
 refine AThen_exit ?_
 refine AThen_exit ?_
 refine AIn_exit ?_
 refine AThen_normal ?_
 refine qz [(6, .ptr 0 0)] ?_ ?_
 refine qW 1 [(6, .ptr 0 0), (10, .ptr 1 0)] [.box [.str [], .full []], .box [.str [], .full []]] ?_ ?_
 refine qU 3 [(6, .ptr 0 0), (7, .bool false)] ?_ ?_
 refine wRet (by kernel_rfl) ?_
 refine leafP (l := [.agg [.str [], .full []], .bool false]) (.inr rfl) (by kernel_rfl) ?_
 rotate_left
 iterate 15 kernel_rfl
 all_goals
  first | (rw [(sm_at (l := l) (n := n) (k := k) (by omega) ha (by assumption)).1, (sm_at (l := l) (n := n) (k := k) (by omega) ha (by assumption)).2]; simp [awrap, AVal.frz, frzL, Tb.v, Sm.v]; done) | (rw [(sm_no (l := l) (n := n) (fun i hi => ha i (by omega))).1, (sm_no (l := l) (n := n) (fun i hi => ha i (by omega))).2]; simp [awrap, AVal.frz, frzL, Sm.v, Sm.zero]; done)
noncomputable def c12 : Code := bodyOf Tryz.f12
theorem rTable_spec (s : Sc) (n : List UInt8) (hs : s.sm) : CallsP cx 12 [Sc.v s, .str n] (.tup [Tb.v (tbOf s.tabs n), .bool (tbHas s.tabs n)]) := by
 have hz1 := hs.1
 have hz3 := hs.2.2.1
 have hzt := tbOf_sm hs n
 have hzs := smOf_sm hs n
 refine func_intro (cx := cx) 28 0 [(ResultVar.cell 4 41), (ResultVar.tmp 5)] Tryz.func12 rfl rfl rfl rfl rfl (by simp) ?_
 show wpA cx 28 0 (at_ c12 []) _ _ _
 refine qZ [(0, Sc.v s), (1, .str n)] [] ?_ ?_
 refine qW 3 [(1, .str n), (2, .ptr 0 0), (4, .ptr 1 0)] [.box [.imm (s.sums.map Sm.v), .imm (s.tabs.map Tb.v)], .box [.str [], .full [], .full [], .full [], .int .i64 0, .str [], .int .i64 0, .str [], .full [], .full [], .full [], .int .i64 0, .int .i64 0]] ?_ ?_
 refine qSeq ?_ ?_
 refine qU 1 [(1, .str n), (2, .ptr 0 0), (4, .ptr 1 0), (6, .int .i64 0)] ?_ ?_
 refine qB 0 ?_ ?_ ?_
 refine wLoop (σ := Nat) (fun k => [(1, .str n), (2, .ptr 0 0), (4, .ptr 1 0), (6, .int .i64 ((k : Nat) : Int))]) (fun k => [.box [.imm (s.sums.map Sm.v), .imm (s.tabs.map Tb.v)], .box [.str [], .full [], .full [], .full [], .int .i64 0, .str [], .int .i64 0, .str [], .full [], .full [], .full [], .int .i64 0, .int .i64 0]]) (fun k => k ≤ s.tabs.length ∧ ∀ i, i < k → ¬ (s.tabs.getD i Tb.zero).name = n) (fun k => s.tabs.length - k) 0 (by kernel_rfl) (by exact ⟨Nat.zero_le _, fun i h => absurd h (Nat.not_lt_zero i)⟩) ⟨⟨(by kernel_rfl), (by kernel_rfl), (by kernel_rfl), (by kernel_rfl), trivial⟩, by simp [BelL, AVal.bel], by simp, (by kernel_rfl), by simp [AObj.belO, AVal.bel, belL]⟩ ?_
 rintro k ⟨hk, ha⟩
 refine qSeq ?_ ?_
 refine qV 3 ?_ ?_
 refine qy (o_lenmap (l := s.tabs) (enc := Tb.v) (by kernel_rfl) ty24) ?_ ?_ ?_
 refine qR 1 [(1, .str n), (2, .ptr 0 0), (4, .ptr 1 0), (6, nI k), (11, .bool (decide (((k : Nat) : Int) < ((s.tabs.length : Nat) : Int))))] [.box [.imm (s.sums.map Sm.v), .imm (s.tabs.map Tb.v)], .box [.str [], .full [], .full [], .full [], .int .i64 0, .str [], .int .i64 0, .str [], .full [], .full [], .full [], .int .i64 0, .int .i64 0]] ?_ ?_
 by_cases hb1 : ((k : Nat) : Int) < ((s.tabs.length : Nat) : Int)
 refine qt (decide_eq_true hb1) ?_ ?_
 refine qK ?_ ?_
 refine qz [(1, .str n), (2, .ptr 0 0), (4, .ptr 1 0), (6, nI k)] ?_ ?_
 refine qSeq ?_ ?_
 refine qB 1 ?_ ?_ ?_
 refine qV 3 ?_ ?_
 refine qy ((o_ixmap (k := .i64) (l := s.tabs) (enc := Tb.v) (i := ((k : Nat) : Int)) Tb.zero (by kernel_rfl) ty24 ty41 (fun _ => rfl) (by omega) (by omega)).trans (congrArg (fun cs => some (AVal.pimm cs 0, _)) (tb_cells (s.tabs.getD k Tb.zero)))) ?_ ?_ ?_
 refine qR 4 [(1, .str n), (2, .ptr 0 0), (4, .ptr 1 0), (6, nI k), (21, .bool ((s.tabs.getD k Tb.zero).name == n))] [.box [.imm (s.sums.map Sm.v), .imm (s.tabs.map Tb.v)], .box [.str [], .full [], .full [], .full [], .int .i64 0, .str [], .int .i64 0, .str [], .full [], .full [], .full [], .int .i64 0, .int .i64 0]] ?_ ?_
 by_cases hb2 : (s.tabs.getD k Tb.zero).name = n
 refine qt (beq_iff_eq.2 hb2) ?_ ?_
 refine qV 3 ?_ ?_
 refine qy ((o_ixmap (k := .i64) (l := s.tabs) (enc := Tb.v) (i := ((k : Nat) : Int)) Tb.zero (by kernel_rfl) ty24 ty41 (fun _ => rfl) (by omega) (by omega)).trans (congrArg (fun cs => some (AVal.pimm cs 0, _)) (tb_cells (s.tabs.getD k Tb.zero)))) ?_ ?_ ?_
 refine qR 3 [(4, .ptr 1 0), (5, .bool true)] [.box [.imm (s.sums.map Sm.v), .imm (s.tabs.map Tb.v)], .box [.str (s.tabs.getD k Tb.zero).name, .imm ((s.tabs.getD k Tb.zero).cols.map Co.v), .imm ((s.tabs.getD k Tb.zero).key.map AVal.str), .imm ((s.tabs.getD k Tb.zero).refs.map Rf.v), .int .i64 ((s.tabs.getD k Tb.zero).chk.kind), .str (s.tabs.getD k Tb.zero).chk.name, .int .i64 ((s.tabs.getD k Tb.zero).chk.n), .str (s.tabs.getD k Tb.zero).chk.s, .imm ((s.tabs.getD k Tb.zero).chk.names.map AVal.str), .imm ((s.tabs.getD k Tb.zero).chk.binds.map AVal.str), .imm ((s.tabs.getD k Tb.zero).chk.kids.map Ex.enc), .int .i64 ((s.tabs.getD k Tb.zero).chk.pos), .int .i64 ((s.tabs.getD k Tb.zero).chk.fin)]] ?_ ?_
 refine wRet (by kernel_rfl) ?_
 apply iR
 apply aR
 apply aR
 apply iR
 apply aR
 refine leafP (l := [.agg [.str (s.tabs.getD k Tb.zero).name, .imm ((s.tabs.getD k Tb.zero).cols.map Co.v), .imm ((s.tabs.getD k Tb.zero).key.map AVal.str), .imm ((s.tabs.getD k Tb.zero).refs.map Rf.v), .int .i64 ((s.tabs.getD k Tb.zero).chk.kind), .str (s.tabs.getD k Tb.zero).chk.name, .int .i64 ((s.tabs.getD k Tb.zero).chk.n), .str (s.tabs.getD k Tb.zero).chk.s, .imm ((s.tabs.getD k Tb.zero).chk.names.map AVal.str), .imm ((s.tabs.getD k Tb.zero).chk.binds.map AVal.str), .imm ((s.tabs.getD k Tb.zero).chk.kids.map Ex.enc), .int .i64 ((s.tabs.getD k Tb.zero).chk.pos), .int .i64 ((s.tabs.getD k Tb.zero).chk.fin)], .bool true]) (.inr rfl) (by kernel_rfl) ?_
 rotate_left
 iterate 5 kernel_rfl
 refine qf (beq_eq_false_iff_ne.2 hb2) ?_ ?_
 refine qk ?_ ?_
 refine AIn_normal ?_
 refine AThen_normal ?_
 refine qz [(1, .str n), (2, .ptr 0 0), (4, .ptr 1 0), (6, nI k)] ?_ ?_
 refine qo ?_ ?_
 refine qr 1 ?_ ?_
 refine qy (o_add (a := ((k : Nat) : Int)) (b := 1) (by kernel_rfl) (by omega) (by omega)) ?_ ?_ ?_
 refine qr 1 ?_ ?_
 refine qe ?_ ?_
 refine AThen_normal ⟨k + 1, ?_, ?_, ⟨⟨(by kernel_rfl), (by kernel_rfl), (by kernel_rfl), (by kernel_rfl), trivial⟩, by simp [BelL, AVal.bel], by simp, (by kernel_rfl), by simp [AObj.belO, AVal.bel, belL]⟩⟩
 · omega
 · refine ⟨by omega, fun i hi => ?_⟩
   rcases Nat.lt_succ_iff_lt_or_eq.1 hi with h | h
   · exact ha i h
   · subst h; assumption
 iterate 19 kernel_rfl
 refine qf (decide_eq_false hb1) ?_ ?_
 refine wExit 0 (by kernel_rfl) (by kernel_rfl) ?_
 refine AThen_exit ?_
 refine AThen_exit ?_
 refine AIn_exit ?_
 refine AThen_normal ?_
 refine qz [(4, .ptr 1 0)] ?_ ?_
 refine qU 3 [(4, .ptr 1 0), (5, .bool false)] ?_ ?_
 refine wRet (by kernel_rfl) ?_
 refine leafP (l := [.agg [.str [], .full [], .full [], .full [], .int .i64 0, .str [], .int .i64 0, .str [], .full [], .full [], .full [], .int .i64 0, .int .i64 0], .bool false]) (.inr rfl) (by kernel_rfl) ?_
 rotate_left
 iterate 14 kernel_rfl
 all_goals
  first | (rw [(tb_at (l := s.tabs) (n := n) (k := k) (by omega) ha (by assumption)).1, (tb_at (l := s.tabs) (n := n) (k := k) (by omega) ha (by assumption)).2]; simp [awrap, AVal.frz, frzL, Tb.v, Sm.v]; done) | (rw [(tb_no (l := s.tabs) (n := n) (fun i hi => ha i (by omega))).1, (tb_no (l := s.tabs) (n := n) (fun i hi => ha i (by omega))).2]; simp [awrap, AVal.frz, frzL, Tb.v, Tb.zero, Ex.zero, Ex.v, Ex.kind, Ex.name, Ex.n, Ex.s, Ex.names, Ex.binds, Ex.kids, Ex.pos, Ex.fin]; done)
noncomputable def c14 : Code := bodyOf Tryz.f14
theorem rSum_spec (s : Sc) (n : List UInt8) (hs : s.sm) : CallsP cx 14 [Sc.v s, .str n] (.tup [Sm.v (smOf s.sums n), .bool (smHas s.sums n)]) := by
 have hz1 := hs.1
 have hz3 := hs.2.2.1
 have hzt := tbOf_sm hs n
 have hzs := smOf_sm hs n
 refine func_intro (cx := cx) 28 0 [(ResultVar.cell 4 46), (ResultVar.tmp 5)] Tryz.func14 rfl rfl rfl rfl rfl (by simp) ?_
 show wpA cx 28 0 (at_ c14 []) _ _ _
 refine qZ [(0, Sc.v s), (1, .str n)] [] ?_ ?_
 refine qW 3 [(1, .str n), (2, .ptr 0 0), (4, .ptr 1 0)] [.box [.imm (s.sums.map Sm.v), .imm (s.tabs.map Tb.v)], .box [.str [], .full []]] ?_ ?_
 refine qSeq ?_ ?_
 refine qU 1 [(1, .str n), (2, .ptr 0 0), (4, .ptr 1 0), (6, .int .i64 0)] ?_ ?_
 refine qB 0 ?_ ?_ ?_
 refine wLoop (σ := Nat) (fun k => [(1, .str n), (2, .ptr 0 0), (4, .ptr 1 0), (6, .int .i64 ((k : Nat) : Int))]) (fun k => [.box [.imm (s.sums.map Sm.v), .imm (s.tabs.map Tb.v)], .box [.str [], .full []]]) (fun k => k ≤ s.sums.length ∧ ∀ i, i < k → ¬ (s.sums.getD i Sm.zero).name = n) (fun k => s.sums.length - k) 0 (by kernel_rfl) (by exact ⟨Nat.zero_le _, fun i h => absurd h (Nat.not_lt_zero i)⟩) ⟨⟨(by kernel_rfl), (by kernel_rfl), (by kernel_rfl), (by kernel_rfl), trivial⟩, by simp [BelL, AVal.bel], by simp, (by kernel_rfl), by simp [AObj.belO, AVal.bel, belL]⟩ ?_
 rintro k ⟨hk, ha⟩
 refine qSeq ?_ ?_
 refine qV 3 ?_ ?_
 refine qy (o_lenmap (l := s.sums) (enc := Sm.v) (by kernel_rfl) ty23) ?_ ?_ ?_
 refine qR 1 [(1, .str n), (2, .ptr 0 0), (4, .ptr 1 0), (6, nI k), (11, .bool (decide (((k : Nat) : Int) < ((s.sums.length : Nat) : Int))))] [.box [.imm (s.sums.map Sm.v), .imm (s.tabs.map Tb.v)], .box [.str [], .full []]] ?_ ?_
 by_cases hb1 : ((k : Nat) : Int) < ((s.sums.length : Nat) : Int)
 refine qt (decide_eq_true hb1) ?_ ?_
 refine qK ?_ ?_
 refine qz [(1, .str n), (2, .ptr 0 0), (4, .ptr 1 0), (6, nI k)] ?_ ?_
 refine qSeq ?_ ?_
 refine qB 1 ?_ ?_ ?_
 refine qV 3 ?_ ?_
 refine qy ((o_ixmap (k := .i64) (l := s.sums) (enc := Sm.v) (i := ((k : Nat) : Int)) Sm.zero (by kernel_rfl) ty23 ty46 (fun _ => rfl) (by omega) (by omega)).trans (congrArg (fun cs => some (AVal.pimm cs 0, _)) (sm_cells (s.sums.getD k Sm.zero)))) ?_ ?_ ?_
 refine qR 4 [(1, .str n), (2, .ptr 0 0), (4, .ptr 1 0), (6, nI k), (21, .bool ((s.sums.getD k Sm.zero).name == n))] [.box [.imm (s.sums.map Sm.v), .imm (s.tabs.map Tb.v)], .box [.str [], .full []]] ?_ ?_
 by_cases hb2 : (s.sums.getD k Sm.zero).name = n
 refine qt (beq_iff_eq.2 hb2) ?_ ?_
 refine qV 3 ?_ ?_
 refine qy ((o_ixmap (k := .i64) (l := s.sums) (enc := Sm.v) (i := ((k : Nat) : Int)) Sm.zero (by kernel_rfl) ty23 ty46 (fun _ => rfl) (by omega) (by omega)).trans (congrArg (fun cs => some (AVal.pimm cs 0, _)) (sm_cells (s.sums.getD k Sm.zero)))) ?_ ?_ ?_
 refine qR 3 [(4, .ptr 1 0), (5, .bool true)] [.box [.imm (s.sums.map Sm.v), .imm (s.tabs.map Tb.v)], .box [.str (s.sums.getD k Sm.zero).name, .imm ((s.sums.getD k Sm.zero).ctors.map Ct.v)]] ?_ ?_
 refine wRet (by kernel_rfl) ?_
 apply iR
 apply aR
 apply aR
 apply iR
 apply aR
 refine leafP (l := [.agg [.str (s.sums.getD k Sm.zero).name, .imm ((s.sums.getD k Sm.zero).ctors.map Ct.v)], .bool true]) (.inr rfl) (by kernel_rfl) ?_
 rotate_left
 iterate 5 kernel_rfl
 refine qf (beq_eq_false_iff_ne.2 hb2) ?_ ?_
 refine qk ?_ ?_
 refine AIn_normal ?_
 refine AThen_normal ?_
 refine qz [(1, .str n), (2, .ptr 0 0), (4, .ptr 1 0), (6, nI k)] ?_ ?_
 refine qo ?_ ?_
 refine qr 1 ?_ ?_
 refine qy (o_add (a := ((k : Nat) : Int)) (b := 1) (by kernel_rfl) (by omega) (by omega)) ?_ ?_ ?_
 refine qr 1 ?_ ?_
 refine qe ?_ ?_
 refine AThen_normal ⟨k + 1, ?_, ?_, ⟨⟨(by kernel_rfl), (by kernel_rfl), (by kernel_rfl), (by kernel_rfl), trivial⟩, by simp [BelL, AVal.bel], by simp, (by kernel_rfl), by simp [AObj.belO, AVal.bel, belL]⟩⟩
 · omega
 · refine ⟨by omega, fun i hi => ?_⟩
   rcases Nat.lt_succ_iff_lt_or_eq.1 hi with h | h
   · exact ha i h
   · subst h; assumption
 iterate 19 kernel_rfl
 refine qf (decide_eq_false hb1) ?_ ?_
 refine wExit 0 (by kernel_rfl) (by kernel_rfl) ?_
 refine AThen_exit ?_
 refine AThen_exit ?_
 refine AIn_exit ?_
 refine AThen_normal ?_
 refine qz [(4, .ptr 1 0)] ?_ ?_
 refine qU 3 [(4, .ptr 1 0), (5, .bool false)] ?_ ?_
 refine wRet (by kernel_rfl) ?_
 refine leafP (l := [.agg [.str [], .full []], .bool false]) (.inr rfl) (by kernel_rfl) ?_
 rotate_left
 iterate 14 kernel_rfl
 all_goals
  first | (rw [(sm_at (l := s.sums) (n := n) (k := k) (by omega) ha (by assumption)).1, (sm_at (l := s.sums) (n := n) (k := k) (by omega) ha (by assumption)).2]; simp [awrap, AVal.frz, frzL, Tb.v, Sm.v]; done) | (rw [(sm_no (l := s.sums) (n := n) (fun i hi => ha i (by omega))).1, (sm_no (l := s.sums) (n := n) (fun i hi => ha i (by omega))).2]; simp [awrap, AVal.frz, frzL, Sm.v, Sm.zero]; done)
noncomputable def c11 : Code := bodyOf Tryz.f11
theorem table_spec (s : Sc) (n : List UInt8) (hs : s.sm) : CallsP cx 11 [Sc.v s, .str n] (.tup [Tb.v (tbOf s.tabs n), .bool (tbHas s.tabs n)]) := by
 have hz1 := hs.1
 have hz3 := hs.2.2.1
 have hzt := tbOf_sm hs n
 have hzs := smOf_sm hs n
 refine func_intro (cx := cx) 31 0 [(ResultVar.cell 4 41), (ResultVar.tmp 5)] Tryz.func11 rfl rfl rfl rfl rfl (by simp) ?_
 show wpA cx 31 0 (at_ c11 []) _ _ _
 refine qZ [(0, Sc.v s), (1, .str n)] [] ?_ ?_
 refine qW 3 [(1, .str n), (2, .ptr 0 0), (4, .ptr 1 0)] [.box [.imm (s.sums.map Sm.v), .imm (s.tabs.map Tb.v)], .box [.str [], .full [], .full [], .full [], .int .i64 0, .str [], .int .i64 0, .str [], .full [], .full [], .full [], .int .i64 0, .int .i64 0]] ?_ ?_
 refine qV 3 ?_ ?_
 refine vcallP (args := [.imm (s.tabs.map Tb.v), .fn (.func 43) [] [], .str n]) (by kernel_rfl) (by kernel_rfl) (by kernel_rfl) (by kernel_rfl) (namedTb_spec s.tabs n (by first | omega | exact hzt.1 | exact hzt.2.2.1 | exact hzt.2.2.2.1 | exact hzs.1)) (by simp [Ty.v, Ex.v, Ct.v, Co.v, Rf.v, Sm.v, Tb.v, Sc.v]) (by simp [Ty.v, Ex.v, Ct.v, Co.v, Rf.v, Sm.v, Tb.v, Sc.v]) (by simp [Ty.v, Ex.v, Ct.v, Co.v, Rf.v, Sm.v, Tb.v, Sc.v]) ?_
 refine qR 6 [(4, .ptr 1 0), (6, .ptr 2 0), (7, .bool (tbHas s.tabs n))] [.box [.imm (s.sums.map Sm.v), .imm (s.tabs.map Tb.v)], .box [.str [], .full [], .full [], .full [], .int .i64 0, .str [], .int .i64 0, .str [], .full [], .full [], .full [], .int .i64 0, .int .i64 0], .box [.str (tbOf s.tabs n).name, .imm ((tbOf s.tabs n).cols.map Co.v), .imm ((tbOf s.tabs n).key.map AVal.str), .imm ((tbOf s.tabs n).refs.map Rf.v), .int .i64 ((tbOf s.tabs n).chk.kind), .str (tbOf s.tabs n).chk.name, .int .i64 ((tbOf s.tabs n).chk.n), .str (tbOf s.tabs n).chk.s, .imm ((tbOf s.tabs n).chk.names.map AVal.str), .imm ((tbOf s.tabs n).chk.binds.map AVal.str), .imm ((tbOf s.tabs n).chk.kids.map Ex.enc), .int .i64 ((tbOf s.tabs n).chk.pos), .int .i64 ((tbOf s.tabs n).chk.fin)]] ?_ ?_
 refine qSeq ?_ ?_
 refine qU 2 [(4, .ptr 1 0), (6, .ptr 2 0), (16, .bool (!(tbHas s.tabs n)))] ?_ ?_
 by_cases hb1 : (tbHas s.tabs n) = true
 refine qf (x := (!(tbHas s.tabs n))) (congrArg not (hb1)) ?_ ?_
 refine qK ?_ ?_
 refine qz [(4, .ptr 1 0), (6, .ptr 2 0)] ?_ ?_
 refine qSeq ?_ ?_
 refine wDrw cxM (by kernel_rfl) extThen (dstart ?_)
 refine qu 2 ?_ ?_
 refine dcallP (args := [.imm ((tbOf s.tabs n).cols.map Co.v)]) (by kernel_rfl) (by kernel_rfl) (by kernel_rfl) (by kernel_rfl) (by kernel_rfl) (cloneCo ((tbOf s.tabs n).cols) (by first | omega | exact hzt.1 | exact hzt.2.2.1 | exact hzt.2.2.2.1 | exact hzs.1)) (by intro _; simp [Ty.v, Ex.v, Ct.v, Co.v, Rf.v, Sm.v, Tb.v, Sc.v]) (by simp [Ty.v, Ex.v, Ct.v, Co.v, Rf.v, Sm.v, Tb.v, Sc.v]) (by simp [Ty.v, Ex.v, Ct.v, Co.v, Rf.v, Sm.v, Tb.v, Sc.v]) ?_
 refine qu 2 ?_ ?_
 refine dcallP (args := [.imm ((tbOf s.tabs n).key.map AVal.str)]) (by kernel_rfl) (by kernel_rfl) (by kernel_rfl) (by kernel_rfl) (by kernel_rfl) (cloneStr ((tbOf s.tabs n).key) (by first | omega | exact hzt.1 | exact hzt.2.2.1 | exact hzt.2.2.2.1 | exact hzs.1)) (by intro _; simp [Ty.v, Ex.v, Ct.v, Co.v, Rf.v, Sm.v, Tb.v, Sc.v]) (by simp [Ty.v, Ex.v, Ct.v, Co.v, Rf.v, Sm.v, Tb.v, Sc.v]) (by simp [Ty.v, Ex.v, Ct.v, Co.v, Rf.v, Sm.v, Tb.v, Sc.v]) ?_
 refine qu 2 ?_ ?_
 refine dcallP (args := [.imm ((tbOf s.tabs n).refs.map Rf.v)]) (by kernel_rfl) (by kernel_rfl) (by kernel_rfl) (by kernel_rfl) (by kernel_rfl) (cloneRf ((tbOf s.tabs n).refs) (by first | omega | exact hzt.1 | exact hzt.2.2.1 | exact hzt.2.2.2.1 | exact hzs.1)) (by intro _; simp [Ty.v, Ex.v, Ct.v, Co.v, Rf.v, Sm.v, Tb.v, Sc.v]) (by simp [Ty.v, Ex.v, Ct.v, Co.v, Rf.v, Sm.v, Tb.v, Sc.v]) (by simp [Ty.v, Ex.v, Ct.v, Co.v, Rf.v, Sm.v, Tb.v, Sc.v]) ?_
 refine qu 6 ?_ ?_
 refine dend (by kernel_rfl) ⟨(by kernel_rfl), ?_⟩
 refine AThen_normal ?_
 refine qZ [(4, .ptr 1 0), (6, .ptr 2 0)] [.box [.imm (s.sums.map Sm.v), .imm (s.tabs.map Tb.v)], .box [.str [], .full [], .full [], .full [], .int .i64 0, .str [], .int .i64 0, .str [], .full [], .full [], .full [], .int .i64 0, .int .i64 0], .box [.str (tbOf s.tabs n).name, .imm (((tbOf s.tabs n).cols).map Co.v), .imm (((tbOf s.tabs n).key).map AVal.str), .imm (((tbOf s.tabs n).refs).map Rf.v), .int .i64 ((tbOf s.tabs n).chk.kind), .str (tbOf s.tabs n).chk.name, .int .i64 ((tbOf s.tabs n).chk.n), .str (tbOf s.tabs n).chk.s, .imm ((tbOf s.tabs n).chk.names.map AVal.str), .imm ((tbOf s.tabs n).chk.binds.map AVal.str), .imm ((tbOf s.tabs n).chk.kids.map Ex.enc), .int .i64 ((tbOf s.tabs n).chk.pos), .int .i64 ((tbOf s.tabs n).chk.fin)]] ?_ ?_
 refine qW 3 [(4, .ptr 1 0), (5, .bool true)] [.box [.imm (s.sums.map Sm.v), .imm (s.tabs.map Tb.v)], .box [.str (tbOf s.tabs n).name, .imm (((tbOf s.tabs n).cols).map Co.v), .imm (((tbOf s.tabs n).key).map AVal.str), .imm (((tbOf s.tabs n).refs).map Rf.v), .int .i64 ((tbOf s.tabs n).chk.kind), .str (tbOf s.tabs n).chk.name, .int .i64 ((tbOf s.tabs n).chk.n), .str (tbOf s.tabs n).chk.s, .imm ((tbOf s.tabs n).chk.names.map AVal.str), .imm ((tbOf s.tabs n).chk.binds.map AVal.str), .imm ((tbOf s.tabs n).chk.kids.map Ex.enc), .int .i64 ((tbOf s.tabs n).chk.pos), .int .i64 ((tbOf s.tabs n).chk.fin)], .box [.str (tbOf s.tabs n).name, .imm (((tbOf s.tabs n).cols).map Co.v), .imm (((tbOf s.tabs n).key).map AVal.str), .imm (((tbOf s.tabs n).refs).map Rf.v), .int .i64 ((tbOf s.tabs n).chk.kind), .str (tbOf s.tabs n).chk.name, .int .i64 ((tbOf s.tabs n).chk.n), .str (tbOf s.tabs n).chk.s, .imm ((tbOf s.tabs n).chk.names.map AVal.str), .imm ((tbOf s.tabs n).chk.binds.map AVal.str), .imm ((tbOf s.tabs n).chk.kids.map Ex.enc), .int .i64 ((tbOf s.tabs n).chk.pos), .int .i64 ((tbOf s.tabs n).chk.fin)]] ?_ ?_
 refine wRet (by kernel_rfl) ?_
 refine leafP (l := [.agg [.str (tbOf s.tabs n).name, .imm (((tbOf s.tabs n).cols).map Co.v), .imm (((tbOf s.tabs n).key).map AVal.str), .imm (((tbOf s.tabs n).refs).map Rf.v), .int .i64 ((tbOf s.tabs n).chk.kind), .str (tbOf s.tabs n).chk.name, .int .i64 ((tbOf s.tabs n).chk.n), .str (tbOf s.tabs n).chk.s, .imm ((tbOf s.tabs n).chk.names.map AVal.str), .imm ((tbOf s.tabs n).chk.binds.map AVal.str), .imm ((tbOf s.tabs n).chk.kids.map Ex.enc), .int .i64 ((tbOf s.tabs n).chk.pos), .int .i64 ((tbOf s.tabs n).chk.fin)], .bool true]) (.inr rfl) (by kernel_rfl) ?_
 rotate_left
 iterate 10 kernel_rfl
 refine qt (x := (!(tbHas s.tabs n))) (congrArg not (Bool.eq_false_iff.2 hb1)) ?_ ?_
 refine qU 3 [(4, .ptr 1 0), (5, .bool false)] ?_ ?_
 refine wRet (by kernel_rfl) ?_
 apply aR
 refine leafP (l := [.agg [.str [], .full [], .full [], .full [], .int .i64 0, .str [], .int .i64 0, .str [], .full [], .full [], .full [], .int .i64 0, .int .i64 0], .bool false]) (.inr rfl) (by kernel_rfl) ?_
 rotate_left
 iterate 8 kernel_rfl
 all_goals
  first | (rw [(by assumption : tbHas s.tabs n = true)]; simp [awrap, AVal.frz, frzL, Tb.v]; done) | (rw [Bool.eq_false_iff.2 (by assumption : ¬ tbHas s.tabs n = true), tb_gone (by assumption)]; simp [awrap, AVal.frz, frzL, Tb.v, Tb.zero, Ex.zero, Ex.v, Ex.kind, Ex.name, Ex.n, Ex.s, Ex.names, Ex.binds, Ex.kids, Ex.pos, Ex.fin]; done)
noncomputable def c13 : Code := bodyOf Tryz.f13
theorem sum_spec (s : Sc) (n : List UInt8) (hs : s.sm) : CallsP cx 13 [Sc.v s, .str n] (.tup [Sm.v (smOf s.sums n), .bool (smHas s.sums n)]) := by
 have hz1 := hs.1
 have hz3 := hs.2.2.1
 have hzt := tbOf_sm hs n
 have hzs := smOf_sm hs n
 refine func_intro (cx := cx) 21 0 [(ResultVar.cell 4 46), (ResultVar.tmp 5)] Tryz.func13 rfl rfl rfl rfl rfl (by simp) ?_
 show wpA cx 21 0 (at_ c13 []) _ _ _
 refine qZ [(0, Sc.v s), (1, .str n)] [] ?_ ?_
 refine qW 3 [(1, .str n), (2, .ptr 0 0), (4, .ptr 1 0)] [.box [.imm (s.sums.map Sm.v), .imm (s.tabs.map Tb.v)], .box [.str [], .full []]] ?_ ?_
 refine qV 3 ?_ ?_
 refine vcallP (args := [.imm (s.sums.map Sm.v), .fn (.func 48) [] [], .str n]) (by kernel_rfl) (by kernel_rfl) (by kernel_rfl) (by kernel_rfl) (namedSm_spec s.sums n (by first | omega | exact hzt.1 | exact hzt.2.2.1 | exact hzt.2.2.2.1 | exact hzs.1)) (by simp [Ty.v, Ex.v, Ct.v, Co.v, Rf.v, Sm.v, Tb.v, Sc.v]) (by simp [Ty.v, Ex.v, Ct.v, Co.v, Rf.v, Sm.v, Tb.v, Sc.v]) (by simp [Ty.v, Ex.v, Ct.v, Co.v, Rf.v, Sm.v, Tb.v, Sc.v]) ?_
 refine qR 6 [(4, .ptr 1 0), (6, .ptr 2 0), (7, .bool (smHas s.sums n))] [.box [.imm (s.sums.map Sm.v), .imm (s.tabs.map Tb.v)], .box [.str [], .full []], .box [.str (smOf s.sums n).name, .imm ((smOf s.sums n).ctors.map Ct.v)]] ?_ ?_
 refine qV 2 ?_ ?_
 refine vcallP (args := [.imm ((smOf s.sums n).ctors.map Ct.v)]) (by kernel_rfl) (by kernel_rfl) (by kernel_rfl) (by kernel_rfl) (cloneCt ((smOf s.sums n).ctors) (by first | omega | exact hzt.1 | exact hzt.2.2.1 | exact hzt.2.2.2.1 | exact hzs.1)) (by simp [Ty.v, Ex.v, Ct.v, Co.v, Rf.v, Sm.v, Tb.v, Sc.v]) (by simp [Ty.v, Ex.v, Ct.v, Co.v, Rf.v, Sm.v, Tb.v, Sc.v]) (by simp [Ty.v, Ex.v, Ct.v, Co.v, Rf.v, Sm.v, Tb.v, Sc.v]) ?_
 refine qR 2 [(4, .ptr 1 0), (6, .ptr 2 0), (7, .bool (smHas s.sums n))] [.box [.imm (s.sums.map Sm.v), .imm (s.tabs.map Tb.v)], .box [.str [], .full []], .box [.str (smOf s.sums n).name, .imm (((smOf s.sums n).ctors).map Ct.v)]] ?_ ?_
 refine qW 4 [(4, .ptr 1 0), (5, .bool (smHas s.sums n))] [.box [.imm (s.sums.map Sm.v), .imm (s.tabs.map Tb.v)], .box [.str (smOf s.sums n).name, .imm (((smOf s.sums n).ctors).map Ct.v)], .box [.str (smOf s.sums n).name, .imm (((smOf s.sums n).ctors).map Ct.v)]] ?_ ?_
 refine wRet (by kernel_rfl) ?_
 refine leafP (l := [.agg [.str (smOf s.sums n).name, .imm (((smOf s.sums n).ctors).map Ct.v)], .bool (smHas s.sums n)]) (.inr rfl) (by kernel_rfl) ?_
 · simp [awrap, AVal.frz, frzL, Sm.v]
 iterate 7 kernel_rfl
def refsT (n : List UInt8) (t : Tb) (k : Nat) : List Rf := ((t.refs.take k).filter (fun r => r.tab == n)).map (fun r => ⟨r.col, t.name⟩)
def refsOf (n : List UInt8) : List Tb → List Rf
  | [] => []
  | t :: l => refsT n t t.refs.length ++ refsOf n l
theorem take_s {α : Type} (l : List α) (d : α) (k : Nat) (h : k < l.length) : l.take (k + 1) = l.take k ++ [l.getD k d] := by
  rw [List.take_succ, List.getElem?_eq_getElem h, List.getD_eq_getElem?_getD, List.getElem?_eq_getElem h]; rfl
theorem refsOf_app (n : List UInt8) : ∀ a b, refsOf n (a ++ b) = refsOf n a ++ refsOf n b
  | [], b => rfl
  | t :: a, b => by simp only [List.cons_append, refsOf, refsOf_app n a b, List.append_assoc]
theorem refsOf_s {n : List UInt8} {l : List Tb} {k : Nat} (h : k < l.length) : refsOf n (l.take (k + 1)) = refsOf n (l.take k) ++ refsT n (l.getD k Tb.zero) (l.getD k Tb.zero).refs.length := by
  rw [take_s l Tb.zero k h, refsOf_app]; simp [refsOf]
theorem refsT_y {n : List UInt8} {t : Tb} {k : Nat} (h : k < t.refs.length) (hy : (t.refs.getD k Rf.zero).tab = n) : refsT n t (k + 1) = refsT n t k ++ [⟨(t.refs.getD k Rf.zero).col, t.name⟩] := by
  have e : [t.refs.getD k Rf.zero].filter (fun r => r.tab == n) = [t.refs.getD k Rf.zero] := by rw [List.filter_cons, if_pos (beq_iff_eq.2 hy)]; rfl
  unfold refsT; rw [take_s t.refs Rf.zero k h, List.filter_append, List.map_append, e]; rfl
theorem refsT_n {n : List UInt8} {t : Tb} {k : Nat} (h : k < t.refs.length) (hy : ¬ (t.refs.getD k Rf.zero).tab = n) : refsT n t (k + 1) = refsT n t k := by
  have e : [t.refs.getD k Rf.zero].filter (fun r => r.tab == n) = [] := by rw [List.filter_cons, if_neg (fun h => hy (beq_iff_eq.1 h))]; rfl
  unfold refsT; rw [take_s t.refs Rf.zero k h, List.filter_append, List.map_append, e, List.map_nil, List.append_nil]
theorem refsT_0 {n : List UInt8} {t : Tb} : refsT n t 0 = [] := rfl
theorem refsT_len (n : List UInt8) (t : Tb) (k : Nat) : (refsT n t k).length ≤ t.refs.length := by
  unfold refsT; rw [List.length_map]; exact Nat.le_trans (List.length_filter_le _ _) (by rw [List.length_take]; omega)
theorem refsT_end {n : List UInt8} {t : Tb} {k : Nat} (h : t.refs.length ≤ k) : refsT n t k = refsT n t t.refs.length := by
  unfold refsT; rw [List.take_of_length_le h, List.take_of_length_le (Nat.le_refl _)]
end Go.Proofs.YtindpcpdkikdmaaGreatDoor
