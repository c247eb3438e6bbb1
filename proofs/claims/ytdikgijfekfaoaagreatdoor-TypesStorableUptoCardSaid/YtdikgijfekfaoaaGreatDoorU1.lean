/- Storable of both packages. Condition: sizes that can be had. -/
import Derived.Test.YtdikgijfekfaoaaGreatDoorT3
import Derived.Test.YtdikgijfekfaoaaGreatDoorAbsc
import Derived.Test.YtdikgijfekfaoaaGreatDoorTyx
set_option linter.all false
set_option linter.unusedSimpArgs false
set_option linter.unusedVariables false
namespace Go.Proofs.YtdikgijfekfaoaaGreatDoor
open Go.Proofs.YtdikgijfekfaoaaGreatDoor.Abs
set_option maxRecDepth 20000
set_option maxHeartbeats 4000000
structure Ct where
  name : List UInt8
  has : Bool
  arg : Ty
structure Su where
  name : List UInt8
  ctors : List Ct
def Ct.v (c : Ct) : AVal := .agg [.str c.name, .bool c.has, .int .i64 c.arg.kind, .str c.arg.name, .int .i64 c.arg.n, .imm (c.arg.names.map .str), .imm (c.arg.kids.map Ty.enc)]
def Ct.zero : Ct := ⟨[], false, Ty.zero⟩
theorem ct_cells (c : Ct) : c.v.cells = [.str c.name, .bool c.has, .int .i64 c.arg.kind, .str c.arg.name, .int .i64 c.arg.n, .imm (c.arg.names.map .str), .imm (c.arg.kids.map Ty.enc)] := rfl
theorem ct_size (c : Ct) : c.v.cells.length = 7 := rfl
theorem ct_ok (c : Ct) : (c.v.cells.length == 7 && c.v.cells.all AVal.cellOk) = true := rfl
@[simp] theorem frz_ct (h : AHeap) (c : Ct) : c.v.frz h = c.v := by simp [Ct.v, AVal.frz, frzL]
@[simp] theorem bel_ct (k : Nat) (c : Ct) : c.v.bel k = true := by simp [Ct.v, AVal.bel, belL]
@[simp] theorem owns_ct (c : Ct) : c.v.owns = [] := by simp [Ct.v, AVal.owns, ownsL]
@[simp] theorem frzL_cts (h : AHeap) (l : List Ct) : frzL h (l.map Ct.v) = l.map Ct.v := frzL_map_same h (frz_ct h) l
@[simp] theorem belL_cts (k : Nat) (l : List Ct) : belL k (l.map Ct.v) = true := belL_map k (bel_ct k) l
@[simp] theorem ownsL_cts (l : List Ct) : ownsL (l.map Ct.v) = [] := ownsL_map owns_ct l
def Su.v (s : Su) : AVal := .agg [.str s.name, .imm (s.ctors.map Ct.v)]
def Su.zero : Su := ⟨[], []⟩
theorem su_cells (c : Su) : c.v.cells = [.str c.name, .imm (c.ctors.map Ct.v)] := rfl
theorem su_size (c : Su) : c.v.cells.length = 2 := rfl
theorem su_ok (c : Su) : (c.v.cells.length == 2 && c.v.cells.all AVal.cellOk) = true := rfl
@[simp] theorem frz_su (h : AHeap) (c : Su) : c.v.frz h = c.v := by simp [Su.v, AVal.frz, frzL]
@[simp] theorem bel_su (k : Nat) (c : Su) : c.v.bel k = true := by simp [Su.v, AVal.bel, belL]
@[simp] theorem owns_su (c : Su) : c.v.owns = [] := by simp [Su.v, AVal.owns, ownsL]
@[simp] theorem frzL_sus (h : AHeap) (l : List Su) : frzL h (l.map Su.v) = l.map Su.v := frzL_map_same h (frz_su h) l
@[simp] theorem belL_sus (k : Nat) (l : List Su) : belL k (l.map Su.v) = true := belL_map k (bel_su k) l
@[simp] theorem ownsL_sus (l : List Su) : ownsL (l.map Su.v) = [] := ownsL_map owns_su l
/-- Sizes that can be had. -/
def okC (l : List Ct) : Prop := l.length < 100000000 ∧ ∀ j, (l.getD j Ct.zero).arg.sz < 100000000
def okS (l : List Su) : Prop := l.length < 100000000 ∧ ∀ i, okC (l.getD i Su.zero).ctors
def idxP {α : Type} (p : α → Bool) (l : List α) : Int := match l.findIdx? p with
  | some n => (n : Nat)
  | none => -1
theorem idxP_some {α : Type} {p : α → Bool} {l : List α} (d : α) (k : Nat) (hk : k < l.length) (h1 : ∀ i, i < k → p (l.getD i d) = false) (h2 : p (l.getD k d) = true) : ((k : Nat) : Int) = idxP p l := by
  have e : ∀ i (h : i < l.length), l.getD i d = l[i] := fun i h => by rw [List.getD_eq_getElem?_getD, List.getElem?_eq_getElem h]; rfl
  have : l.findIdx? p = some k := by
    rw [List.findIdx?_eq_some_iff_getElem]
    refine ⟨hk, by rw [← e k hk]; exact h2, fun j hj => ?_⟩
    rw [← e j (by omega), h1 j hj]; simp
  simp [idxP, this]
theorem idxP_none {α : Type} {p : α → Bool} {l : List α} (d : α) (h1 : ∀ i, i < l.length → p (l.getD i d) = false) : -1 = idxP p l := by
  have : l.findIdx? p = none := by
    rw [List.findIdx?_eq_none_iff]
    intro x hx
    obtain ⟨i, hi, rfl⟩ := List.getElem_of_mem hx
    have := h1 i hi
    rwa [List.getD_eq_getElem?_getD, List.getElem?_eq_getElem hi] at this
  simp [idxP, this]
theorem idxP_bd {α : Type} (p : α → Bool) (l : List α) : -1 ≤ idxP p l ∧ idxP p l < (l.length : Nat) := by
  unfold idxP
  split
  · rename_i n hn
    have := (List.findIdx?_eq_some_iff_getElem.1 hn).1
    omega
  · omega
def bas (t : Ty) : Bool := decide (t.kind ≤ 2) && fmd t
theorem bas_no {t : Ty} (h : fmd t = false) : bas t = false := by rw [bas, h, Bool.and_false]
theorem bas_gt {t : Ty} (h : ¬ t.kind ≤ 2) : bas t = false := by rw [bas, decide_eq_false h]; rfl
theorem bas_le {t : Ty} (h : t.kind ≤ 2) : bas t = fmd t := by rw [bas, decide_eq_true h]; rfl
theorem fmd_kind {t : Ty} (h : fmd t = true) : 0 ≤ t.kind := by
  rcases Int.lt_or_le t.kind 0 with h1 | h1
  · rw [fmd_x (.inl h1)] at h; cases h
  · exact h1
def badC (c : Ct) : Bool := c.has && !(bas c.arg)
def anyC (l : List Ct) : Bool := decide (idxP badC l ≥ 0)
def suIs (t : Ty) (s : Su) : Bool := s.name == t.name
def storT (l : List Su) (t : Ty) : Bool := if ¬ t.kind = 3 then bas t else if fmd t = false then bas t else if idxP (suIs t) l < 0 then bas t else !(anyC (l.getD (idxP (suIs t) l).toNat Su.zero).ctors)
noncomputable def c71 : Code := bodyOf Tryz.f71
theorem tbasic_spec (t : Ty) (hs : t.sz < 100000000) : CallsP cx 71 [Ty.v t] (.bool (bas t)) := by
 refine func_intro (cx := cx) 10 0 [(ResultVar.tmp 2)] Tryz.func71 rfl rfl rfl rfl rfl (by simp) ?_
 show wpA cx 10 0 (at_ c71 []) _ _ _
 refine wZ [(0, Ty.v t)] [] (by kernel_rfl) ?_
 refine wW 2 [(1, .ptr 0 0)] [.box [.int .i64 (t.kind), .str t.name, .int .i64 (t.n), .imm (t.names.map AVal.str), .imm (t.kids.map Ty.enc)]] (by kernel_rfl) ?_
 refine wV 4 (by kernel_rfl) ?_
 by_cases hb1 : (t.kind) ≤ 2
 refine vs 5 (decide_eq_true hb1) (by kernel_rfl) ?_
 refine vs 6 (decide_eq_true hb1) (by kernel_rfl) ?_
 refine vrun 1 (by kernel_rfl) ?_
 refine vcallP (args := [.agg [.int .i64 (t.kind), .str t.name, .int .i64 (t.n), .imm (t.names.map AVal.str), .imm (t.kids.map Ty.enc)]]) (by kernel_rfl) (by kernel_rfl) (by kernel_rfl) (by kernel_rfl) (tformed_spec t (by omega)) (by simp [Ty.v, Ct.v, Su.v]) (by simp [Ty.v, Ct.v, Su.v]) (by simp [Ty.v, Ct.v, Su.v]) ?_
 refine vX 2 (by kernel_rfl) ?_
 refine leafB (b := (fmd t)) (.inr rfl) (by kernel_rfl) ?_
 rotate_left
 refine vs 5 (decide_eq_false hb1) (by kernel_rfl) ?_
 refine vs 6 (decide_eq_false hb1) (by kernel_rfl) ?_
 refine vX 4 (by kernel_rfl) ?_
 refine leafB (b := false) (.inr rfl) (by kernel_rfl) ?_
 rotate_left
 all_goals
  first | exact (bas_le (by assumption)).symm | exact (bas_gt (by assumption)).symm
noncomputable def c75 : Code := bodyOf Tryz.f75
theorem rbasic_spec (t : Ty) (hs : t.sz < 100000000) : CallsP cx 75 [Ty.v t] (.bool (bas t)) := by
 refine func_intro (cx := cx) 22 0 [(ResultVar.tmp 2)] Tryz.func75 rfl rfl rfl rfl rfl (by simp) ?_
 show wpA cx 22 0 (at_ c75 []) _ _ _
 refine wZ [(0, Ty.v t)] [] (by kernel_rfl) ?_
 refine wW 2 [(1, .ptr 0 0)] [.box [.int .i64 (t.kind), .str t.name, .int .i64 (t.n), .imm (t.names.map AVal.str), .imm (t.kids.map Ty.enc)]] (by kernel_rfl) ?_
 refine wV 1 (by kernel_rfl) ?_
 refine vcallP (args := [.agg [.int .i64 (t.kind), .str t.name, .int .i64 (t.n), .imm (t.names.map AVal.str), .imm (t.kids.map Ty.enc)]]) (by kernel_rfl) (by kernel_rfl) (by kernel_rfl) (by kernel_rfl) (rformed_spec t (by omega)) (by simp [Ty.v, Ct.v, Su.v]) (by simp [Ty.v, Ct.v, Su.v]) (by simp [Ty.v, Ct.v, Su.v]) ?_
 refine vR 1 [(1, .ptr 0 0), (3, .bool (fmd t))] [.box [.int .i64 (t.kind), .str t.name, .int .i64 (t.n), .imm (t.names.map AVal.str), .imm (t.kids.map Ty.enc)]] (by kernel_rfl) ?_
 refine wV 2 (by kernel_rfl) ?_
 by_cases hb1 : (fmd t) = true
 refine vs 3 (hb1) (by kernel_rfl) ?_
 refine vs 6 (hb1) (by kernel_rfl) ?_
 refine vs 7 (hb1) (by kernel_rfl) ?_
 refine vrun 4 (by kernel_rfl) ?_
 by_cases hb2 : (t.kind) = 0
 refine vs 10 (beq_iff_eq.2 hb2) (by kernel_rfl) ?_
 refine vs 11 (beq_iff_eq.2 hb2) (by kernel_rfl) ?_
 refine vX 11 (by kernel_rfl) ?_
 refine leafB (b := true) (.inr rfl) (by kernel_rfl) ?_
 rotate_left
 refine vs 10 (beq_eq_false_iff_ne.2 hb2) (by kernel_rfl) ?_
 refine vs 11 (beq_eq_false_iff_ne.2 hb2) (by kernel_rfl) ?_
 refine vrun 5 (by kernel_rfl) ?_
 by_cases hb3 : (t.kind) = 1
 refine vs 14 (beq_iff_eq.2 hb3) (by kernel_rfl) ?_
 refine vs 15 (beq_iff_eq.2 hb3) (by kernel_rfl) ?_
 refine vs 16 (beq_iff_eq.2 hb3) (by kernel_rfl) ?_
 refine vX 6 (by kernel_rfl) ?_
 refine leafB (b := true) (.inr rfl) (by kernel_rfl) ?_
 rotate_left
 refine vs 14 (beq_eq_false_iff_ne.2 hb3) (by kernel_rfl) ?_
 refine vs 15 (beq_eq_false_iff_ne.2 hb3) (by kernel_rfl) ?_
 refine vs 16 (beq_eq_false_iff_ne.2 hb3) (by kernel_rfl) ?_
 refine vX 6 (by kernel_rfl) ?_
 refine leafB (b := ((t.kind) == 2)) (.inr rfl) (by kernel_rfl) ?_
 · by_cases hb4 : (t.kind) = 2
   · refine Eq.trans (beq_iff_eq.2 hb4) ?_
     first | (rw [bas_no (Bool.eq_false_iff.2 (by assumption))]; done) | (have hk := fmd_kind (by assumption); first | (rw [bas_le (by omega)]; symm; assumption) | (rw [bas_gt (by omega)]; done))
   · refine Eq.trans (beq_eq_false_iff_ne.2 hb4) ?_
     first | (rw [bas_no (Bool.eq_false_iff.2 (by assumption))]; done) | (have hk := fmd_kind (by assumption); first | (rw [bas_le (by omega)]; symm; assumption) | (rw [bas_gt (by omega)]; done))
 refine vs 3 (Bool.eq_false_iff.2 hb1) (by kernel_rfl) ?_
 refine vs 6 (Bool.eq_false_iff.2 hb1) (by kernel_rfl) ?_
 refine vs 7 (Bool.eq_false_iff.2 hb1) (by kernel_rfl) ?_
 refine vX 15 (by kernel_rfl) ?_
 refine leafB (b := false) (.inr rfl) (by kernel_rfl) ?_
 rotate_left
 all_goals
  first | (rw [bas_no (Bool.eq_false_iff.2 (by assumption))]; done) | (have hk := fmd_kind (by assumption); first | (rw [bas_le (by omega)]; symm; assumption) | (rw [bas_gt (by omega)]; done))
noncomputable def c73 : Code := bodyOf Tryz.f73
theorem stor2_spec (c : Ct) (hs : c.arg.sz < 100000000) : CallsP cx 73 [Ct.v c] (.bool (badC c)) := by
 refine func_intro (cx := cx) 11 0 [(ResultVar.tmp 2)] Tryz.func73 rfl rfl rfl rfl rfl (by simp) ?_
 show wpA cx 11 0 (at_ c73 []) _ _ _
 refine wZ [(0, Ct.v c)] [] (by kernel_rfl) ?_
 refine wW 2 [(1, .ptr 0 0)] [.box [.str c.name, .bool (c.has), .int .i64 (c.arg.kind), .str c.arg.name, .int .i64 (c.arg.n), .imm (c.arg.names.map AVal.str), .imm (c.arg.kids.map Ty.enc)]] (by kernel_rfl) ?_
 refine wV 3 (by kernel_rfl) ?_
 by_cases hb1 : (c.has) = true
 refine vs 4 (hb1) (by kernel_rfl) ?_
 refine vs 5 (hb1) (by kernel_rfl) ?_
 refine vrun 2 (by kernel_rfl) ?_
 refine vcallP (args := [.agg [.int .i64 (c.arg.kind), .str c.arg.name, .int .i64 (c.arg.n), .imm (c.arg.names.map AVal.str), .imm (c.arg.kids.map Ty.enc)]]) (by kernel_rfl) (by kernel_rfl) (by kernel_rfl) (by kernel_rfl) (tbasic_spec c.arg (by omega)) (by simp [Ty.v, Ct.v, Su.v]) (by simp [Ty.v, Ct.v, Su.v]) (by simp [Ty.v, Ct.v, Su.v]) ?_
 refine vX 3 (by kernel_rfl) ?_
 refine leafB (b := (!(bas c.arg))) (.inr rfl) (by kernel_rfl) ?_
 · simp [badC, *]
 refine vs 4 (Bool.eq_false_iff.2 hb1) (by kernel_rfl) ?_
 refine vs 5 (Bool.eq_false_iff.2 hb1) (by kernel_rfl) ?_
 refine vX 6 (by kernel_rfl) ?_
 refine leafB (b := false) (.inr rfl) (by kernel_rfl) ?_
 · simp [badC, *]
noncomputable def c110 : Code := bodyOf Tryz.f110
theorem ixCt_spec (l : List Ct) (hl : okC l) : CallsP cx 110 [.imm (l.map Ct.v), .fn (.func 73) [] []] (.int .i64 (idxP badC l)) := by
 have hl1 := hl.1
 refine func_intro (cx := cx) 19 0 [(ResultVar.tmp 4)] Tryz.func110 rfl rfl rfl rfl rfl (by simp) ?_
 show wpA cx 19 0 (at_ c110 []) _ _ _
 refine wZ [(0, .imm (l.map Ct.v)), (1, .fn (.func 73) [] [])] [] (by kernel_rfl) ?_
 refine wU 1 [(0, .imm (l.map Ct.v)), (1, .fn (.func 73) [] [])] (by kernel_rfl) ?_
 refine wSeq (by kernel_rfl) ?_
 refine wV 1 (by kernel_rfl) ?_
 refine vsym (by kernel_rfl) (by kernel_rfl) (o_lenmap (l := l) (enc := Ct.v) (by kernel_rfl) ty45) ?_
 refine vR 1 [(0, .imm (l.map Ct.v)), (1, .fn (.func 73) [] []), (7, .int .i64 ((l.length : Nat) : Int)), (8, .int .i64 0)] [] (by kernel_rfl) ?_
 refine wBlock 0 (by kernel_rfl) (by kernel_rfl) ?_
 refine wLoop (σ := Nat) (fun k => [(0, .imm (l.map Ct.v)), (1, .fn (.func 73) [] []), (7, .int .i64 ((l.length : Nat) : Int)), (8, .int .i64 ((k : Nat) : Int))]) (fun k => []) (fun k => k ≤ l.length ∧ ∀ i, i < k → badC (l.getD i Ct.zero) = false) (fun k => l.length - k) 0 (by kernel_rfl) (by simp) ⟨⟨(by kernel_rfl), (by kernel_rfl), (by kernel_rfl), (by kernel_rfl), trivial⟩, by simp [BelL, AVal.bel], by simp, (by kernel_rfl), by simp⟩ ?_
 rintro k ⟨hk, ha⟩
 refine wW 1 [(0, .imm (l.map Ct.v)), (1, .fn (.func 73) [] []), (7, .int .i64 ((l.length : Nat) : Int)), (8, .int .i64 ((k : Nat) : Int)), (9, .bool (decide (((k : Nat) : Int) < ((l.length : Nat) : Int))))] [] (by kernel_rfl) ?_
 refine wSeq (by kernel_rfl) ?_
 by_cases hb1 : ((k : Nat) : Int) < ((l.length : Nat) : Int)
 refine wT (decide_eq_true hb1) (by kernel_rfl) ?_
 refine wK (by kernel_rfl) ?_
 refine wZs [(0, .imm (l.map Ct.v)), (1, .fn (.func 73) [] []), (7, .int .i64 ((l.length : Nat) : Int)), (8, .int .i64 ((k : Nat) : Int))] (by kernel_rfl) ?_
 refine wSeq (by kernel_rfl) ?_
 refine wBlock 1 (by kernel_rfl) (by kernel_rfl) ?_
 refine wU 2 [(0, .imm (l.map Ct.v)), (1, .fn (.func 73) [] []), (5, .int .i64 ((k : Nat) : Int)), (7, .int .i64 ((l.length : Nat) : Int)), (8, .int .i64 ((k : Nat) : Int))] (by kernel_rfl) ?_
 refine wV 3 (by kernel_rfl) ?_
 refine vsym (by kernel_rfl) (by kernel_rfl) ((o_ixmap (k := .i64) (l := l) (enc := Ct.v) (i := ((k : Nat) : Int)) Ct.zero (by kernel_rfl) ty45 ty44 ct_size (by first | omega | assumption) (by first | omega | assumption)).trans (congrArg (fun cs => some (AVal.pimm cs 0, _)) (ct_cells (l.getD k Ct.zero)))) ?_
 refine vrun 1 (by kernel_rfl) ?_
 refine vcallP (args := [.agg [.str (l.getD k Ct.zero).name, .bool ((l.getD k Ct.zero).has), .int .i64 ((l.getD k Ct.zero).arg.kind), .str (l.getD k Ct.zero).arg.name, .int .i64 ((l.getD k Ct.zero).arg.n), .imm ((l.getD k Ct.zero).arg.names.map AVal.str), .imm ((l.getD k Ct.zero).arg.kids.map Ty.enc)]]) (by kernel_rfl) (by kernel_rfl) (by kernel_rfl) (by kernel_rfl) (stor2_spec (Ct.mk ((l.getD k Ct.zero).name) ((l.getD k Ct.zero).has) ((l.getD k Ct.zero).arg)) (hl.2 _)) (by simp [Ty.v, Ct.v, Su.v]) (by simp [Ty.v, Ct.v, Su.v]) (by simp [Ty.v, Ct.v, Su.v]) ?_
 refine vN [(0, .imm (l.map Ct.v)), (1, .fn (.func 73) [] []), (5, .int .i64 ((k : Nat) : Int)), (7, .int .i64 ((l.length : Nat) : Int)), (8, .int .i64 ((k : Nat) : Int)), (16, .bool (badC (Ct.mk ((l.getD k Ct.zero).name) ((l.getD k Ct.zero).has) ((l.getD k Ct.zero).arg))))] [] (by kernel_rfl) ?_
 by_cases hb2 : (badC (Ct.mk ((l.getD k Ct.zero).name) ((l.getD k Ct.zero).has) ((l.getD k Ct.zero).arg))) = true
 refine wT (hb2) (by kernel_rfl) ?_
 refine wV 2 (by kernel_rfl) ?_
 refine vT (by kernel_rfl) ?_
 apply iR
 apply aR
 apply aR
 apply iR
 apply aR
 refine leafI (n := ((k : Nat) : Int)) (.inr rfl) (by kernel_rfl) ?_
 rotate_left
 refine wF (Bool.eq_false_iff.2 hb2) (by kernel_rfl) ?_
 refine wSkip (by kernel_rfl) ?_
 refine AIn_normal ?_
 refine AThen_normal ?_
 refine wZs [(0, .imm (l.map Ct.v)), (1, .fn (.func 73) [] []), (7, .int .i64 ((l.length : Nat) : Int)), (8, .int .i64 ((k : Nat) : Int))] (by kernel_rfl) ?_
 refine wOrd (by kernel_rfl) (vstart ?_)
 refine vsym (by kernel_rfl) (by kernel_rfl) (o_add (a := ((k : Nat) : Int)) (b := 1) (by kernel_rfl) (by first | omega | assumption) (by first | omega | assumption)) ?_
 refine vrun 1 (by kernel_rfl) ?_
 refine vend (by kernel_rfl) ?_
 refine AThen_normal ⟨k + 1, ?_, ?_, ⟨⟨(by kernel_rfl), (by kernel_rfl), (by kernel_rfl), (by kernel_rfl), trivial⟩, by simp [BelL, AVal.bel], by simp, (by kernel_rfl), by simp⟩⟩
 · omega
 · refine ⟨by omega, fun i hi => ?_⟩
   rcases Nat.lt_succ_iff_lt_or_eq.1 hi with h | h
   · exact ha i h
   · subst h; exact Bool.eq_false_iff.2 (by assumption)
 refine wF (decide_eq_false hb1) (by kernel_rfl) ?_
 refine wExit 0 (by kernel_rfl) (by kernel_rfl) ?_
 refine AThen_exit ?_
 refine AThen_exit ?_
 refine AIn_exit ?_
 refine AThen_normal ?_
 refine wZs [] (by kernel_rfl) ?_
 refine wV 1 (by kernel_rfl) ?_
 refine vT (by kernel_rfl) ?_
 refine leafI (n := (-1)) (.inr rfl) (by kernel_rfl) ?_
 rotate_left
 all_goals
  first | exact idxP_some Ct.zero k (by omega) ha (by assumption) | exact idxP_none Ct.zero (fun i hi => ha i (by omega))
noncomputable def c72 : Code := bodyOf Tryz.f72
theorem anyCt_spec (l : List Ct) (hl : okC l) : CallsP cx 72 [.imm (l.map Ct.v), .fn (.func 73) [] []] (.bool (anyC l)) := by
 refine func_intro (cx := cx) 9 0 [(ResultVar.tmp 4)] Tryz.func72 rfl rfl rfl rfl rfl (by simp) ?_
 show wpA cx 9 0 (at_ c72 []) _ _ _
 refine wZ [(0, .imm (l.map Ct.v)), (1, .fn (.func 73) [] [])] [] (by kernel_rfl) ?_
 refine wU 1 [(0, .imm (l.map Ct.v)), (1, .fn (.func 73) [] [])] (by kernel_rfl) ?_
 refine wV 2 (by kernel_rfl) ?_
 refine vcallP (args := [.imm (l.map Ct.v), .fn (.func 73) [] []]) (by kernel_rfl) (by kernel_rfl) (by kernel_rfl) (by kernel_rfl) (ixCt_spec l (by first | omega | assumption)) (by simp [Ty.v, Ct.v, Su.v]) (by simp [Ty.v, Ct.v, Su.v]) (by simp [Ty.v, Ct.v, Su.v]) ?_
 refine vX 2 (by kernel_rfl) ?_
 refine leafB (b := (decide ((idxP badC l) ≥ 0))) (.inr rfl) (by kernel_rfl) ?_
 · rfl
noncomputable def c70 : Code := bodyOf Tryz.f70
theorem stor1_raw (s : Su) (t : Ty)  : CallsA cx 70 [Su.v s, .ptr 0 0] [.box [.int .i64 (t.kind), .str t.name, .int .i64 (t.n), .imm (t.names.map AVal.str), .imm (t.kids.map Ty.enc)]] (fun v h => v = (.bool (suIs t s)) ∧ h = [.box [.int .i64 (t.kind), .str t.name, .int .i64 (t.n), .imm (t.names.map AVal.str), .imm (t.kids.map Ty.enc)]]) := by
 refine func_intro (cx := cx) 9 1 [(ResultVar.tmp 3)] Tryz.func70 rfl rfl rfl rfl rfl (by simp) ?_
 show wpA cx 9 1 (at_ c70 []) _ _ _
 refine wZ [(0, Su.v s), (1, .ptr 0 0)] [.box [.int .i64 (t.kind), .str t.name, .int .i64 (t.n), .imm (t.names.map AVal.str), .imm (t.kids.map Ty.enc)]] (by kernel_rfl) ?_
 refine wW 2 [(1, .ptr 0 0), (2, .ptr 1 0)] [.box [.int .i64 (t.kind), .str t.name, .int .i64 (t.n), .imm (t.names.map AVal.str), .imm (t.kids.map Ty.enc)], .box [.str s.name, .imm (s.ctors.map Ct.v)]] (by kernel_rfl) ?_
 refine wU 6 [(3, .bool (s.name == t.name))] (by kernel_rfl) ?_
 refine wRet (by kernel_rfl) ?_
 refine leafA (l := [.bool (s.name == t.name)]) (.inr rfl) (by kernel_rfl) (by rfl) (by simp [awrap]) (by simp [awrap]) ?_ ?_
 refine Eq.trans (b := [.box [.int .i64 (t.kind), .str t.name, .int .i64 (t.n), .imm (t.names.map AVal.str), .imm (t.kids.map Ty.enc)]]) (by kernel_rfl) ?_
 · rfl
 · simp [AObj.belO, Ty.v]
noncomputable def c69 : Code := bodyOf Tryz.f69
theorem ixSu_raw (l : List Su) (t : Ty) (hl : l.length < 100000000) : CallsA cx 69 [.imm (l.map Su.v), .fn (.func 70) [] [.ptr 0 0]] [.box [.int .i64 (t.kind), .str t.name, .int .i64 (t.n), .imm (t.names.map AVal.str), .imm (t.kids.map Ty.enc)]] (fun v h => v = (.int .i64 (idxP (suIs t) l)) ∧ h = [.box [.int .i64 (t.kind), .str t.name, .int .i64 (t.n), .imm (t.names.map AVal.str), .imm (t.kids.map Ty.enc)]]) := by
 refine func_intro (cx := cx) 19 1 [(ResultVar.tmp 4)] Tryz.func69 rfl rfl rfl rfl rfl (by simp) ?_
 show wpA cx 19 1 (at_ c69 []) _ _ _
 refine wZ [(0, .imm (l.map Su.v)), (1, .fn (.func 70) [] [.ptr 0 0])] [.box [.int .i64 (t.kind), .str t.name, .int .i64 (t.n), .imm (t.names.map AVal.str), .imm (t.kids.map Ty.enc)]] (by kernel_rfl) ?_
 refine wU 1 [(0, .imm (l.map Su.v)), (1, .fn (.func 70) [] [.ptr 0 0])] (by kernel_rfl) ?_
 refine wSeq (by kernel_rfl) ?_
 refine wV 1 (by kernel_rfl) ?_
 refine vsym (by kernel_rfl) (by kernel_rfl) (o_lenmap (l := l) (enc := Su.v) (by kernel_rfl) ty41) ?_
 refine vR 1 [(0, .imm (l.map Su.v)), (1, .fn (.func 70) [] [.ptr 0 0]), (7, .int .i64 ((l.length : Nat) : Int)), (8, .int .i64 0)] [.box [.int .i64 (t.kind), .str t.name, .int .i64 (t.n), .imm (t.names.map AVal.str), .imm (t.kids.map Ty.enc)]] (by kernel_rfl) ?_
 refine wBlock 0 (by kernel_rfl) (by kernel_rfl) ?_
 refine wLoop (σ := Nat) (fun k => [(0, .imm (l.map Su.v)), (1, .fn (.func 70) [] [.ptr 0 0]), (7, .int .i64 ((l.length : Nat) : Int)), (8, .int .i64 ((k : Nat) : Int))]) (fun k => [.box [.int .i64 (t.kind), .str t.name, .int .i64 (t.n), .imm (t.names.map AVal.str), .imm (t.kids.map Ty.enc)]]) (fun k => k ≤ l.length ∧ ∀ i, i < k → (suIs t) (l.getD i Su.zero) = false) (fun k => l.length - k) 0 (by kernel_rfl) (by simp) ⟨⟨(by kernel_rfl), (by kernel_rfl), (by kernel_rfl), (by kernel_rfl), trivial⟩, by simp [BelL, AVal.bel], by simp, (by kernel_rfl), by simp [AObj.belO]⟩ ?_
 rintro k ⟨hk, ha⟩
 refine wW 1 [(0, .imm (l.map Su.v)), (1, .fn (.func 70) [] [.ptr 0 0]), (7, .int .i64 ((l.length : Nat) : Int)), (8, .int .i64 ((k : Nat) : Int)), (9, .bool (decide (((k : Nat) : Int) < ((l.length : Nat) : Int))))] [.box [.int .i64 (t.kind), .str t.name, .int .i64 (t.n), .imm (t.names.map AVal.str), .imm (t.kids.map Ty.enc)]] (by kernel_rfl) ?_
 refine wSeq (by kernel_rfl) ?_
 by_cases hb1 : ((k : Nat) : Int) < ((l.length : Nat) : Int)
 refine wT (decide_eq_true hb1) (by kernel_rfl) ?_
 refine wK (by kernel_rfl) ?_
 refine wZs [(0, .imm (l.map Su.v)), (1, .fn (.func 70) [] [.ptr 0 0]), (7, .int .i64 ((l.length : Nat) : Int)), (8, .int .i64 ((k : Nat) : Int))] (by kernel_rfl) ?_
 refine wSeq (by kernel_rfl) ?_
 refine wBlock 1 (by kernel_rfl) (by kernel_rfl) ?_
 refine wU 2 [(0, .imm (l.map Su.v)), (1, .fn (.func 70) [] [.ptr 0 0]), (5, .int .i64 ((k : Nat) : Int)), (7, .int .i64 ((l.length : Nat) : Int)), (8, .int .i64 ((k : Nat) : Int))] (by kernel_rfl) ?_
 refine wV 3 (by kernel_rfl) ?_
 refine vsym (by kernel_rfl) (by kernel_rfl) ((o_ixmap (k := .i64) (l := l) (enc := Su.v) (i := ((k : Nat) : Int)) Su.zero (by kernel_rfl) ty41 ty47 su_size (by omega) (by omega)).trans (congrArg (fun cs => some (AVal.pimm cs 0, _)) (su_cells (l.getD k Su.zero)))) ?_
 refine vrun 1 (by kernel_rfl) ?_
 refine vcallA (args := [.agg [.str (l.getD k Su.zero).name, .imm ((l.getD k Su.zero).ctors.map Ct.v)], .ptr 0 0]) (hs := [.box [.int .i64 (t.kind), .str t.name, .int .i64 (t.n), .imm (t.names.map AVal.str), .imm (t.kids.map Ty.enc)]]) (hs' := [.box [.int .i64 (t.kind), .str t.name, .int .i64 (t.n), .imm (t.names.map AVal.str), .imm (t.kids.map Ty.enc)]]) (rest := []) (by kernel_rfl) (by kernel_rfl) (by kernel_rfl) (by kernel_rfl) (by kernel_rfl) (stor1_raw (Su.mk ((l.getD k Su.zero).name) ((l.getD k Su.zero).ctors)) t) (by simp [AObj.belO, Ty.v]) (by simp [AObj.belO, Ty.v]) rfl (by simp [AObj.belO, Ty.v]) (by simp [AObj.belO, Ty.v]) (by kernel_rfl) ?_
 refine vN [(0, .imm (l.map Su.v)), (1, .fn (.func 70) [] [.ptr 0 0]), (5, .int .i64 ((k : Nat) : Int)), (7, .int .i64 ((l.length : Nat) : Int)), (8, .int .i64 ((k : Nat) : Int)), (16, .bool (suIs t (Su.mk ((l.getD k Su.zero).name) ((l.getD k Su.zero).ctors))))] [.box [.int .i64 (t.kind), .str t.name, .int .i64 (t.n), .imm (t.names.map AVal.str), .imm (t.kids.map Ty.enc)]] (by kernel_rfl) ?_
 by_cases hb2 : (suIs t (Su.mk ((l.getD k Su.zero).name) ((l.getD k Su.zero).ctors))) = true
 refine wT (hb2) (by kernel_rfl) ?_
 refine wU 2 [(4, .int .i64 ((k : Nat) : Int))] (by kernel_rfl) ?_
 refine wRet (by kernel_rfl) ?_
 apply iR
 apply aR
 apply aR
 apply iR
 apply aR
 refine leafA (l := [.int .i64 ((k : Nat) : Int)]) (.inr rfl) (by kernel_rfl) (by refine congrArg (AVal.int .i64) ?_; first | exact idxP_some Su.zero k (by omega) ha (by assumption) | exact idxP_none Su.zero (fun i hi => ha i (by omega))) (by simp [awrap]) (by simp [awrap]) ?_ ?_
 refine Eq.trans (b := [.box [.int .i64 (t.kind), .str t.name, .int .i64 (t.n), .imm (t.names.map AVal.str), .imm (t.kids.map Ty.enc)]]) (by kernel_rfl) ?_
 · rfl
 · simp [AObj.belO, Ty.v]
 refine wF (Bool.eq_false_iff.2 hb2) (by kernel_rfl) ?_
 refine wSkip (by kernel_rfl) ?_
 refine AIn_normal ?_
 refine AThen_normal ?_
 refine wZs [(0, .imm (l.map Su.v)), (1, .fn (.func 70) [] [.ptr 0 0]), (7, .int .i64 ((l.length : Nat) : Int)), (8, .int .i64 ((k : Nat) : Int))] (by kernel_rfl) ?_
 refine wOrd (by kernel_rfl) (vstart ?_)
 refine vsym (by kernel_rfl) (by kernel_rfl) (o_add (a := ((k : Nat) : Int)) (b := 1) (by kernel_rfl) (by omega) (by omega)) ?_
 refine vrun 1 (by kernel_rfl) ?_
 refine vend (by kernel_rfl) ?_
 refine AThen_normal ⟨k + 1, ?_, ?_, ⟨⟨(by kernel_rfl), (by kernel_rfl), (by kernel_rfl), (by kernel_rfl), trivial⟩, by simp [BelL, AVal.bel], by simp, (by kernel_rfl), by simp [AObj.belO]⟩⟩
 · omega
 · refine ⟨by omega, fun i hi => ?_⟩
   rcases Nat.lt_succ_iff_lt_or_eq.1 hi with h | h
   · exact ha i h
   · subst h; exact Bool.eq_false_iff.2 (by assumption)
 refine wF (decide_eq_false hb1) (by kernel_rfl) ?_
 refine wExit 0 (by kernel_rfl) (by kernel_rfl) ?_
 refine AThen_exit ?_
 refine AThen_exit ?_
 refine AIn_exit ?_
 refine AThen_normal ?_
 refine wZs [] (by kernel_rfl) ?_
 refine wU 1 [(4, .int .i64 (-1))] (by kernel_rfl) ?_
 refine wRet (by kernel_rfl) ?_
 refine leafA (l := [.int .i64 (-1)]) (.inr rfl) (by kernel_rfl) (by refine congrArg (AVal.int .i64) ?_; first | exact idxP_some Su.zero k (by omega) ha (by assumption) | exact idxP_none Su.zero (fun i hi => ha i (by omega))) (by simp [awrap]) (by simp [awrap]) ?_ ?_
 refine Eq.trans (b := [.box [.int .i64 (t.kind), .str t.name, .int .i64 (t.n), .imm (t.names.map AVal.str), .imm (t.kids.map Ty.enc)]]) (by kernel_rfl) ?_
 · rfl
 · simp [AObj.belO, Ty.v]
theorem stor_k {l : List Su} {t : Ty} (h : ¬ t.kind = 3) : storT l t = bas t := by rw [storT, if_pos h]
theorem stor_f {l : List Su} {t : Ty} (h : ¬ fmd t = true) : storT l t = bas t := by
  unfold storT
  split
  · rfl
  · rw [if_pos (Bool.eq_false_iff.2 h)]
theorem stor_n {l : List Su} {t : Ty} (h : idxP (suIs t) l < 0) : storT l t = bas t := by
  unfold storT
  split
  · rfl
  · split
    · rfl
    · rfl
theorem stor_y {l : List Su} {t : Ty} (h : t.kind = 3) (h1 : fmd t = true) (h2 : ¬ idxP (suIs t) l < 0) : storT l t = !(anyC (l.getD (idxP (suIs t) l).toNat Su.zero).ctors) := by
  rw [storT, if_neg (by simp [h]), if_neg (by simp [h1]), if_neg h2]
noncomputable def c26 : Code := bodyOf Tryz.f26
theorem tstor_spec (l : List Su) (t : Ty) (hl : okS l) (hs : t.sz < 100000000) : CallsP cx 26 [.imm (l.map Su.v), Ty.v t] (.bool (storT l t)) := by
 have hl1 := hl.1
 refine func_intro (cx := cx) 30 0 [(ResultVar.tmp 4)] Tryz.func26 rfl rfl rfl rfl rfl (by simp) ?_
 show wpA cx 30 0 (at_ c26 []) _ _ _
 refine wZ [(0, .imm (l.map Su.v)), (1, Ty.v t)] [] (by kernel_rfl) ?_
 refine wW 2 [(0, .imm (l.map Su.v)), (3, .ptr 0 0)] [.box [.int .i64 (t.kind), .str t.name, .int .i64 (t.n), .imm (t.names.map AVal.str), .imm (t.kids.map Ty.enc)]] (by kernel_rfl) ?_
 refine wV 2 (by kernel_rfl) ?_
 refine vcallA (args := [.imm (l.map Su.v), .fn (.func 70) [] [.ptr 0 0]]) (hs := [.box [.int .i64 (t.kind), .str t.name, .int .i64 (t.n), .imm (t.names.map AVal.str), .imm (t.kids.map Ty.enc)]]) (hs' := [.box [.int .i64 (t.kind), .str t.name, .int .i64 (t.n), .imm (t.names.map AVal.str), .imm (t.kids.map Ty.enc)]]) (rest := []) (by kernel_rfl) (by kernel_rfl) (by kernel_rfl) (by kernel_rfl) (by kernel_rfl) (ixSu_raw l t (by first | omega | assumption)) (by simp [AObj.belO, Ty.v]) (by simp [AObj.belO, Ty.v]) rfl (by simp [AObj.belO, Ty.v]) (by simp [AObj.belO, Ty.v]) (by kernel_rfl) ?_
 have hv1 := idxP_bd (suIs t) l
 refine vR 1 [(0, .imm (l.map Su.v)), (3, .ptr 0 0), (5, .int .i64 (idxP (suIs t) l))] [.box [.int .i64 (t.kind), .str t.name, .int .i64 (t.n), .imm (t.names.map AVal.str), .imm (t.kids.map Ty.enc)]] (by kernel_rfl) ?_
 refine wSeq (by kernel_rfl) ?_
 refine wV 4 (by kernel_rfl) ?_
 by_cases hb2 : (t.kind) = 3
 refine vs 11 (x := ((t.kind) != 3)) (bne_eq_false_iff_eq.2 hb2) (by kernel_rfl) ?_
 refine vs 12 (x := ((t.kind) != 3)) (bne_eq_false_iff_eq.2 hb2) (by kernel_rfl) ?_
 refine vrun 1 (by kernel_rfl) ?_
 refine vcallP (args := [.agg [.int .i64 (t.kind), .str t.name, .int .i64 (t.n), .imm (t.names.map AVal.str), .imm (t.kids.map Ty.enc)]]) (by kernel_rfl) (by kernel_rfl) (by kernel_rfl) (by kernel_rfl) (tformed_spec t (by first | omega | assumption)) (by simp [Ty.v, Ct.v, Su.v]) (by simp [Ty.v, Ct.v, Su.v]) (by simp [Ty.v, Ct.v, Su.v]) ?_
 refine vrun 3 (by kernel_rfl) ?_
 by_cases hb3 : (fmd t) = true
 refine vs 15 (x := (!(fmd t))) (congrArg not (hb3)) (by kernel_rfl) ?_
 refine vs 16 (x := (!(fmd t))) (congrArg not (hb3)) (by kernel_rfl) ?_
 refine vs 17 (x := (!(fmd t))) (congrArg not (hb3)) (by kernel_rfl) ?_
 refine vR 3 [(0, .imm (l.map Su.v)), (3, .ptr 0 0), (5, .int .i64 (idxP (suIs t) l)), (20, .bool (decide ((idxP (suIs t) l) < 0)))] [.box [.int .i64 (t.kind), .str t.name, .int .i64 (t.n), .imm (t.names.map AVal.str), .imm (t.kids.map Ty.enc)]] (by kernel_rfl) ?_
 by_cases hb4 : (idxP (suIs t) l) < 0
 refine wT (decide_eq_true hb4) (by kernel_rfl) ?_
 refine wV 1 (by kernel_rfl) ?_
 refine vcallP (args := [.agg [.int .i64 (t.kind), .str t.name, .int .i64 (t.n), .imm (t.names.map AVal.str), .imm (t.kids.map Ty.enc)]]) (by kernel_rfl) (by kernel_rfl) (by kernel_rfl) (by kernel_rfl) (tbasic_spec t (by first | omega | assumption)) (by simp [Ty.v, Ct.v, Su.v]) (by simp [Ty.v, Ct.v, Su.v]) (by simp [Ty.v, Ct.v, Su.v]) ?_
 refine vX 1 (by kernel_rfl) ?_
 apply aR
 refine leafB (b := (bas t)) (.inr rfl) (by kernel_rfl) ?_
 rotate_left
 refine wF (decide_eq_false hb4) (by kernel_rfl) ?_
 refine wK (by kernel_rfl) ?_
 refine wZs [(0, .imm (l.map Su.v)), (5, .int .i64 (idxP (suIs t) l))] (by kernel_rfl) ?_
 refine wV 2 (by kernel_rfl) ?_
 refine vsym (by kernel_rfl) (by kernel_rfl) ((o_ixmap (k := .i64) (l := l) (enc := Su.v) (i := (idxP (suIs t) l)) Su.zero (by kernel_rfl) ty41 ty47 su_size (by first | omega | assumption) (by first | omega | assumption)).trans (congrArg (fun cs => some (AVal.pimm cs 0, _)) (su_cells (l.getD (((idxP (suIs t) l)).toNat) Su.zero)))) ?_
 refine vrun 2 (by kernel_rfl) ?_
 refine vcallP (args := [.imm ((l.getD (((idxP (suIs t) l)).toNat) Su.zero).ctors.map Ct.v), .fn (.func 73) [] []]) (by kernel_rfl) (by kernel_rfl) (by kernel_rfl) (by kernel_rfl) (anyCt_spec ((l.getD (((idxP (suIs t) l)).toNat) Su.zero).ctors) (hl.2 _)) (by simp [Ty.v, Ct.v, Su.v]) (by simp [Ty.v, Ct.v, Su.v]) (by simp [Ty.v, Ct.v, Su.v]) ?_
 refine vX 2 (by kernel_rfl) ?_
 refine leafB (b := (!(anyC ((l.getD (((idxP (suIs t) l)).toNat) Su.zero).ctors)))) (.inr rfl) (by kernel_rfl) ?_
 rotate_left
 refine vs 15 (x := (!(fmd t))) (congrArg not (Bool.eq_false_iff.2 hb3)) (by kernel_rfl) ?_
 refine vs 16 (x := (!(fmd t))) (congrArg not (Bool.eq_false_iff.2 hb3)) (by kernel_rfl) ?_
 refine vs 17 (x := (!(fmd t))) (congrArg not (Bool.eq_false_iff.2 hb3)) (by kernel_rfl) ?_
 refine vR 3 [(0, .imm (l.map Su.v)), (3, .ptr 0 0), (5, .int .i64 (idxP (suIs t) l)), (20, .bool true)] [.box [.int .i64 (t.kind), .str t.name, .int .i64 (t.n), .imm (t.names.map AVal.str), .imm (t.kids.map Ty.enc)]] (by kernel_rfl) ?_
 refine wIfT (by kernel_rfl) (by kernel_rfl) ?_
 refine wV 1 (by kernel_rfl) ?_
 refine vcallP (args := [.agg [.int .i64 (t.kind), .str t.name, .int .i64 (t.n), .imm (t.names.map AVal.str), .imm (t.kids.map Ty.enc)]]) (by kernel_rfl) (by kernel_rfl) (by kernel_rfl) (by kernel_rfl) (tbasic_spec t (by first | omega | assumption)) (by simp [Ty.v, Ct.v, Su.v]) (by simp [Ty.v, Ct.v, Su.v]) (by simp [Ty.v, Ct.v, Su.v]) ?_
 refine vX 1 (by kernel_rfl) ?_
 apply aR
 refine leafB (b := (bas t)) (.inr rfl) (by kernel_rfl) ?_
 rotate_left
 refine vs 11 (x := ((t.kind) != 3)) (bne_iff_ne.2 hb2) (by kernel_rfl) ?_
 refine vs 12 (x := ((t.kind) != 3)) (bne_iff_ne.2 hb2) (by kernel_rfl) ?_
 refine vR 8 [(0, .imm (l.map Su.v)), (3, .ptr 0 0), (5, .int .i64 (idxP (suIs t) l)), (20, .bool true)] [.box [.int .i64 (t.kind), .str t.name, .int .i64 (t.n), .imm (t.names.map AVal.str), .imm (t.kids.map Ty.enc)]] (by kernel_rfl) ?_
 refine wIfT (by kernel_rfl) (by kernel_rfl) ?_
 refine wV 1 (by kernel_rfl) ?_
 refine vcallP (args := [.agg [.int .i64 (t.kind), .str t.name, .int .i64 (t.n), .imm (t.names.map AVal.str), .imm (t.kids.map Ty.enc)]]) (by kernel_rfl) (by kernel_rfl) (by kernel_rfl) (by kernel_rfl) (tbasic_spec t (by first | omega | assumption)) (by simp [Ty.v, Ct.v, Su.v]) (by simp [Ty.v, Ct.v, Su.v]) (by simp [Ty.v, Ct.v, Su.v]) ?_
 refine vX 1 (by kernel_rfl) ?_
 apply aR
 refine leafB (b := (bas t)) (.inr rfl) (by kernel_rfl) ?_
 rotate_left
 all_goals
  first | exact (stor_k (by assumption)).symm | exact (stor_f (by assumption)).symm | exact (stor_n (by assumption)).symm | exact (stor_y (by assumption) (by assumption) (by assumption)).symm
theorem any_t {l : List Ct} {k : Nat} (hk : k < l.length) (h : badC (l.getD k Ct.zero) = true) : anyC l = true := by
  have hb := (idxP_bd badC l).1
  unfold anyC
  refine decide_eq_true ?_
  rcases Int.lt_or_le (idxP badC l) 0 with hn | hn
  · exfalso
    have e : idxP badC l = -1 := by omega
    unfold idxP at e
    split at e
    · omega
    · rename_i hf
      rw [List.findIdx?_eq_none_iff] at hf
      have := hf (l.getD k Ct.zero) (by rw [List.getD_eq_getElem?_getD, List.getElem?_eq_getElem hk]; exact List.getElem_mem hk)
      rw [h] at this; cases this
  · exact hn
theorem any_f {l : List Ct} {k : Nat} (hk : l.length ≤ k) (h : ∀ i, i < k → badC (l.getD i Ct.zero) = false) : anyC l = false := by
  unfold anyC
  rw [← idxP_none (p := badC) (l := l) Ct.zero (fun i hi => h i (by omega))]
  rfl
theorem su_at {l : List Su} {t : Ty} {i : Nat} (hi : i < l.length) (h1 : ∀ j, j < i → suIs t (l.getD j Su.zero) = false) (h2 : (l.getD i Su.zero).name = t.name) : idxP (suIs t) l = ((i : Nat) : Int) :=
  (idxP_some Su.zero i hi h1 (beq_iff_eq.2 h2)).symm
theorem stor_i {l : List Su} {t : Ty} {i : Nat} {b : Bool} (h : t.kind = 3) (hf : fmd t = true) (hi : i < l.length) (h1 : ∀ j, j < i → suIs t (l.getD j Su.zero) = false) (h2 : (l.getD i Su.zero).name = t.name) (h3 : anyC (l.getD i Su.zero).ctors = !b) : b = storT l t := by
  have e := su_at hi h1 h2
  rw [stor_y h hf (by rw [e]; omega), e, Int.toNat_natCast, h3, Bool.not_not]
theorem stor_e {l : List Su} {t : Ty} {i : Nat} (h : t.kind = 3) (hi : l.length ≤ i) (h1 : ∀ j, j < i → suIs t (l.getD j Su.zero) = false) : false = storT l t := by
  rw [stor_n (by rw [← idxP_none (p := suIs t) (l := l) Su.zero (fun j hj => h1 j (by omega))]; decide), bas_gt (by omega)]
noncomputable def c27 : Code := bodyOf Tryz.f27
theorem rstor_spec (l : List Su) (t : Ty) (hl : okS l) (hs : t.sz < 100000000) : CallsP cx 27 [.imm (l.map Su.v), Ty.v t] (.bool (storT l t)) := by
 have hl1 := hl.1
 have hlc := fun i => (hl.2 i).1
 refine func_intro (cx := cx) 67 0 [(ResultVar.tmp 4)] Tryz.func27 rfl rfl rfl rfl rfl (by simp) ?_
 show wpA cx 67 0 (at_ c27 []) _ _ _
 refine wZ [(0, .imm (l.map Su.v)), (1, Ty.v t)] [] (by kernel_rfl) ?_
 refine wW 2 [(0, .imm (l.map Su.v)), (3, .ptr 0 0)] [.box [.int .i64 (t.kind), .str t.name, .int .i64 (t.n), .imm (t.names.map AVal.str), .imm (t.kids.map Ty.enc)]] (by kernel_rfl) ?_
 refine wV 1 (by kernel_rfl) ?_
 refine vcallP (args := [.agg [.int .i64 (t.kind), .str t.name, .int .i64 (t.n), .imm (t.names.map AVal.str), .imm (t.kids.map Ty.enc)]]) (by kernel_rfl) (by kernel_rfl) (by kernel_rfl) (by kernel_rfl) (rformed_spec t (by first | omega | (have hlci := hlc i; omega) | exact (hl.2 _).2 _ | assumption)) (by simp [Ty.v, Ct.v, Su.v]) (by simp [Ty.v, Ct.v, Su.v]) (by simp [Ty.v, Ct.v, Su.v]) ?_
 refine vR 1 [(0, .imm (l.map Su.v)), (3, .ptr 0 0), (5, .bool (fmd t))] [.box [.int .i64 (t.kind), .str t.name, .int .i64 (t.n), .imm (t.names.map AVal.str), .imm (t.kids.map Ty.enc)]] (by kernel_rfl) ?_
 refine wSeq (by kernel_rfl) ?_
 refine wV 3 (by kernel_rfl) ?_
 by_cases hb1 : (fmd t) = true
 refine vs 12 (x := (!(fmd t))) (congrArg not (hb1)) (by kernel_rfl) ?_
 refine vs 13 (x := (!(fmd t))) (congrArg not (hb1)) (by kernel_rfl) ?_
 refine vR 4 [(0, .imm (l.map Su.v)), (3, .ptr 0 0), (17, .bool ((t.kind) != 3))] [.box [.int .i64 (t.kind), .str t.name, .int .i64 (t.n), .imm (t.names.map AVal.str), .imm (t.kids.map Ty.enc)]] (by kernel_rfl) ?_
 by_cases hb2 : (t.kind) = 3
 refine wF (x := ((t.kind) != 3)) (bne_eq_false_iff_eq.2 hb2) (by kernel_rfl) ?_
 refine wK (by kernel_rfl) ?_
 refine wZs [(0, .imm (l.map Su.v)), (3, .ptr 0 0)] (by kernel_rfl) ?_
 refine wSeq (by kernel_rfl) ?_
 refine wU 1 [(0, .imm (l.map Su.v)), (3, .ptr 0 0), (6, .int .i64 0)] (by kernel_rfl) ?_
 refine wBlock 0 (by kernel_rfl) (by kernel_rfl) ?_
 refine wLoop (σ := Nat) (fun i => [(0, .imm (l.map Su.v)), (3, .ptr 0 0), (6, .int .i64 ((i : Nat) : Int))]) (fun i => [.box [.int .i64 (t.kind), .str t.name, .int .i64 (t.n), .imm (t.names.map AVal.str), .imm (t.kids.map Ty.enc)]]) (fun i => i ≤ l.length ∧ ∀ j, j < i → suIs t (l.getD j Su.zero) = false) (fun i => l.length - i) 0 (by kernel_rfl) (by simp) ⟨⟨(by kernel_rfl), (by kernel_rfl), (by kernel_rfl), trivial⟩, by simp [BelL, AVal.bel], by simp, (by kernel_rfl), by simp [AObj.belO]⟩ ?_
 rintro i ⟨hi1, hi2⟩
 refine wSeq (by kernel_rfl) ?_
 refine wV 2 (by kernel_rfl) ?_
 refine vsym (by kernel_rfl) (by kernel_rfl) (o_lenmap (l := l) (enc := Su.v) (by kernel_rfl) ty41) ?_
 refine vR 1 [(0, .imm (l.map Su.v)), (3, .ptr 0 0), (6, .int .i64 ((i : Nat) : Int)), (23, .bool (decide (((i : Nat) : Int) < ((l.length : Nat) : Int))))] [.box [.int .i64 (t.kind), .str t.name, .int .i64 (t.n), .imm (t.names.map AVal.str), .imm (t.kids.map Ty.enc)]] (by kernel_rfl) ?_
 by_cases hb3 : ((i : Nat) : Int) < ((l.length : Nat) : Int)
 refine wT (decide_eq_true hb3) (by kernel_rfl) ?_
 refine wK (by kernel_rfl) ?_
 refine wZs [(0, .imm (l.map Su.v)), (3, .ptr 0 0), (6, .int .i64 ((i : Nat) : Int))] (by kernel_rfl) ?_
 refine wSeq (by kernel_rfl) ?_
 refine wBlock 1 (by kernel_rfl) (by kernel_rfl) ?_
 refine wSeq (by kernel_rfl) ?_
 refine wSeq (by kernel_rfl) ?_
 refine wDrw cxM (by kernel_rfl) extThen (dstart ?_)
 refine drun 2 (by kernel_rfl) ?_
 refine dsym (by kernel_rfl) (by kernel_rfl) (by kernel_rfl) ((o_ixmap (k := .i64) (l := l) (enc := Su.v) (i := ((i : Nat) : Int)) Su.zero (by kernel_rfl) ty41 ty47 su_size (by first | omega | (have hlci := hlc i; omega) | exact (hl.2 _).2 _ | assumption) (by first | omega | (have hlci := hlc i; omega) | exact (hl.2 _).2 _ | assumption)).trans (congrArg (fun cs => some (AVal.pimm cs 0, _)) (su_cells (l.getD i Su.zero)))) ?_
 refine drun 5 (by kernel_rfl) ?_
 refine dend (by kernel_rfl) ⟨(by kernel_rfl), ?_⟩
 refine AThen_normal ?_
 refine wZ [(0, .imm (l.map Su.v)), (3, .ptr 0 0), (6, .int .i64 ((i : Nat) : Int)), (33, .bool (!((l.getD i Su.zero).name == t.name)))] [.box [.int .i64 (t.kind), .str t.name, .int .i64 (t.n), .imm (t.names.map AVal.str), .imm (t.kids.map Ty.enc)]] (by kernel_rfl) ?_
 by_cases hb4 : (l.getD i Su.zero).name = t.name
 refine wF (x := (!((l.getD i Su.zero).name == t.name))) (congrArg not (beq_iff_eq.2 hb4)) (by kernel_rfl) ?_
 refine wK (by kernel_rfl) ?_
 refine wZs [(0, .imm (l.map Su.v)), (6, .int .i64 ((i : Nat) : Int))] (by kernel_rfl) ?_
 refine wSeq (by kernel_rfl) ?_
 refine wU 1 [(0, .imm (l.map Su.v)), (6, .int .i64 ((i : Nat) : Int)), (7, .int .i64 0)] (by kernel_rfl) ?_
 refine wBlock 2 (by kernel_rfl) (by kernel_rfl) ?_
 refine wLoop (σ := Nat) (fun k => [(0, .imm (l.map Su.v)), (6, .int .i64 ((i : Nat) : Int)), (7, .int .i64 ((k : Nat) : Int))]) (fun k => [.box [.int .i64 (t.kind), .str t.name, .int .i64 (t.n), .imm (t.names.map AVal.str), .imm (t.kids.map Ty.enc)]]) (fun k => k ≤ (l.getD i Su.zero).ctors.length ∧ ∀ j, j < k → badC ((l.getD i Su.zero).ctors.getD j Ct.zero) = false) (fun k => (l.getD i Su.zero).ctors.length - k) 0 (by kernel_rfl) (by simp) ⟨⟨(by kernel_rfl), (by kernel_rfl), (by kernel_rfl), trivial⟩, by simp [BelL, AVal.bel], by simp, (by kernel_rfl), by simp [AObj.belO]⟩ ?_
 rintro k ⟨hk, ha⟩
 refine wSeq (by kernel_rfl) ?_
 refine wV 3 (by kernel_rfl) ?_
 refine vsym (by kernel_rfl) (by kernel_rfl) ((o_ixmap (k := .i64) (l := l) (enc := Su.v) (i := ((i : Nat) : Int)) Su.zero (by kernel_rfl) ty41 ty47 su_size (by first | omega | (have hlci := hlc i; omega) | exact (hl.2 _).2 _ | assumption) (by first | omega | (have hlci := hlc i; omega) | exact (hl.2 _).2 _ | assumption)).trans (congrArg (fun cs => some (AVal.pimm cs 0, _)) (su_cells (l.getD i Su.zero)))) ?_
 refine vrun 2 (by kernel_rfl) ?_
 refine vsym (by kernel_rfl) (by kernel_rfl) (o_lenmap (l := (l.getD i Su.zero).ctors) (enc := Ct.v) (by kernel_rfl) ty45) ?_
 refine vR 1 [(0, .imm (l.map Su.v)), (6, .int .i64 ((i : Nat) : Int)), (7, .int .i64 ((k : Nat) : Int)), (41, .bool (decide (((k : Nat) : Int) < (((l.getD i Su.zero).ctors.length : Nat) : Int))))] [.box [.int .i64 (t.kind), .str t.name, .int .i64 (t.n), .imm (t.names.map AVal.str), .imm (t.kids.map Ty.enc)]] (by kernel_rfl) ?_
 by_cases hb5 : ((k : Nat) : Int) < (((l.getD i Su.zero).ctors.length : Nat) : Int)
 refine wT (decide_eq_true hb5) (by kernel_rfl) ?_
 refine wK (by kernel_rfl) ?_
 refine wZs [(0, .imm (l.map Su.v)), (6, .int .i64 ((i : Nat) : Int)), (7, .int .i64 ((k : Nat) : Int))] (by kernel_rfl) ?_
 refine wSeq (by kernel_rfl) ?_
 refine wBlock 3 (by kernel_rfl) (by kernel_rfl) ?_
 refine wV 2 (by kernel_rfl) ?_
 refine vsym (by kernel_rfl) (by kernel_rfl) ((o_ixmap (k := .i64) (l := l) (enc := Su.v) (i := ((i : Nat) : Int)) Su.zero (by kernel_rfl) ty41 ty47 su_size (by first | omega | (have hlci := hlc i; omega) | exact (hl.2 _).2 _ | assumption) (by first | omega | (have hlci := hlc i; omega) | exact (hl.2 _).2 _ | assumption)).trans (congrArg (fun cs => some (AVal.pimm cs 0, _)) (su_cells (l.getD i Su.zero)))) ?_
 refine vrun 3 (by kernel_rfl) ?_
 refine vsym (by kernel_rfl) (by kernel_rfl) ((o_ixmap (k := .i64) (l := (l.getD i Su.zero).ctors) (enc := Ct.v) (i := ((k : Nat) : Int)) Ct.zero (by kernel_rfl) ty45 ty44 ct_size (by first | omega | (have hlci := hlc i; omega) | exact (hl.2 _).2 _ | assumption) (by first | omega | (have hlci := hlc i; omega) | exact (hl.2 _).2 _ | assumption)).trans (congrArg (fun cs => some (AVal.pimm cs 0, _)) (ct_cells ((l.getD i Su.zero).ctors.getD k Ct.zero)))) ?_
 refine vrun 2 (by kernel_rfl) ?_
 refine vcallP (args := [.agg [.int .i64 (((l.getD i Su.zero).ctors.getD k Ct.zero).arg.kind), .str ((l.getD i Su.zero).ctors.getD k Ct.zero).arg.name, .int .i64 (((l.getD i Su.zero).ctors.getD k Ct.zero).arg.n), .imm (((l.getD i Su.zero).ctors.getD k Ct.zero).arg.names.map AVal.str), .imm (((l.getD i Su.zero).ctors.getD k Ct.zero).arg.kids.map Ty.enc)]]) (by kernel_rfl) (by kernel_rfl) (by kernel_rfl) (by kernel_rfl) (rbasic_spec (((l.getD i Su.zero).ctors.getD k Ct.zero).arg) (by first | omega | (have hlci := hlc i; omega) | exact (hl.2 _).2 _ | assumption)) (by simp [Ty.v, Ct.v, Su.v]) (by simp [Ty.v, Ct.v, Su.v]) (by simp [Ty.v, Ct.v, Su.v]) ?_
 refine vR 1 [(0, .imm (l.map Su.v)), (6, .int .i64 ((i : Nat) : Int)), (7, .int .i64 ((k : Nat) : Int)), (8, .bool (bas (((l.getD i Su.zero).ctors.getD k Ct.zero).arg)))] [.box [.int .i64 (t.kind), .str t.name, .int .i64 (t.n), .imm (t.names.map AVal.str), .imm (t.kids.map Ty.enc)]] (by kernel_rfl) ?_
 refine wV 2 (by kernel_rfl) ?_
 refine vsym (by kernel_rfl) (by kernel_rfl) ((o_ixmap (k := .i64) (l := l) (enc := Su.v) (i := ((i : Nat) : Int)) Su.zero (by kernel_rfl) ty41 ty47 su_size (by first | omega | (have hlci := hlc i; omega) | exact (hl.2 _).2 _ | assumption) (by first | omega | (have hlci := hlc i; omega) | exact (hl.2 _).2 _ | assumption)).trans (congrArg (fun cs => some (AVal.pimm cs 0, _)) (su_cells (l.getD i Su.zero)))) ?_
 refine vrun 3 (by kernel_rfl) ?_
 refine vsym (by kernel_rfl) (by kernel_rfl) ((o_ixmap (k := .i64) (l := (l.getD i Su.zero).ctors) (enc := Ct.v) (i := ((k : Nat) : Int)) Ct.zero (by kernel_rfl) ty45 ty44 ct_size (by first | omega | (have hlci := hlc i; omega) | exact (hl.2 _).2 _ | assumption) (by first | omega | (have hlci := hlc i; omega) | exact (hl.2 _).2 _ | assumption)).trans (congrArg (fun cs => some (AVal.pimm cs 0, _)) (ct_cells ((l.getD i Su.zero).ctors.getD k Ct.zero)))) ?_
 refine vrun 3 (by kernel_rfl) ?_
 by_cases hb6 : (((l.getD i Su.zero).ctors.getD k Ct.zero).has) = true
 refine vs 62 (hb6) (by kernel_rfl) ?_
 refine vs 63 (hb6) (by kernel_rfl) ?_
 refine vR 3 [(0, .imm (l.map Su.v)), (6, .int .i64 ((i : Nat) : Int)), (7, .int .i64 ((k : Nat) : Int)), (64, .bool (bas (((l.getD i Su.zero).ctors.getD k Ct.zero).arg))), (65, .bool (!(bas (((l.getD i Su.zero).ctors.getD k Ct.zero).arg)))), (66, .bool (!(bas (((l.getD i Su.zero).ctors.getD k Ct.zero).arg))))] [.box [.int .i64 (t.kind), .str t.name, .int .i64 (t.n), .imm (t.names.map AVal.str), .imm (t.kids.map Ty.enc)]] (by kernel_rfl) ?_
 by_cases hb7 : (bas (((l.getD i Su.zero).ctors.getD k Ct.zero).arg)) = true
 refine wF (x := (!(bas (((l.getD i Su.zero).ctors.getD k Ct.zero).arg)))) (congrArg not (hb7)) (by kernel_rfl) ?_
 refine wSkip (by kernel_rfl) ?_
 refine AIn_normal ?_
 refine AThen_normal ?_
 refine wZs [(0, .imm (l.map Su.v)), (6, .int .i64 ((i : Nat) : Int)), (7, .int .i64 ((k : Nat) : Int)), (64, .bool (bas (((l.getD i Su.zero).ctors.getD k Ct.zero).arg))), (65, .bool (!(bas (((l.getD i Su.zero).ctors.getD k Ct.zero).arg))))] (by kernel_rfl) ?_
 refine wOrd (by kernel_rfl) (vstart ?_)
 refine vrun 1 (by kernel_rfl) ?_
 refine vsym (by kernel_rfl) (by kernel_rfl) (o_add (a := ((k : Nat) : Int)) (b := 1) (by kernel_rfl) (by first | omega | (have hlci := hlc i; omega) | exact (hl.2 _).2 _ | assumption) (by first | omega | (have hlci := hlc i; omega) | exact (hl.2 _).2 _ | assumption)) ?_
 refine vrun 1 (by kernel_rfl) ?_
 refine vend (by kernel_rfl) ?_
 refine AThen_normal ⟨k + 1, ?_, ?_, ⟨⟨(by kernel_rfl), (by kernel_rfl), (by kernel_rfl), trivial⟩, by simp [BelL, AVal.bel], by simp, (by kernel_rfl), by simp [AObj.belO]⟩⟩
 · omega
 · refine ⟨by omega, fun j hj => ?_⟩
   rcases Nat.lt_succ_iff_lt_or_eq.1 hj with h | h
   · exact ha j h
   · subst h; simp_all [badC]
 refine wT (x := (!(bas (((l.getD i Su.zero).ctors.getD k Ct.zero).arg)))) (congrArg not (Bool.eq_false_iff.2 hb7)) (by kernel_rfl) ?_
 refine wV 1 (by kernel_rfl) ?_
 refine vT (by kernel_rfl) ?_
 apply iR
 apply aR
 apply aR
 apply iR
 apply aR
 apply iR
 apply aR
 apply aR
 apply iR
 apply aR
 refine leafB (b := false) (.inr rfl) (by kernel_rfl) ?_
 rotate_left
 refine vs 62 (Bool.eq_false_iff.2 hb6) (by kernel_rfl) ?_
 refine vs 63 (Bool.eq_false_iff.2 hb6) (by kernel_rfl) ?_
 refine vR 3 [(0, .imm (l.map Su.v)), (6, .int .i64 ((i : Nat) : Int)), (7, .int .i64 ((k : Nat) : Int)), (64, .tup []), (65, .tup []), (66, .bool false)] [.box [.int .i64 (t.kind), .str t.name, .int .i64 (t.n), .imm (t.names.map AVal.str), .imm (t.kids.map Ty.enc)]] (by kernel_rfl) ?_
 refine wIfF (by kernel_rfl) (by kernel_rfl) ?_
 refine wSkip (by kernel_rfl) ?_
 refine AIn_normal ?_
 refine AThen_normal ?_
 refine wZs [(0, .imm (l.map Su.v)), (6, .int .i64 ((i : Nat) : Int)), (7, .int .i64 ((k : Nat) : Int)), (64, .tup []), (65, .tup [])] (by kernel_rfl) ?_
 refine wOrd (by kernel_rfl) (vstart ?_)
 refine vrun 1 (by kernel_rfl) ?_
 refine vsym (by kernel_rfl) (by kernel_rfl) (o_add (a := ((k : Nat) : Int)) (b := 1) (by kernel_rfl) (by first | omega | (have hlci := hlc i; omega) | exact (hl.2 _).2 _ | assumption) (by first | omega | (have hlci := hlc i; omega) | exact (hl.2 _).2 _ | assumption)) ?_
 refine vrun 1 (by kernel_rfl) ?_
 refine vend (by kernel_rfl) ?_
 refine AThen_normal ⟨k + 1, ?_, ?_, ⟨⟨(by kernel_rfl), (by kernel_rfl), (by kernel_rfl), trivial⟩, by simp [BelL, AVal.bel], by simp, (by kernel_rfl), by simp [AObj.belO]⟩⟩
 · omega
 · refine ⟨by omega, fun j hj => ?_⟩
   rcases Nat.lt_succ_iff_lt_or_eq.1 hj with h | h
   · exact ha j h
   · subst h; simp_all [badC]
 refine wF (decide_eq_false hb5) (by kernel_rfl) ?_
 refine wExit 2 (by kernel_rfl) (by kernel_rfl) ?_
 refine AThen_exit ?_
 refine AThen_exit ?_
 refine AIn_exit ?_
 refine AThen_normal ?_
 refine wZs [] (by kernel_rfl) ?_
 refine wV 1 (by kernel_rfl) ?_
 refine vT (by kernel_rfl) ?_
 apply iR
 apply aR
 apply aR
 apply iR
 apply aR
 refine leafB (b := true) (.inr rfl) (by kernel_rfl) ?_
 rotate_left
 refine wT (x := (!((l.getD i Su.zero).name == t.name))) (congrArg not (beq_eq_false_iff_ne.2 hb4)) (by kernel_rfl) ?_
 refine wExit 1 (by kernel_rfl) (by kernel_rfl) ?_
 refine AThen_exit ?_
 refine AIn_exit ?_
 refine AThen_normal ?_
 refine wZs [(0, .imm (l.map Su.v)), (3, .ptr 0 0), (6, .int .i64 ((i : Nat) : Int))] (by kernel_rfl) ?_
 refine wOrd (by kernel_rfl) (vstart ?_)
 refine vrun 1 (by kernel_rfl) ?_
 refine vsym (by kernel_rfl) (by kernel_rfl) (o_add (a := ((i : Nat) : Int)) (b := 1) (by kernel_rfl) (by first | omega | (have hlci := hlc i; omega) | exact (hl.2 _).2 _ | assumption) (by first | omega | (have hlci := hlc i; omega) | exact (hl.2 _).2 _ | assumption)) ?_
 refine vrun 1 (by kernel_rfl) ?_
 refine vend (by kernel_rfl) ?_
 refine AThen_normal ⟨i + 1, ?_, ?_, ⟨⟨(by kernel_rfl), (by kernel_rfl), (by kernel_rfl), trivial⟩, by simp [BelL, AVal.bel], by simp, (by kernel_rfl), by simp [AObj.belO]⟩⟩
 · omega
 · refine ⟨by omega, fun j hj => ?_⟩
   rcases Nat.lt_succ_iff_lt_or_eq.1 hj with h | h
   · exact hi2 j h
   · subst h; simpa [suIs] using (by assumption)
 refine wF (decide_eq_false hb3) (by kernel_rfl) ?_
 refine wExit 0 (by kernel_rfl) (by kernel_rfl) ?_
 refine AThen_exit ?_
 refine AThen_exit ?_
 refine AIn_exit ?_
 refine AThen_normal ?_
 refine wZs [] (by kernel_rfl) ?_
 refine wV 1 (by kernel_rfl) ?_
 refine vT (by kernel_rfl) ?_
 refine leafB (b := false) (.inr rfl) (by kernel_rfl) ?_
 rotate_left
 refine wT (x := ((t.kind) != 3)) (bne_iff_ne.2 hb2) (by kernel_rfl) ?_
 refine wV 1 (by kernel_rfl) ?_
 refine vcallP (args := [.agg [.int .i64 (t.kind), .str t.name, .int .i64 (t.n), .imm (t.names.map AVal.str), .imm (t.kids.map Ty.enc)]]) (by kernel_rfl) (by kernel_rfl) (by kernel_rfl) (by kernel_rfl) (rbasic_spec t (by first | omega | (have hlci := hlc i; omega) | exact (hl.2 _).2 _ | assumption)) (by simp [Ty.v, Ct.v, Su.v]) (by simp [Ty.v, Ct.v, Su.v]) (by simp [Ty.v, Ct.v, Su.v]) ?_
 refine vX 1 (by kernel_rfl) ?_
 apply aR
 refine leafB (b := (bas t)) (.inr rfl) (by kernel_rfl) ?_
 rotate_left
 refine vs 12 (x := (!(fmd t))) (congrArg not (Bool.eq_false_iff.2 hb1)) (by kernel_rfl) ?_
 refine vs 13 (x := (!(fmd t))) (congrArg not (Bool.eq_false_iff.2 hb1)) (by kernel_rfl) ?_
 refine vR 4 [(0, .imm (l.map Su.v)), (3, .ptr 0 0), (17, .bool true)] [.box [.int .i64 (t.kind), .str t.name, .int .i64 (t.n), .imm (t.names.map AVal.str), .imm (t.kids.map Ty.enc)]] (by kernel_rfl) ?_
 refine wIfT (by kernel_rfl) (by kernel_rfl) ?_
 refine wV 1 (by kernel_rfl) ?_
 refine vcallP (args := [.agg [.int .i64 (t.kind), .str t.name, .int .i64 (t.n), .imm (t.names.map AVal.str), .imm (t.kids.map Ty.enc)]]) (by kernel_rfl) (by kernel_rfl) (by kernel_rfl) (by kernel_rfl) (rbasic_spec t (by first | omega | (have hlci := hlc i; omega) | exact (hl.2 _).2 _ | assumption)) (by simp [Ty.v, Ct.v, Su.v]) (by simp [Ty.v, Ct.v, Su.v]) (by simp [Ty.v, Ct.v, Su.v]) ?_
 refine vX 1 (by kernel_rfl) ?_
 apply aR
 refine leafB (b := (bas t)) (.inr rfl) (by kernel_rfl) ?_
 rotate_left
 all_goals
  first | exact (stor_f (by assumption)).symm | exact (stor_k (by assumption)).symm | exact stor_e (by assumption) (by omega) hi2 | exact stor_i (by assumption) (by assumption) (by omega) hi2 (by assumption) (any_t (k := k) (by omega) (by simp_all [badC])) | exact stor_i (by assumption) (by assumption) (by omega) hi2 (by assumption) (any_f (k := k) (by omega) ha)
end Go.Proofs.YtdikgijfekfaoaaGreatDoor
