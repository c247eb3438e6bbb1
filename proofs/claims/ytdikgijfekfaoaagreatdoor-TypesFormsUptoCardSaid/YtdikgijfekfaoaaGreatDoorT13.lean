/- The law TypesForms. Condition: sizes that can be had. -/
import Derived.Test.YtdikgijfekfaoaaGreatDoorT12
import Derived.Test.YtdikgijfekfaoaaGreatDoorH4
import Derived.Test.YtdikgijfekfaoaaGreatDoorAbsc
set_option linter.all false
set_option linter.unusedSimpArgs false
set_option linter.unusedVariables false
namespace Go.Proofs.YtdikgijfekfaoaaGreatDoor
open Go.Proofs.YtdikgijfekfaoaaGreatDoor.Abs
set_option maxRecDepth 20000
set_option maxHeartbeats 4000000
def all4 (t u : Ty) (l : List Int) : List Ty := [t, u, openT l 2 0, closedT l 2 1]
theorem all4_len (t u : Ty) (l : List Int) : (all4 t u l).length = 4 := rfl
theorem all4_sz {t u : Ty} {l : List Int} (ht : t.sz < 100000000) (hu : u.sz < 100000000) (i : Nat) : ((all4 t u l).getD i Ty.zero).sz < 100000000 := by
  match i with
  | 0 => exact ht
  | 1 => exact hu
  | 2 => exact Nat.lt_of_le_of_lt (openT_small l 2 0 (by decide)) (by decide)
  | 3 => exact Nat.lt_of_le_of_lt (closedT_small l 2 1 (by decide)) (by decide)
  | i + 4 => simp [all4, Ty.zero, Ty.sz, szS, Ty.szL]
theorem closed_spec (l : List Int) (q : Nat) (d : Int) (hl : i64L l) (hq : (q : Int) + 100 * d ≤ 1000000) (hd : 0 ≤ d ∧ d ≤ 2) : CallsP cx 13 [.imm (l.map (.int .i64)), .int .i64 (q : Nat), .int .i64 d] (closedT l d.toNat q).v := closed_P (closed_raw l q d hl hq hd)
theorem open_02 (l : List Int) (hl : i64L l) : CallsP cx 12 [.imm (l.map (.int .i64)), .int .i64 0, .int .i64 2] (openT l 2 0).v := open_spec l 0 2 hl (by decide) (by decide)
theorem closed_12 (l : List Int) (hl : i64L l) : CallsP cx 13 [.imm (l.map (.int .i64)), .int .i64 1, .int .i64 2] (closedT l 2 1).v := closed_spec l 1 2 hl (by decide) (by decide)
noncomputable def c3 : Code := bodyOf Tryz.f3
theorem forms_spec (t u : Ty) (l : List Int) (ht : t.sz < 100000000) (hu : u.sz < 100000000) (hl : i64L l) : CallsP cx 3 [Ty.v t, Ty.v u, .imm (l.map (AVal.int .i64))] (.bool true) := by
 have hsi := all4_sz (l := l) ht hu
 have h4 := all4_len t u l
 refine func_intro (cx := cx) 56 0 [(ResultVar.tmp 6)] Tryz.func3 rfl rfl rfl rfl rfl (by simp) ?_
 show wpA cx 56 0 (at_ c3 []) _ _ _
 refine wZ [(0, Ty.v t), (1, Ty.v u), (2, .imm (l.map (AVal.int .i64)))] [] (by kernel_rfl) ?_
 refine wW 3 [(2, .imm (l.map (AVal.int .i64))), (3, .ptr 0 0), (4, .ptr 1 0)] [.box [.int .i64 (t.kind), .str t.name, .int .i64 (t.n), .imm (t.names.map AVal.str), .imm (t.kids.map Ty.enc)], .box [.int .i64 (u.kind), .str u.name, .int .i64 (u.n), .imm (u.names.map AVal.str), .imm (u.kids.map Ty.enc)]] (by kernel_rfl) ?_
 refine wSeq (by kernel_rfl) ?_
 refine wDrw cxM (by kernel_rfl) extThen (dstart ?_)
 refine drun 3 (by kernel_rfl) ?_
 refine dcallP (args := [.imm (l.map (AVal.int .i64)), .int .i64 0, .int .i64 2]) (by kernel_rfl) (by kernel_rfl) (by kernel_rfl) (by kernel_rfl) (by kernel_rfl) (open_02 l hl) (by intro _; simp [Ty.v, frzL_app, Occ.v]) (by simp [Ty.v]) (by simp [Ty.v, ownsL_app]) ?_
 refine drun 1 (by kernel_rfl) ?_
 refine dcallP (args := [.imm (l.map (AVal.int .i64)), .int .i64 1, .int .i64 2]) (by kernel_rfl) (by kernel_rfl) (by kernel_rfl) (by kernel_rfl) (by kernel_rfl) (closed_12 l hl) (by intro _; simp [Ty.v, frzL_app, Occ.v]) (by simp [Ty.v]) (by simp [Ty.v, ownsL_app]) ?_
 refine drun 2 (by kernel_rfl) ?_
 refine dend (by kernel_rfl) ⟨(by kernel_rfl), ?_⟩
 refine AThen_normal ?_
 refine wZ [(7, .full [.agg [.int .i64 (t.kind), .str t.name, .int .i64 (t.n), .imm (t.names.map AVal.str), .imm (t.kids.map Ty.enc)], .agg [.int .i64 (u.kind), .str u.name, .int .i64 (u.n), .imm (u.names.map AVal.str), .imm (u.kids.map Ty.enc)], Ty.v (openT l 2 0), Ty.v (closedT l 2 1)])] [.box [.int .i64 (t.kind), .str t.name, .int .i64 (t.n), .imm (t.names.map AVal.str), .imm (t.kids.map Ty.enc)], .box [.int .i64 (u.kind), .str u.name, .int .i64 (u.n), .imm (u.names.map AVal.str), .imm (u.kids.map Ty.enc)]] (by kernel_rfl) ?_
 refine wFrzT 7 (.full [.agg [.int .i64 (t.kind), .str t.name, .int .i64 (t.n), .imm (t.names.map AVal.str), .imm (t.kids.map Ty.enc)], .agg [.int .i64 (u.kind), .str u.name, .int .i64 (u.n), .imm (u.names.map AVal.str), .imm (u.kids.map Ty.enc)], Ty.v (openT l 2 0), Ty.v (closedT l 2 1)]) (.imm ((all4 t u l).map Ty.enc)) (by kernel_rfl) (by simp [all4, Ty.enc_v, Ty.v]) (by simp [AVal.frz, frzL, all4, Ty.enc_v, Ty.v]) ?_
 refine wZ [(7, .imm ((all4 t u l).map Ty.enc))] [.box [.int .i64 (t.kind), .str t.name, .int .i64 (t.n), .imm (t.names.map AVal.str), .imm (t.kids.map Ty.enc)], .box [.int .i64 (u.kind), .str u.name, .int .i64 (u.n), .imm (u.names.map AVal.str), .imm (u.kids.map Ty.enc)]] (by kernel_rfl) ?_
 refine wSeq (by kernel_rfl) ?_
 refine wU 1 [(7, .imm ((all4 t u l).map Ty.enc)), (8, .int .i64 0)] (by kernel_rfl) ?_
 refine wBlock 0 (by kernel_rfl) (by kernel_rfl) ?_
 refine wLoop (σ := Nat) (fun i => [(7, .imm ((all4 t u l).map Ty.enc)), (8, .int .i64 ((i : Nat) : Int))]) (fun i => [.box [.int .i64 (t.kind), .str t.name, .int .i64 (t.n), .imm (t.names.map AVal.str), .imm (t.kids.map Ty.enc)], .box [.int .i64 (u.kind), .str u.name, .int .i64 (u.n), .imm (u.names.map AVal.str), .imm (u.kids.map Ty.enc)]]) (fun i => i ≤ 4) (fun i => 4 - i) 0 (by kernel_rfl) (by exact Nat.zero_le _) ⟨⟨(by kernel_rfl), (by kernel_rfl), trivial⟩, by simp [BelL, AVal.bel], by simp, (by kernel_rfl), by simp [AObj.belO]⟩ ?_
 rintro i hi
 refine wSeq (by kernel_rfl) ?_
 refine wW 2 [(7, .imm ((all4 t u l).map Ty.enc)), (8, .int .i64 ((i : Nat) : Int)), (18, .bool (decide (((i : Nat) : Int) < 4)))] [.box [.int .i64 (t.kind), .str t.name, .int .i64 (t.n), .imm (t.names.map AVal.str), .imm (t.kids.map Ty.enc)], .box [.int .i64 (u.kind), .str u.name, .int .i64 (u.n), .imm (u.names.map AVal.str), .imm (u.kids.map Ty.enc)]] (by kernel_rfl) ?_
 by_cases hb1 : ((i : Nat) : Int) < 4
 refine wT (decide_eq_true hb1) (by kernel_rfl) ?_
 refine wK (by kernel_rfl) ?_
 refine wZs [(7, .imm ((all4 t u l).map Ty.enc)), (8, .int .i64 ((i : Nat) : Int))] (by kernel_rfl) ?_
 refine wSeq (by kernel_rfl) ?_
 refine wBlock 1 (by kernel_rfl) (by kernel_rfl) ?_
 refine wSeq (by kernel_rfl) ?_
 refine wSeq (by kernel_rfl) ?_
 refine wDrw cxM (by kernel_rfl) extThen (dstart ?_)
 refine drun 2 (by kernel_rfl) ?_
 refine dsym (by kernel_rfl) (by kernel_rfl) (by kernel_rfl) ((o_ixmap (k := .i64) (l := (all4 t u l)) (enc := Ty.enc) (i := ((i : Nat) : Int)) Ty.zero (by kernel_rfl) ty23 ty25 ty_size (by first | omega | exact hsi _) (by first | omega | exact hsi _)).trans (congrArg (fun cs => some (AVal.pimm cs 0, _)) (ty_cells ((all4 t u l).getD i Ty.zero)))) ?_
 refine drun 1 (by kernel_rfl) ?_
 refine dcallP (args := [.agg [.int .i64 (((all4 t u l).getD i Ty.zero).kind), .str ((all4 t u l).getD i Ty.zero).name, .int .i64 (((all4 t u l).getD i Ty.zero).n), .imm (((all4 t u l).getD i Ty.zero).names.map AVal.str), .imm (((all4 t u l).getD i Ty.zero).kids.map Ty.enc)]]) (by kernel_rfl) (by kernel_rfl) (by kernel_rfl) (by kernel_rfl) (by kernel_rfl) (tvalid_spec ((all4 t u l).getD i Ty.zero) (by first | omega | exact hsi _)) (by intro _; simp [Ty.v, frzL_app, Occ.v]) (by simp [Ty.v]) (by simp [Ty.v, ownsL_app]) ?_
 refine drun 2 (by kernel_rfl) ?_
 refine dsym (by kernel_rfl) (by kernel_rfl) (by kernel_rfl) ((o_ixmap (k := .i64) (l := (all4 t u l)) (enc := Ty.enc) (i := ((i : Nat) : Int)) Ty.zero (by kernel_rfl) ty23 ty25 ty_size (by first | omega | exact hsi _) (by first | omega | exact hsi _)).trans (congrArg (fun cs => some (AVal.pimm cs 0, _)) (ty_cells ((all4 t u l).getD i Ty.zero)))) ?_
 refine drun 1 (by kernel_rfl) ?_
 refine dcallP (args := [.agg [.int .i64 (((all4 t u l).getD i Ty.zero).kind), .str ((all4 t u l).getD i Ty.zero).name, .int .i64 (((all4 t u l).getD i Ty.zero).n), .imm (((all4 t u l).getD i Ty.zero).names.map AVal.str), .imm (((all4 t u l).getD i Ty.zero).kids.map Ty.enc)]]) (by kernel_rfl) (by kernel_rfl) (by kernel_rfl) (by kernel_rfl) (by kernel_rfl) (rvalid_spec ((all4 t u l).getD i Ty.zero) (by first | omega | exact hsi _)) (by intro _; simp [Ty.v, frzL_app, Occ.v]) (by simp [Ty.v]) (by simp [Ty.v, ownsL_app]) ?_
 refine drun 1 (by kernel_rfl) ?_
 refine dend (by kernel_rfl) ⟨(by kernel_rfl), ?_⟩
 refine AThen_normal ?_
 refine wZ [(7, .imm ((all4 t u l).map Ty.enc)), (8, .int .i64 ((i : Nat) : Int)), (31, .bool (!((validB ((all4 t u l).getD i Ty.zero)) == (rvalidB ((all4 t u l).getD i Ty.zero)))))] [.box [.int .i64 (t.kind), .str t.name, .int .i64 (t.n), .imm (t.names.map AVal.str), .imm (t.kids.map Ty.enc)], .box [.int .i64 (u.kind), .str u.name, .int .i64 (u.n), .imm (u.names.map AVal.str), .imm (u.kids.map Ty.enc)]] (by kernel_rfl) ?_
 by_cases hb2 : (!((validB ((all4 t u l).getD i Ty.zero)) == (rvalidB ((all4 t u l).getD i Ty.zero)))) = true
 · exfalso; simp_all [valid_same]
 refine wF (Bool.eq_false_iff.2 hb2) (by kernel_rfl) ?_
 refine wK (by kernel_rfl) ?_
 refine wZs [(7, .imm ((all4 t u l).map Ty.enc)), (8, .int .i64 ((i : Nat) : Int))] (by kernel_rfl) ?_
 refine wU 1 [(7, .imm ((all4 t u l).map Ty.enc)), (8, .int .i64 ((i : Nat) : Int)), (9, .int .i64 0)] (by kernel_rfl) ?_
 refine wBlock 2 (by kernel_rfl) (by kernel_rfl) ?_
 refine wLoop (σ := Nat) (fun k => [(7, .imm ((all4 t u l).map Ty.enc)), (8, .int .i64 ((i : Nat) : Int)), (9, .int .i64 ((k : Nat) : Int))]) (fun k => [.box [.int .i64 (t.kind), .str t.name, .int .i64 (t.n), .imm (t.names.map AVal.str), .imm (t.kids.map Ty.enc)], .box [.int .i64 (u.kind), .str u.name, .int .i64 (u.n), .imm (u.names.map AVal.str), .imm (u.kids.map Ty.enc)]]) (fun k => k ≤ 4) (fun k => 4 - k) 0 (by kernel_rfl) (by exact Nat.zero_le _) ⟨⟨(by kernel_rfl), (by kernel_rfl), (by kernel_rfl), trivial⟩, by simp [BelL, AVal.bel], by simp, (by kernel_rfl), by simp [AObj.belO]⟩ ?_
 rintro k hk
 refine wSeq (by kernel_rfl) ?_
 refine wW 2 [(7, .imm ((all4 t u l).map Ty.enc)), (8, .int .i64 ((i : Nat) : Int)), (9, .int .i64 ((k : Nat) : Int)), (33, .bool (decide (((k : Nat) : Int) < 4)))] [.box [.int .i64 (t.kind), .str t.name, .int .i64 (t.n), .imm (t.names.map AVal.str), .imm (t.kids.map Ty.enc)], .box [.int .i64 (u.kind), .str u.name, .int .i64 (u.n), .imm (u.names.map AVal.str), .imm (u.kids.map Ty.enc)]] (by kernel_rfl) ?_
 by_cases hb3 : ((k : Nat) : Int) < 4
 refine wT (decide_eq_true hb3) (by kernel_rfl) ?_
 refine wK (by kernel_rfl) ?_
 refine wZs [(7, .imm ((all4 t u l).map Ty.enc)), (8, .int .i64 ((i : Nat) : Int)), (9, .int .i64 ((k : Nat) : Int))] (by kernel_rfl) ?_
 refine wSeq (by kernel_rfl) ?_
 refine wBlock 3 (by kernel_rfl) (by kernel_rfl) ?_
 refine wSeq (by kernel_rfl) ?_
 refine wDrw cxM (by kernel_rfl) extThen (dstart ?_)
 refine drun 2 (by kernel_rfl) ?_
 refine dsym (by kernel_rfl) (by kernel_rfl) (by kernel_rfl) ((o_ixmap (k := .i64) (l := (all4 t u l)) (enc := Ty.enc) (i := ((i : Nat) : Int)) Ty.zero (by kernel_rfl) ty23 ty25 ty_size (by first | omega | exact hsi _) (by first | omega | exact hsi _)).trans (congrArg (fun cs => some (AVal.pimm cs 0, _)) (ty_cells ((all4 t u l).getD i Ty.zero)))) ?_
 refine drun 3 (by kernel_rfl) ?_
 refine dsym (by kernel_rfl) (by kernel_rfl) (by kernel_rfl) ((o_ixmap (k := .i64) (l := (all4 t u l)) (enc := Ty.enc) (i := ((k : Nat) : Int)) Ty.zero (by kernel_rfl) ty23 ty25 ty_size (by first | omega | exact hsi _) (by first | omega | exact hsi _)).trans (congrArg (fun cs => some (AVal.pimm cs 0, _)) (ty_cells ((all4 t u l).getD k Ty.zero)))) ?_
 refine drun 1 (by kernel_rfl) ?_
 refine dcallP (args := [.agg [.int .i64 (((all4 t u l).getD i Ty.zero).kind), .str ((all4 t u l).getD i Ty.zero).name, .int .i64 (((all4 t u l).getD i Ty.zero).n), .imm (((all4 t u l).getD i Ty.zero).names.map AVal.str), .imm (((all4 t u l).getD i Ty.zero).kids.map Ty.enc)], .agg [.int .i64 (((all4 t u l).getD k Ty.zero).kind), .str ((all4 t u l).getD k Ty.zero).name, .int .i64 (((all4 t u l).getD k Ty.zero).n), .imm (((all4 t u l).getD k Ty.zero).names.map AVal.str), .imm (((all4 t u l).getD k Ty.zero).kids.map Ty.enc)]]) (by kernel_rfl) (by kernel_rfl) (by kernel_rfl) (by kernel_rfl) (by kernel_rfl) (tEqual_spec ((all4 t u l).getD i Ty.zero) ((all4 t u l).getD k Ty.zero) (by first | omega | exact hsi _)) (by intro _; simp [Ty.v, frzL_app, Occ.v]) (by simp [Ty.v]) (by simp [Ty.v, ownsL_app]) ?_
 refine drun 2 (by kernel_rfl) ?_
 refine dsym (by kernel_rfl) (by kernel_rfl) (by kernel_rfl) ((o_ixmap (k := .i64) (l := (all4 t u l)) (enc := Ty.enc) (i := ((i : Nat) : Int)) Ty.zero (by kernel_rfl) ty23 ty25 ty_size (by first | omega | exact hsi _) (by first | omega | exact hsi _)).trans (congrArg (fun cs => some (AVal.pimm cs 0, _)) (ty_cells ((all4 t u l).getD i Ty.zero)))) ?_
 refine drun 3 (by kernel_rfl) ?_
 refine dsym (by kernel_rfl) (by kernel_rfl) (by kernel_rfl) ((o_ixmap (k := .i64) (l := (all4 t u l)) (enc := Ty.enc) (i := ((k : Nat) : Int)) Ty.zero (by kernel_rfl) ty23 ty25 ty_size (by first | omega | exact hsi _) (by first | omega | exact hsi _)).trans (congrArg (fun cs => some (AVal.pimm cs 0, _)) (ty_cells ((all4 t u l).getD k Ty.zero)))) ?_
 refine drun 1 (by kernel_rfl) ?_
 refine dcallP (args := [.agg [.int .i64 (((all4 t u l).getD i Ty.zero).kind), .str ((all4 t u l).getD i Ty.zero).name, .int .i64 (((all4 t u l).getD i Ty.zero).n), .imm (((all4 t u l).getD i Ty.zero).names.map AVal.str), .imm (((all4 t u l).getD i Ty.zero).kids.map Ty.enc)], .agg [.int .i64 (((all4 t u l).getD k Ty.zero).kind), .str ((all4 t u l).getD k Ty.zero).name, .int .i64 (((all4 t u l).getD k Ty.zero).n), .imm (((all4 t u l).getD k Ty.zero).names.map AVal.str), .imm (((all4 t u l).getD k Ty.zero).kids.map Ty.enc)]]) (by kernel_rfl) (by kernel_rfl) (by kernel_rfl) (by kernel_rfl) (by kernel_rfl) (rEqual_spec ((all4 t u l).getD i Ty.zero) ((all4 t u l).getD k Ty.zero) (by first | omega | exact hsi _)) (by intro _; simp [Ty.v, frzL_app, Occ.v]) (by simp [Ty.v]) (by simp [Ty.v, ownsL_app]) ?_
 refine drun 1 (by kernel_rfl) ?_
 refine dend (by kernel_rfl) ⟨(by kernel_rfl), ?_⟩
 refine AThen_normal ?_
 refine wZ [(7, .imm ((all4 t u l).map Ty.enc)), (8, .int .i64 ((i : Nat) : Int)), (9, .int .i64 ((k : Nat) : Int)), (54, .bool (!((((all4 t u l).getD i Ty.zero).beq ((all4 t u l).getD k Ty.zero)) == (((all4 t u l).getD i Ty.zero).beq ((all4 t u l).getD k Ty.zero)))))] [.box [.int .i64 (t.kind), .str t.name, .int .i64 (t.n), .imm (t.names.map AVal.str), .imm (t.kids.map Ty.enc)], .box [.int .i64 (u.kind), .str u.name, .int .i64 (u.n), .imm (u.names.map AVal.str), .imm (u.kids.map Ty.enc)]] (by kernel_rfl) ?_
 by_cases hb4 : (!((((all4 t u l).getD i Ty.zero).beq ((all4 t u l).getD k Ty.zero)) == (((all4 t u l).getD i Ty.zero).beq ((all4 t u l).getD k Ty.zero)))) = true
 · exfalso; simp_all [valid_same]
 refine wF (Bool.eq_false_iff.2 hb4) (by kernel_rfl) ?_
 refine wSkip (by kernel_rfl) ?_
 refine AIn_normal ?_
 refine AThen_normal ?_
 refine wZs [(7, .imm ((all4 t u l).map Ty.enc)), (8, .int .i64 ((i : Nat) : Int)), (9, .int .i64 ((k : Nat) : Int))] (by kernel_rfl) ?_
 refine wOrd (by kernel_rfl) (vstart ?_)
 refine vrun 1 (by kernel_rfl) ?_
 refine vsym (by kernel_rfl) (by kernel_rfl) (o_add (a := ((k : Nat) : Int)) (b := 1) (by kernel_rfl) (by first | omega | exact hsi _) (by first | omega | exact hsi _)) ?_
 refine vrun 1 (by kernel_rfl) ?_
 refine vend (by kernel_rfl) ?_
 refine AThen_normal ⟨k + 1, ?_, ?_, ⟨⟨(by kernel_rfl), (by kernel_rfl), (by kernel_rfl), trivial⟩, by simp [BelL, AVal.bel], by simp, (by kernel_rfl), by simp [AObj.belO]⟩⟩
 · omega
 · omega
 refine wF (decide_eq_false hb3) (by kernel_rfl) ?_
 refine wExit 2 (by kernel_rfl) (by kernel_rfl) ?_
 refine AThen_exit ?_
 refine AThen_exit ?_
 refine AIn_exit ?_
 refine AIn_normal ?_
 refine AThen_normal ?_
 refine wZs [(7, .imm ((all4 t u l).map Ty.enc)), (8, .int .i64 ((i : Nat) : Int))] (by kernel_rfl) ?_
 refine wOrd (by kernel_rfl) (vstart ?_)
 refine vrun 1 (by kernel_rfl) ?_
 refine vsym (by kernel_rfl) (by kernel_rfl) (o_add (a := ((i : Nat) : Int)) (b := 1) (by kernel_rfl) (by first | omega | exact hsi _) (by first | omega | exact hsi _)) ?_
 refine vrun 1 (by kernel_rfl) ?_
 refine vend (by kernel_rfl) ?_
 refine AThen_normal ⟨i + 1, ?_, ?_, ⟨⟨(by kernel_rfl), (by kernel_rfl), trivial⟩, by simp [BelL, AVal.bel], by simp, (by kernel_rfl), by simp [AObj.belO]⟩⟩
 · omega
 · omega
 refine wF (decide_eq_false hb1) (by kernel_rfl) ?_
 refine wExit 0 (by kernel_rfl) (by kernel_rfl) ?_
 refine AThen_exit ?_
 refine AThen_exit ?_
 refine AIn_exit ?_
 refine AThen_normal ?_
 refine wZs [] (by kernel_rfl) ?_
 refine wO (by kernel_rfl) ?_
 refine vc [] (lives_spec) (by kernel_rfl) ?_
 refine vX 1 (by kernel_rfl) ?_
 refine leafB (b := true) (.inr rfl) (by kernel_rfl) ?_
 · rfl
end Go.Proofs.YtdikgijfekfaoaaGreatDoor
