/- Valid of package types: the walk over the parts. No condition. -/
import Derived.Test.YtdikgijfekfaoaaGreatDoorT3
import Derived.Test.YtdikgijfekfaoaaGreatDoorAbsc
set_option linter.all false
set_option linter.unusedSimpArgs false
set_option linter.unusedVariables false
namespace Go.Proofs.YtdikgijfekfaoaaGreatDoor
open Go.Proofs.YtdikgijfekfaoaaGreatDoor.Abs
set_option maxRecDepth 20000
set_option maxHeartbeats 4000000
def encS (l : List (List UInt8)) : AVal := .imm (l.map .str)
@[simp] theorem encM_pl (k : Nat) (l : List (Int × Bool)) : ((encM (AVal.int .i64) AVal.bool l).all fun e => e.1.bel k && e.2.bel k) = true := by
  simp [encM, List.all_eq_true]
@[simp] theorem encM_rw (k : Nat) (l : List (Int × List (List UInt8))) : ((encM (AVal.int .i64) encS l).all fun e => e.1.bel k && e.2.bel k) = true := by
  simp [encM, encS, List.all_eq_true]
structure VSt where
  ok : Bool
  pl : List (Int × Bool)
  rw : List (Int × List (List UInt8))
def rwOk (w : Option (List (List UInt8))) (l : List (List UInt8)) : Bool := match w with
  | none => true
  | some w => w == l
def stepV (s : VSt) (x : Ty) : VSt :=
  if x.kind = 6 then ⟨s.ok && fmd x, mset x.n true s.pl, s.rw⟩
  else if x.kind = 5 ∧ x.n ≠ 0 then ⟨s.ok && fmd x && rwOk (mget x.n s.rw) x.names, s.pl, mset x.n x.names s.rw⟩
  else ⟨s.ok && fmd x, s.pl, s.rw⟩
def hpV (u : Ty) (s : VSt) : AHeap := [.box [.int .i64 u.kind, .str u.name, .int .i64 u.n, .imm (u.names.map .str), .imm (u.kids.map Ty.enc)], .box [.bool s.ok], .map (encM (AVal.int .i64) AVal.bool s.pl), .box [.map 2], .map (encM (AVal.int .i64) encS s.rw), .box [.map 4]]
/-- All names that the state keeps are short. -/
def VSt.sm (s : VSt) : Prop := ∀ k l, mget k s.rw = some l → l.length < 100000000
noncomputable def c55 : Code := bodyOf Tryz.f55
theorem valid1_raw (t u : Ty) (ok : Bool) (pl : List (Int × Bool)) (rw : List (Int × List (List UInt8))) (hs : t.sz < 100000000) (hrw : VSt.sm ⟨ok, pl, rw⟩) : CallsA cx 55 [Ty.v t, .ptr 1 0, .ptr 3 0, .ptr 5 0] [.box [.int .i64 (u.kind), .str u.name, .int .i64 (u.n), .imm (u.names.map AVal.str), .imm (u.kids.map Ty.enc)], .box [.bool (ok)], .map (encM (AVal.int .i64) AVal.bool pl), .box [.map 2], .map (encM (AVal.int .i64) encS rw), .box [.map 4]] (fun v h => v = (.tup []) ∧ h = hpV u (stepV ⟨ok, pl, rw⟩ t)) := by
 refine func_intro (cx := cx) 49 6 [] Tryz.func55 rfl rfl rfl rfl rfl (by simp) ?_
 show wpA cx 49 6 (at_ c55 []) _ _ _
 refine qZ [(0, Ty.v t), (1, .ptr 1 0), (2, .ptr 3 0), (3, .ptr 5 0)] [u.bx, .box [.bool (ok)], .map (encM (AVal.int .i64) AVal.bool pl), .box [.map 2], .map (encM (AVal.int .i64) encS rw), .box [.map 4]] ?_ ?_
 refine qW 1 [(1, .ptr 1 0), (2, .ptr 3 0), (3, .ptr 5 0), (4, .ptr 6 0)] [u.bx, .box [.bool (ok)], .map (encM (AVal.int .i64) AVal.bool pl), .box [.map 2], .map (encM (AVal.int .i64) encS rw), .box [.map 4], t.bx] ?_ ?_
 refine qV 2 ?_ ?_
 by_cases hb1 : (ok) = true
 refine qm [7, 8] (hb1) ?_ ?_
 refine qr 1 ?_ ?_
 refine vcallP (args := [.agg [.int .i64 (t.kind), .str t.name, .int .i64 (t.n), .imm (t.names.map AVal.str), .imm (t.kids.map Ty.enc)]]) (by kernel_rfl) (by kernel_rfl) (by kernel_rfl) (by kernel_rfl) (tformed_spec t (by first | omega | (exact Nat.lt_trans (hrw _ _ (by assumption)) (by decide)))) (by simp [Ty.v]) (by simp [Ty.v]) (by simp [Ty.v]) ?_
 refine qR 2 [(1, .ptr 1 0), (2, .ptr 3 0), (3, .ptr 5 0), (4, .ptr 6 0)] [u.bx, .box [.bool (fmd t)], .map (encM (AVal.int .i64) AVal.bool pl), .box [.map 2], .map (encM (AVal.int .i64) encS rw), .box [.map 4], t.bx] ?_ ?_
 refine qU 3 [(1, .ptr 1 0), (2, .ptr 3 0), (3, .ptr 5 0), (4, .ptr 6 0), (14, .bool ((t.kind) == 6))] ?_ ?_
 by_cases hb2 : (t.kind) = 6
 refine qt (beq_iff_eq.2 hb2) ?_ ?_
 refine qo ?_ ?_
 refine qr 3 ?_ ?_
 refine qY (o_mset (o := 2) (ek := (AVal.int .i64)) (ev := AVal.bool) (l := pl) (k := (t.n)) (x := true) keyI (by kernel_rfl) ty71 ty3 rfl (by kernel_rfl) (by kernel_rfl)) ?_ ?_ ?_
 refine qe ?_ ?_
 refine leafA (l := []) (.inl rfl) (by kernel_rfl) (by simp [awrap]) (by simp [awrap]) (by simp [awrap]) ?_ ?_
 refine Eq.trans (b := [.box [.int .i64 (u.kind), .str u.name, .int .i64 (u.n), .imm (u.names.map AVal.str), .imm (u.kids.map Ty.enc)], .box [.bool (fmd t)], .map (encM (AVal.int .i64) AVal.bool (mset (t.n) true pl)), .box [.map 2], .map (encM (AVal.int .i64) encS rw), .box [.map 4]]) (by kernel_rfl) ?_
 · simp [hpV, stepV, rwOk, *]
 rotate_left
 iterate 6 kernel_rfl
 refine qf (beq_eq_false_iff_ne.2 hb2) ?_ ?_
 refine qV 4 ?_ ?_
 by_cases hb3 : (t.kind) = 5
 refine qm [20, 21] (beq_iff_eq.2 hb3) ?_ ?_
 refine qR 4 [(1, .ptr 1 0), (3, .ptr 5 0), (4, .ptr 6 0), (25, .bool ((t.n) != 0))] [u.bx, .box [.bool (fmd t)], .map (encM (AVal.int .i64) AVal.bool pl), .box [.map 2], .map (encM (AVal.int .i64) encS rw), .box [.map 4], t.bx] ?_ ?_
 by_cases hb4 : (t.n) = 0
 refine qf (x := ((t.n) != 0)) (bne_eq_false_iff_eq.2 hb4) ?_ ?_
 refine qk ?_ ?_
 refine leafA (l := []) (.inl rfl) (by kernel_rfl) (by simp [awrap]) (by simp [awrap]) (by simp [awrap]) ?_ ?_
 refine Eq.trans (b := [.box [.int .i64 (u.kind), .str u.name, .int .i64 (u.n), .imm (u.names.map AVal.str), .imm (u.kids.map Ty.enc)], .box [.bool (fmd t)], .map (encM (AVal.int .i64) AVal.bool pl), .box [.map 2], .map (encM (AVal.int .i64) encS rw), .box [.map 4]]) (by kernel_rfl) ?_
 · simp [hpV, stepV, rwOk, *]
 rotate_left
 iterate 2 kernel_rfl
 refine qt (x := ((t.n) != 0)) (bne_iff_ne.2 hb4) ?_ ?_
 refine qV 3 ?_ ?_
 rcases hm5 : mget (t.n) rw with _ | x5
 refine qy (o_lookN (ok := true) (o := 4) (ek := (AVal.int .i64)) (ev := encS) (l := rw) (k := (t.n)) keyI hm5 (by kernel_rfl) ty72 ty3 rfl ty22 (by kernel_rfl)) ?_ ?_ ?_
 refine qR 5 [(1, .ptr 1 0), (3, .ptr 5 0), (4, .ptr 6 0), (5, .full []), (6, .bool false)] [u.bx, .box [.bool (fmd t)], .map (encM (AVal.int .i64) AVal.bool pl), .box [.map 2], .map (encM (AVal.int .i64) encS rw), .box [.map 4], t.bx] ?_ ?_
 refine qV 2 ?_ ?_
 by_cases hb6 : (fmd t) = true
 refine qm [33, 34] (hb6) ?_ ?_
 refine qR 10 [(3, .ptr 5 0), (4, .ptr 6 0)] [u.bx, .box [.bool true], .map (encM (AVal.int .i64) AVal.bool pl), .box [.map 2], .map (encM (AVal.int .i64) encS rw), .box [.map 4], t.bx] ?_ ?_
 refine qo ?_ ?_
 refine qr 5 ?_ ?_
 refine qY (o_mset (o := 4) (ek := (AVal.int .i64)) (ev := encS) (l := rw) (k := (t.n)) (x := t.names) keyI (by kernel_rfl) ty72 ty3 rfl (by kernel_rfl) (by kernel_rfl)) ?_ ?_ ?_
 refine qe ?_ ?_
 refine leafA (l := []) (.inl rfl) (by kernel_rfl) (by simp [awrap]) (by simp [awrap]) (by simp [awrap]) ?_ ?_
 refine Eq.trans (b := [.box [.int .i64 (u.kind), .str u.name, .int .i64 (u.n), .imm (u.names.map AVal.str), .imm (u.kids.map Ty.enc)], .box [.bool true], .map (encM (AVal.int .i64) AVal.bool pl), .box [.map 2], .map (encM (AVal.int .i64) encS (mset (t.n) t.names rw)), .box [.map 4]]) (by kernel_rfl) ?_
 · simp [hpV, stepV, rwOk, *]
 rotate_left
 iterate 7 kernel_rfl
 refine qm [33, 34] (Bool.eq_false_iff.2 hb6) ?_ ?_
 refine qR 10 [(3, .ptr 5 0), (4, .ptr 6 0)] [u.bx, .box [.bool false], .map (encM (AVal.int .i64) AVal.bool pl), .box [.map 2], .map (encM (AVal.int .i64) encS rw), .box [.map 4], t.bx] ?_ ?_
 refine qo ?_ ?_
 refine qr 5 ?_ ?_
 refine qY (o_mset (o := 4) (ek := (AVal.int .i64)) (ev := encS) (l := rw) (k := (t.n)) (x := t.names) keyI (by kernel_rfl) ty72 ty3 rfl (by kernel_rfl) (by kernel_rfl)) ?_ ?_ ?_
 refine qe ?_ ?_
 refine leafA (l := []) (.inl rfl) (by kernel_rfl) (by simp [awrap]) (by simp [awrap]) (by simp [awrap]) ?_ ?_
 refine Eq.trans (b := [.box [.int .i64 (u.kind), .str u.name, .int .i64 (u.n), .imm (u.names.map AVal.str), .imm (u.kids.map Ty.enc)], .box [.bool false], .map (encM (AVal.int .i64) AVal.bool pl), .box [.map 2], .map (encM (AVal.int .i64) encS (mset (t.n) t.names rw)), .box [.map 4]]) (by kernel_rfl) ?_
 · simp [hpV, stepV, rwOk, *]
 rotate_left
 iterate 11 kernel_rfl
 refine qy (o_lookS (ok := true) (o := 4) (ek := (AVal.int .i64)) (ev := encS) (l := rw) (k := (t.n)) (x := x5) keyI hm5 (by kernel_rfl) ty72 ty3 rfl ty22 (by kernel_rfl)) ?_ ?_ ?_
 refine qR 5 [(1, .ptr 1 0), (3, .ptr 5 0), (4, .ptr 6 0), (5, .imm (x5.map AVal.str)), (6, .bool true)] [u.bx, .box [.bool (fmd t)], .map (encM (AVal.int .i64) AVal.bool pl), .box [.map 2], .map (encM (AVal.int .i64) encS rw), .box [.map 4], t.bx] ?_ ?_
 refine qV 2 ?_ ?_
 by_cases hb7 : (fmd t) = true
 refine qm [33, 34] (hb7) ?_ ?_
 refine qr 6 ?_ ?_
 refine vcallP (args := [.imm (x5.map AVal.str), .imm (t.names.map AVal.str)]) (by kernel_rfl) (by kernel_rfl) (by kernel_rfl) (by kernel_rfl) (slEqual_spec x5 t.names (by first | omega | (exact Nat.lt_trans (hrw _ _ (by assumption)) (by decide)))) (by simp [Ty.v]) (by simp [Ty.v]) (by simp [Ty.v]) ?_
 refine qR 3 [(3, .ptr 5 0), (4, .ptr 6 0)] [u.bx, .box [.bool (x5 == t.names)], .map (encM (AVal.int .i64) AVal.bool pl), .box [.map 2], .map (encM (AVal.int .i64) encS rw), .box [.map 4], t.bx] ?_ ?_
 refine qo ?_ ?_
 refine qr 5 ?_ ?_
 refine qY (o_mset (o := 4) (ek := (AVal.int .i64)) (ev := encS) (l := rw) (k := (t.n)) (x := t.names) keyI (by kernel_rfl) ty72 ty3 rfl (by kernel_rfl) (by kernel_rfl)) ?_ ?_ ?_
 refine qe ?_ ?_
 refine leafA (l := []) (.inl rfl) (by kernel_rfl) (by simp [awrap]) (by simp [awrap]) (by simp [awrap]) ?_ ?_
 refine Eq.trans (b := [.box [.int .i64 (u.kind), .str u.name, .int .i64 (u.n), .imm (u.names.map AVal.str), .imm (u.kids.map Ty.enc)], .box [.bool (x5 == t.names)], .map (encM (AVal.int .i64) AVal.bool pl), .box [.map 2], .map (encM (AVal.int .i64) encS (mset (t.n) t.names rw)), .box [.map 4]]) (by kernel_rfl) ?_
 · simp [hpV, stepV, rwOk, *]
 rotate_left
 iterate 8 kernel_rfl
 refine qm [33, 34] (Bool.eq_false_iff.2 hb7) ?_ ?_
 refine qR 10 [(3, .ptr 5 0), (4, .ptr 6 0)] [u.bx, .box [.bool false], .map (encM (AVal.int .i64) AVal.bool pl), .box [.map 2], .map (encM (AVal.int .i64) encS rw), .box [.map 4], t.bx] ?_ ?_
 refine qo ?_ ?_
 refine qr 5 ?_ ?_
 refine qY (o_mset (o := 4) (ek := (AVal.int .i64)) (ev := encS) (l := rw) (k := (t.n)) (x := t.names) keyI (by kernel_rfl) ty72 ty3 rfl (by kernel_rfl) (by kernel_rfl)) ?_ ?_ ?_
 refine qe ?_ ?_
 refine leafA (l := []) (.inl rfl) (by kernel_rfl) (by simp [awrap]) (by simp [awrap]) (by simp [awrap]) ?_ ?_
 refine Eq.trans (b := [.box [.int .i64 (u.kind), .str u.name, .int .i64 (u.n), .imm (u.names.map AVal.str), .imm (u.kids.map Ty.enc)], .box [.bool false], .map (encM (AVal.int .i64) AVal.bool pl), .box [.map 2], .map (encM (AVal.int .i64) encS (mset (t.n) t.names rw)), .box [.map 4]]) (by kernel_rfl) ?_
 · simp [hpV, stepV, rwOk, *]
 rotate_left
 iterate 15 kernel_rfl
 refine qm [20, 21] (beq_eq_false_iff_ne.2 hb3) ?_ ?_
 refine qR 4 [(1, .ptr 1 0), (3, .ptr 5 0), (4, .ptr 6 0), (25, .bool false)] [u.bx, .box [.bool (fmd t)], .map (encM (AVal.int .i64) AVal.bool pl), .box [.map 2], .map (encM (AVal.int .i64) encS rw), .box [.map 4], t.bx] ?_ ?_
 refine wIfF (by kernel_rfl) (by kernel_rfl) ?_
 refine qk ?_ ?_
 refine leafA (l := []) (.inl rfl) (by kernel_rfl) (by simp [awrap]) (by simp [awrap]) (by simp [awrap]) ?_ ?_
 refine Eq.trans (b := [.box [.int .i64 (u.kind), .str u.name, .int .i64 (u.n), .imm (u.names.map AVal.str), .imm (u.kids.map Ty.enc)], .box [.bool (fmd t)], .map (encM (AVal.int .i64) AVal.bool pl), .box [.map 2], .map (encM (AVal.int .i64) encS rw), .box [.map 4]]) (by kernel_rfl) ?_
 · simp [hpV, stepV, rwOk, *]
 rotate_left
 iterate 9 kernel_rfl
 refine qm [7, 8] (Bool.eq_false_iff.2 hb1) ?_ ?_
 refine qR 4 [(1, .ptr 1 0), (2, .ptr 3 0), (3, .ptr 5 0), (4, .ptr 6 0)] [u.bx, .box [.bool false], .map (encM (AVal.int .i64) AVal.bool pl), .box [.map 2], .map (encM (AVal.int .i64) encS rw), .box [.map 4], t.bx] ?_ ?_
 refine qU 3 [(1, .ptr 1 0), (2, .ptr 3 0), (3, .ptr 5 0), (4, .ptr 6 0), (14, .bool ((t.kind) == 6))] ?_ ?_
 by_cases hb8 : (t.kind) = 6
 refine qt (beq_iff_eq.2 hb8) ?_ ?_
 refine qo ?_ ?_
 refine qr 3 ?_ ?_
 refine qY (o_mset (o := 2) (ek := (AVal.int .i64)) (ev := AVal.bool) (l := pl) (k := (t.n)) (x := true) keyI (by kernel_rfl) ty71 ty3 rfl (by kernel_rfl) (by kernel_rfl)) ?_ ?_ ?_
 refine qe ?_ ?_
 refine leafA (l := []) (.inl rfl) (by kernel_rfl) (by simp [awrap]) (by simp [awrap]) (by simp [awrap]) ?_ ?_
 refine Eq.trans (b := [.box [.int .i64 (u.kind), .str u.name, .int .i64 (u.n), .imm (u.names.map AVal.str), .imm (u.kids.map Ty.enc)], .box [.bool false], .map (encM (AVal.int .i64) AVal.bool (mset (t.n) true pl)), .box [.map 2], .map (encM (AVal.int .i64) encS rw), .box [.map 4]]) (by kernel_rfl) ?_
 · simp [hpV, stepV, rwOk, *]
 rotate_left
 iterate 6 kernel_rfl
 refine qf (beq_eq_false_iff_ne.2 hb8) ?_ ?_
 refine qV 4 ?_ ?_
 by_cases hb9 : (t.kind) = 5
 refine qm [20, 21] (beq_iff_eq.2 hb9) ?_ ?_
 refine qR 4 [(1, .ptr 1 0), (3, .ptr 5 0), (4, .ptr 6 0), (25, .bool ((t.n) != 0))] [u.bx, .box [.bool false], .map (encM (AVal.int .i64) AVal.bool pl), .box [.map 2], .map (encM (AVal.int .i64) encS rw), .box [.map 4], t.bx] ?_ ?_
 by_cases hb10 : (t.n) = 0
 refine qf (x := ((t.n) != 0)) (bne_eq_false_iff_eq.2 hb10) ?_ ?_
 refine qk ?_ ?_
 refine leafA (l := []) (.inl rfl) (by kernel_rfl) (by simp [awrap]) (by simp [awrap]) (by simp [awrap]) ?_ ?_
 refine Eq.trans (b := [.box [.int .i64 (u.kind), .str u.name, .int .i64 (u.n), .imm (u.names.map AVal.str), .imm (u.kids.map Ty.enc)], .box [.bool false], .map (encM (AVal.int .i64) AVal.bool pl), .box [.map 2], .map (encM (AVal.int .i64) encS rw), .box [.map 4]]) (by kernel_rfl) ?_
 · simp [hpV, stepV, rwOk, *]
 rotate_left
 iterate 2 kernel_rfl
 refine qt (x := ((t.n) != 0)) (bne_iff_ne.2 hb10) ?_ ?_
 refine qV 3 ?_ ?_
 rcases hm11 : mget (t.n) rw with _ | x11
 refine qy (o_lookN (ok := true) (o := 4) (ek := (AVal.int .i64)) (ev := encS) (l := rw) (k := (t.n)) keyI hm11 (by kernel_rfl) ty72 ty3 rfl ty22 (by kernel_rfl)) ?_ ?_ ?_
 refine qR 5 [(1, .ptr 1 0), (3, .ptr 5 0), (4, .ptr 6 0), (5, .full []), (6, .bool false)] [u.bx, .box [.bool false], .map (encM (AVal.int .i64) AVal.bool pl), .box [.map 2], .map (encM (AVal.int .i64) encS rw), .box [.map 4], t.bx] ?_ ?_
 refine qU 12 [(3, .ptr 5 0), (4, .ptr 6 0)] ?_ ?_
 refine qo ?_ ?_
 refine qr 5 ?_ ?_
 refine qY (o_mset (o := 4) (ek := (AVal.int .i64)) (ev := encS) (l := rw) (k := (t.n)) (x := t.names) keyI (by kernel_rfl) ty72 ty3 rfl (by kernel_rfl) (by kernel_rfl)) ?_ ?_ ?_
 refine qe ?_ ?_
 refine leafA (l := []) (.inl rfl) (by kernel_rfl) (by simp [awrap]) (by simp [awrap]) (by simp [awrap]) ?_ ?_
 refine Eq.trans (b := [.box [.int .i64 (u.kind), .str u.name, .int .i64 (u.n), .imm (u.names.map AVal.str), .imm (u.kids.map Ty.enc)], .box [.bool false], .map (encM (AVal.int .i64) AVal.bool pl), .box [.map 2], .map (encM (AVal.int .i64) encS (mset (t.n) t.names rw)), .box [.map 4]]) (by kernel_rfl) ?_
 · simp [hpV, stepV, rwOk, *]
 rotate_left
 iterate 9 kernel_rfl
 refine qy (o_lookS (ok := true) (o := 4) (ek := (AVal.int .i64)) (ev := encS) (l := rw) (k := (t.n)) (x := x11) keyI hm11 (by kernel_rfl) ty72 ty3 rfl ty22 (by kernel_rfl)) ?_ ?_ ?_
 refine qR 5 [(1, .ptr 1 0), (3, .ptr 5 0), (4, .ptr 6 0), (5, .imm (x11.map AVal.str)), (6, .bool true)] [u.bx, .box [.bool false], .map (encM (AVal.int .i64) AVal.bool pl), .box [.map 2], .map (encM (AVal.int .i64) encS rw), .box [.map 4], t.bx] ?_ ?_
 refine qU 12 [(3, .ptr 5 0), (4, .ptr 6 0)] ?_ ?_
 refine qo ?_ ?_
 refine qr 5 ?_ ?_
 refine qY (o_mset (o := 4) (ek := (AVal.int .i64)) (ev := encS) (l := rw) (k := (t.n)) (x := t.names) keyI (by kernel_rfl) ty72 ty3 rfl (by kernel_rfl) (by kernel_rfl)) ?_ ?_ ?_
 refine qe ?_ ?_
 refine leafA (l := []) (.inl rfl) (by kernel_rfl) (by simp [awrap]) (by simp [awrap]) (by simp [awrap]) ?_ ?_
 refine Eq.trans (b := [.box [.int .i64 (u.kind), .str u.name, .int .i64 (u.n), .imm (u.names.map AVal.str), .imm (u.kids.map Ty.enc)], .box [.bool false], .map (encM (AVal.int .i64) AVal.bool pl), .box [.map 2], .map (encM (AVal.int .i64) encS (mset (t.n) t.names rw)), .box [.map 4]]) (by kernel_rfl) ?_
 · simp [hpV, stepV, rwOk, *]
 rotate_left
 iterate 13 kernel_rfl
 refine qm [20, 21] (beq_eq_false_iff_ne.2 hb9) ?_ ?_
 refine qR 4 [(1, .ptr 1 0), (3, .ptr 5 0), (4, .ptr 6 0), (25, .bool false)] [u.bx, .box [.bool false], .map (encM (AVal.int .i64) AVal.bool pl), .box [.map 2], .map (encM (AVal.int .i64) encS rw), .box [.map 4], t.bx] ?_ ?_
 refine wIfF (by kernel_rfl) (by kernel_rfl) ?_
 refine qk ?_ ?_
 refine leafA (l := []) (.inl rfl) (by kernel_rfl) (by simp [awrap]) (by simp [awrap]) (by simp [awrap]) ?_ ?_
 refine Eq.trans (b := [.box [.int .i64 (u.kind), .str u.name, .int .i64 (u.n), .imm (u.names.map AVal.str), .imm (u.kids.map Ty.enc)], .box [.bool false], .map (encM (AVal.int .i64) AVal.bool pl), .box [.map 2], .map (encM (AVal.int .i64) encS rw), .box [.map 4]]) (by kernel_rfl) ?_
 · simp [hpV, stepV, rwOk, *]
 rotate_left
 iterate 11 kernel_rfl
 all_goals
  simp [AObj.belO, hpV, Ty.v]
mutual
def visV : VSt → Ty → VSt
  | s, .mk k x n l ks => if k = 5 then stepV (visVL s ks) (.mk k x n l ks) else visVL (stepV s (.mk k x n l ks)) ks
def visVL : VSt → List Ty → VSt
  | s, [] => s
  | s, t :: l => visVL (visV s t) l
end
theorem visV_rec (s : VSt) (t : Ty) (h : t.kind = 5) : visV s t = stepV (visVL s t.kids) t := by cases t; simp only [Ty.kind] at h; simp only [visV, if_pos h, Ty.kids]
theorem visV_oth (s : VSt) (t : Ty) (h : ¬ t.kind = 5) : visV s t = visVL (stepV s t) t.kids := by cases t; simp only [Ty.kind] at h; simp only [visV, if_neg h, Ty.kids]
theorem visVL_snoc (t : Ty) : ∀ (l : List Ty) (s : VSt), visVL s (l ++ [t]) = visV (visVL s l) t
  | [], s => rfl
  | x :: l, s => by simp only [List.cons_append, visVL, visVL_snoc t l]
theorem take_snocT (l : List Ty) (k : Nat) (h : k < l.length) : l.take (k + 1) = l.take k ++ [l.getD k Ty.zero] := by
  rw [List.take_succ_eq_append_getElem h, List.getD_eq_getElem?_getD, List.getElem?_eq_getElem h]; rfl
theorem visVL_take (s : VSt) (l : List Ty) (k : Nat) (h : k < l.length) : visVL s (l.take (k + 1)) = visV (visVL s (l.take k)) (l.getD k Ty.zero) := by
  rw [take_snocT l k h, visVL_snoc]
theorem mget_mset {κ α : Type} [DecidableEq κ] (k k' : κ) (v : α) : ∀ l : List (κ × α), mget k (mset k' v l) = if k = k' then some v else mget k l
  | [] => by simp [mset, mget]
  | p :: l => by
    simp only [mset]
    by_cases e : k' = p.1
    · rw [if_pos e]; simp only [mget]
      by_cases e2 : k = k'
      · rw [if_pos e2, if_pos e2]
      · rw [if_neg e2, if_neg e2, if_neg (by rw [← e]; exact e2)]
    · rw [if_neg e]; simp only [mget, mget_mset k k' v l]
      by_cases e2 : k = p.1
      · rw [if_pos e2, if_pos e2, if_neg (by rintro rfl; exact e e2)]
      · rw [if_neg e2, if_neg e2]
theorem sm_step {s : VSt} (hs : s.sm) {t : Ty} (ht : t.sz < 100000000) : (stepV s t).sm := by
  intro k l h
  unfold stepV at h
  split at h
  · exact hs k l h
  · split at h
    · simp only [mget_mset] at h
      split at h
      · cases h; have := sz_names t; omega
      · exact hs k l h
    · exact hs k l h
mutual
theorem sm_vis : ∀ (t : Ty) (s : VSt), s.sm → t.sz < 100000000 → (visV s t).sm
  | .mk k x n l ks, s, hs, ht => by
    have hk : Ty.szL ks < 100000000 := by simp only [Ty.sz] at ht; omega
    simp only [visV]
    split
    · exact sm_step (sm_visL ks s hs hk) ht
    · exact sm_visL ks _ (sm_step hs ht) hk
theorem sm_visL : ∀ (l : List Ty) (s : VSt), s.sm → Ty.szL l < 100000000 → (visVL s l).sm
  | [], s, hs, _ => hs
  | t :: l, s, hs, ht => by
    simp only [Ty.szL] at ht
    exact sm_visL l _ (sm_vis t s hs (by omega)) (by omega)
end
theorem szL_take : ∀ (l : List Ty) (k : Nat), Ty.szL (l.take k) ≤ Ty.szL l
  | [], k => by simp
  | t :: l, 0 => by simp [Ty.szL]
  | t :: l, k + 1 => by have := szL_take l k; simp only [List.take_succ_cons, Ty.szL]; omega
theorem sm_take (t : Ty) (s : VSt) (k : Nat) (hs : s.sm) (ht : t.sz < 100000000) : (visVL s (t.kids.take k)).sm := sm_visL _ _ hs (by have := szL_take t.kids k; have := sz_eq t; omega)
theorem valid1_spec (t u : Ty) (s : VSt) (hs : t.sz < 100000000) (hm : s.sm) : CallsA cx 55 [t.v, .ptr 1 0, .ptr 3 0, .ptr 5 0] (hpV u s) (fun v h => v = .tup [] ∧ h = hpV u (stepV s t)) := valid1_raw t u s.ok s.pl s.rw hs hm
noncomputable def c54 : Code := bodyOf Tryz.f54
theorem visitV_spec (t u : Ty) (s : VSt) (hs : t.sz < 100000000) (hm : s.sm) : CallsA cx 54 [Ty.v t, .fn (.func 55) [] [.ptr 1 0, .ptr 3 0, .ptr 5 0]] (hpV u s) (fun v h => v = (.tup []) ∧ h = hpV u (visV s t)) := by
 induction hN : t.sz using Nat.strongRecOn generalizing t u s with | _ N ih =>
 have ihV : ∀ (t' u : Ty) (s : VSt), t'.sz < t.sz → t'.sz < 100000000 → s.sm → CallsA cx 54 [t'.v, .fn (.func 55) [] [.ptr 1 0, .ptr 3 0, .ptr 5 0]] (hpV u s) (fun v h => v = .tup [] ∧ h = hpV u (visV s t')) := fun t' u s h1 h2 h3 => ih _ (by rw [← hN]; exact h1) t' u s h2 h3 rfl
 have hz2 := sz_kids t
 refine func_intro (cx := cx) 29 6 [] Tryz.func54 rfl rfl rfl rfl rfl (by simp) ?_
 show wpA cx 29 6 (at_ c54 []) _ _ _
 refine qZ [(0, Ty.v t), (1, .fn (.func 55) [] [.ptr 1 0, .ptr 3 0, .ptr 5 0])] [u.bx, .box [.bool (s.ok)], .map (encM (AVal.int .i64) AVal.bool s.pl), .box [.map 2], .map (encM (AVal.int .i64) encS s.rw), .box [.map 4]] ?_ ?_
 refine qW 1 [(1, .fn (.func 55) [] [.ptr 1 0, .ptr 3 0, .ptr 5 0]), (2, .ptr 6 0)] [u.bx, .box [.bool (s.ok)], .map (encM (AVal.int .i64) AVal.bool s.pl), .box [.map 2], .map (encM (AVal.int .i64) encS s.rw), .box [.map 4], t.bx] ?_ ?_
 refine qSeq ?_ ?_
 refine qU 3 [(1, .fn (.func 55) [] [.ptr 1 0, .ptr 3 0, .ptr 5 0]), (2, .ptr 6 0), (8, .bool ((t.kind) != 5))] ?_ ?_
 by_cases hb1 : (t.kind) = 5
 refine qf (x := ((t.kind) != 5)) (bne_eq_false_iff_eq.2 hb1) ?_ ?_
 refine qK ?_ ?_
 refine qz [(1, .fn (.func 55) [] [.ptr 1 0, .ptr 3 0, .ptr 5 0]), (2, .ptr 6 0)] ?_ ?_
 refine qSeq ?_ ?_
 refine qV 2 ?_ ?_
 refine qy (o_lenmap (l := t.kids) (enc := Ty.enc) (by kernel_rfl) ty23) ?_ ?_ ?_
 refine qR 1 [(1, .fn (.func 55) [] [.ptr 1 0, .ptr 3 0, .ptr 5 0]), (2, .ptr 6 0), (13, .imm (t.kids.map Ty.enc)), (14, nI t.kids.length), (15, .int .i64 0)] [u.bx, .box [.bool (s.ok)], .map (encM (AVal.int .i64) AVal.bool s.pl), .box [.map 2], .map (encM (AVal.int .i64) encS s.rw), .box [.map 4], t.bx] ?_ ?_
 refine qB 0 ?_ ?_ ?_
 refine wLoop (σ := Nat) (fun k => [(1, .fn (.func 55) [] [.ptr 1 0, .ptr 3 0, .ptr 5 0]), (2, .ptr 6 0), (13, .imm (t.kids.map Ty.enc)), (14, .int .i64 ((t.kids.length : Nat) : Int)), (15, .int .i64 ((k : Nat) : Int))]) (fun k => [.box [.int .i64 (u.kind), .str u.name, .int .i64 (u.n), .imm (u.names.map AVal.str), .imm (u.kids.map Ty.enc)], .box [.bool ((visVL s (t.kids.take k)).ok)], .map (encM (AVal.int .i64) AVal.bool (visVL s (t.kids.take k)).pl), .box [.map 2], .map (encM (AVal.int .i64) encS (visVL s (t.kids.take k)).rw), .box [.map 4], .box [.int .i64 (t.kind), .str t.name, .int .i64 (t.n), .imm (t.names.map AVal.str), .imm (t.kids.map Ty.enc)]]) (fun k => k ≤ t.kids.length) (fun k => t.kids.length - k) 0 (by kernel_rfl) (by exact Nat.zero_le _) ⟨⟨(by kernel_rfl), (by kernel_rfl), (by kernel_rfl), (by kernel_rfl), (by kernel_rfl), trivial⟩, by simp [BelL, AVal.bel], by simp, (by kernel_rfl), by simp [AObj.belO]⟩ ?_
 rintro k hk
 refine qW 1 [(1, .fn (.func 55) [] [.ptr 1 0, .ptr 3 0, .ptr 5 0]), (2, .ptr 6 0), (13, .imm (t.kids.map Ty.enc)), (14, nI t.kids.length), (15, nI k), (16, .bool (decide (((k : Nat) : Int) < ((t.kids.length : Nat) : Int))))] [u.bx, .box [.bool ((visVL s (t.kids.take k)).ok)], .map (encM (AVal.int .i64) AVal.bool (visVL s (t.kids.take k)).pl), .box [.map 2], .map (encM (AVal.int .i64) encS (visVL s (t.kids.take k)).rw), .box [.map 4], t.bx] ?_ ?_
 refine qSeq ?_ ?_
 by_cases hb2 : ((k : Nat) : Int) < ((t.kids.length : Nat) : Int)
 refine qt (decide_eq_true hb2) ?_ ?_
 refine qK ?_ ?_
 refine qz [(1, .fn (.func 55) [] [.ptr 1 0, .ptr 3 0, .ptr 5 0]), (2, .ptr 6 0), (13, .imm (t.kids.map Ty.enc)), (14, nI t.kids.length), (15, nI k)] ?_ ?_
 refine qSeq ?_ ?_
 refine qB 1 ?_ ?_ ?_
 refine qO ?_ ?_
 refine qy ((o_ixmap (k := .i64) (l := t.kids) (enc := Ty.enc) (i := ((k : Nat) : Int)) Ty.zero (by kernel_rfl) ty23 ty25 ty_size (by first | omega | exact sz_kid t k (by omega) | exact Nat.lt_trans (sz_kid t k (by omega)) hs) (by first | omega | exact sz_kid t k (by omega) | exact Nat.lt_trans (sz_kid t k (by omega)) hs)).trans (congrArg (fun cs => some (AVal.pimm cs 0, _)) (ty_cells (t.kids.getD k Ty.zero)))) ?_ ?_ ?_
 refine qR 3 [(1, .fn (.func 55) [] [.ptr 1 0, .ptr 3 0, .ptr 5 0]), (2, .ptr 6 0), (5, .ptr 7 0), (13, .imm (t.kids.map Ty.enc)), (14, nI t.kids.length), (15, nI k)] [u.bx, .box [.bool ((visVL s (t.kids.take k)).ok)], .map (encM (AVal.int .i64) AVal.bool (visVL s (t.kids.take k)).pl), .box [.map 2], .map (encM (AVal.int .i64) encS (visVL s (t.kids.take k)).rw), .box [.map 4], t.bx, .box [.int .i64 ((t.kids.getD k Ty.zero).kind), .str (t.kids.getD k Ty.zero).name, .int .i64 ((t.kids.getD k Ty.zero).n), .imm ((t.kids.getD k Ty.zero).names.map AVal.str), .imm ((t.kids.getD k Ty.zero).kids.map Ty.enc)]] ?_ ?_
 refine qo ?_ ?_
 refine qr 2 ?_ ?_
 refine vcallA (args := [.agg [.int .i64 ((t.kids.getD k Ty.zero).kind), .str (t.kids.getD k Ty.zero).name, .int .i64 ((t.kids.getD k Ty.zero).n), .imm ((t.kids.getD k Ty.zero).names.map AVal.str), .imm ((t.kids.getD k Ty.zero).kids.map Ty.enc)], .fn (.func 55) [] [.ptr 1 0, .ptr 3 0, .ptr 5 0]]) (hs := [.box [.int .i64 (u.kind), .str u.name, .int .i64 (u.n), .imm (u.names.map AVal.str), .imm (u.kids.map Ty.enc)], .box [.bool ((visVL s (t.kids.take k)).ok)], .map (encM (AVal.int .i64) AVal.bool (visVL s (t.kids.take k)).pl), .box [.map 2], .map (encM (AVal.int .i64) encS (visVL s (t.kids.take k)).rw), .box [.map 4]]) (hs' := [.box [.int .i64 (u.kind), .str u.name, .int .i64 (u.n), .imm (u.names.map AVal.str), .imm (u.kids.map Ty.enc)], .box [.bool ((visV (visVL s (t.kids.take k)) (t.kids.getD k Ty.zero)).ok)], .map (encM (AVal.int .i64) AVal.bool (visV (visVL s (t.kids.take k)) (t.kids.getD k Ty.zero)).pl), .box [.map 2], .map (encM (AVal.int .i64) encS (visV (visVL s (t.kids.take k)) (t.kids.getD k Ty.zero)).rw), .box [.map 4]]) (rest := [.box [.int .i64 (t.kind), .str t.name, .int .i64 (t.n), .imm (t.names.map AVal.str), .imm (t.kids.map Ty.enc)], .box [.int .i64 ((t.kids.getD k Ty.zero).kind), .str (t.kids.getD k Ty.zero).name, .int .i64 ((t.kids.getD k Ty.zero).n), .imm ((t.kids.getD k Ty.zero).names.map AVal.str), .imm ((t.kids.getD k Ty.zero).kids.map Ty.enc)]]) (by kernel_rfl) (by kernel_rfl) (by kernel_rfl) (by kernel_rfl) (by kernel_rfl) (ihV (t.kids.getD k Ty.zero) u (visVL s (t.kids.take k)) (by first | omega | exact sz_kid t k (by omega) | exact Nat.lt_trans (sz_kid t k (by omega)) hs) (by first | omega | exact sz_kid t k (by omega) | exact Nat.lt_trans (sz_kid t k (by omega)) hs) (by first | exact hm | exact sm_step hm hs | exact sm_take t _ _ hm hs | exact sm_take t _ _ (sm_step hm hs) hs)) (by simp [AObj.belO, hpV, Ty.v]) (by simp [AObj.belO, hpV, Ty.v]) rfl (by simp [AObj.belO, hpV, Ty.v]) (by simp [AObj.belO, hpV, Ty.v]) (by kernel_rfl) ?_
 refine qe ?_ ?_
 refine AIn_normal ?_
 refine AThen_normal ?_
 refine qZ [(1, .fn (.func 55) [] [.ptr 1 0, .ptr 3 0, .ptr 5 0]), (2, .ptr 6 0), (13, .imm (t.kids.map Ty.enc)), (14, nI t.kids.length), (15, nI k)] [u.bx, .box [.bool ((visV (visVL s (t.kids.take k)) (t.kids.getD k Ty.zero)).ok)], .map (encM (AVal.int .i64) AVal.bool (visV (visVL s (t.kids.take k)) (t.kids.getD k Ty.zero)).pl), .box [.map 2], .map (encM (AVal.int .i64) encS (visV (visVL s (t.kids.take k)) (t.kids.getD k Ty.zero)).rw), .box [.map 4], t.bx, .box [.int .i64 ((t.kids.getD k Ty.zero).kind), .str (t.kids.getD k Ty.zero).name, .int .i64 ((t.kids.getD k Ty.zero).n), .imm ((t.kids.getD k Ty.zero).names.map AVal.str), .imm ((t.kids.getD k Ty.zero).kids.map Ty.enc)]] ?_ ?_
 refine qo ?_ ?_
 refine qy (o_add (a := ((k : Nat) : Int)) (b := 1) (by kernel_rfl) (by first | omega | exact sz_kid t k (by omega) | exact Nat.lt_trans (sz_kid t k (by omega)) hs) (by first | omega | exact sz_kid t k (by omega) | exact Nat.lt_trans (sz_kid t k (by omega)) hs)) ?_ ?_ ?_
 refine qr 1 ?_ ?_
 refine qe ?_ ?_
 refine AThen_normal ⟨k + 1, ?_, ?_, ⟨⟨(by kernel_rfl), (by kernel_rfl), (by kernel_rfl), (by kernel_rfl), (by kernel_rfl), trivial⟩, by simp [BelL, AVal.bel], by simp, (Eq.trans (b := [.box [.int .i64 (u.kind), .str u.name, .int .i64 (u.n), .imm (u.names.map AVal.str), .imm (u.kids.map Ty.enc)], .box [.bool ((visV (visVL s (t.kids.take k)) (t.kids.getD k Ty.zero)).ok)], .map (encM (AVal.int .i64) AVal.bool (visV (visVL s (t.kids.take k)) (t.kids.getD k Ty.zero)).pl), .box [.map 2], .map (encM (AVal.int .i64) encS (visV (visVL s (t.kids.take k)) (t.kids.getD k Ty.zero)).rw), .box [.map 4], .box [.int .i64 (t.kind), .str t.name, .int .i64 (t.n), .imm (t.names.map AVal.str), .imm (t.kids.map Ty.enc)]]) (by kernel_rfl) (by exact congrArg (fun q => hpV u q ++ [.box [.int .i64 t.kind, .str t.name, .int .i64 t.n, .imm (t.names.map .str), .imm (t.kids.map Ty.enc)]]) (visVL_take _ t.kids k (by omega)).symm)), by simp [AObj.belO]⟩⟩
 · omega
 · omega
 iterate 19 kernel_rfl
 refine qf (decide_eq_false hb2) ?_ ?_
 refine wExit 0 (by kernel_rfl) (by kernel_rfl) ?_
 refine AThen_exit ?_
 refine AThen_exit ?_
 refine AIn_exit ?_
 refine AThen_normal ?_
 refine qz [(1, .fn (.func 55) [] [.ptr 1 0, .ptr 3 0, .ptr 5 0]), (2, .ptr 6 0)] ?_ ?_
 refine qU 3 [(1, .fn (.func 55) [] [.ptr 1 0, .ptr 3 0, .ptr 5 0]), (2, .ptr 6 0), (25, .bool ((t.kind) == 5))] ?_ ?_
 refine qt (beq_iff_eq.2 hb1) ?_ ?_
 refine qo ?_ ?_
 refine qr 2 ?_ ?_
 refine vcallA (args := [.agg [.int .i64 (t.kind), .str t.name, .int .i64 (t.n), .imm (t.names.map AVal.str), .imm (t.kids.map Ty.enc)], .ptr 1 0, .ptr 3 0, .ptr 5 0]) (hs := [.box [.int .i64 (u.kind), .str u.name, .int .i64 (u.n), .imm (u.names.map AVal.str), .imm (u.kids.map Ty.enc)], .box [.bool ((visVL s (t.kids.take k)).ok)], .map (encM (AVal.int .i64) AVal.bool (visVL s (t.kids.take k)).pl), .box [.map 2], .map (encM (AVal.int .i64) encS (visVL s (t.kids.take k)).rw), .box [.map 4]]) (hs' := [.box [.int .i64 (u.kind), .str u.name, .int .i64 (u.n), .imm (u.names.map AVal.str), .imm (u.kids.map Ty.enc)], .box [.bool ((stepV (visVL s (t.kids.take k)) t).ok)], .map (encM (AVal.int .i64) AVal.bool (stepV (visVL s (t.kids.take k)) t).pl), .box [.map 2], .map (encM (AVal.int .i64) encS (stepV (visVL s (t.kids.take k)) t).rw), .box [.map 4]]) (rest := [.box [.int .i64 (t.kind), .str t.name, .int .i64 (t.n), .imm (t.names.map AVal.str), .imm (t.kids.map Ty.enc)]]) (by kernel_rfl) (by kernel_rfl) (by kernel_rfl) (by kernel_rfl) (by kernel_rfl) (valid1_spec t u (visVL s (t.kids.take k)) (by first | omega | exact sz_kid t k (by omega) | exact Nat.lt_trans (sz_kid t k (by omega)) hs) (by first | exact hm | exact sm_step hm hs | exact sm_take t _ _ hm hs | exact sm_take t _ _ (sm_step hm hs) hs)) (by simp [AObj.belO, hpV, Ty.v]) (by simp [AObj.belO, hpV, Ty.v]) rfl (by simp [AObj.belO, hpV, Ty.v]) (by simp [AObj.belO, hpV, Ty.v]) (by kernel_rfl) ?_
 refine qe ?_ ?_
 refine leafA (l := []) (.inl rfl) (by kernel_rfl) (by simp [awrap]) (by simp [awrap]) (by simp [awrap]) ?_ ?_
 refine Eq.trans (b := [.box [.int .i64 (u.kind), .str u.name, .int .i64 (u.n), .imm (u.names.map AVal.str), .imm (u.kids.map Ty.enc)], .box [.bool ((stepV (visVL s (t.kids.take k)) t).ok)], .map (encM (AVal.int .i64) AVal.bool (stepV (visVL s (t.kids.take k)) t).pl), .box [.map 2], .map (encM (AVal.int .i64) encS (stepV (visVL s (t.kids.take k)) t).rw), .box [.map 4]]) (by kernel_rfl) ?_
 rotate_left
 · simp [AObj.belO, hpV, Ty.v]
 iterate 19 kernel_rfl
 refine qt (x := ((t.kind) != 5)) (bne_iff_ne.2 hb1) ?_ ?_
 refine qo ?_ ?_
 refine qr 2 ?_ ?_
 refine vcallA (args := [.agg [.int .i64 (t.kind), .str t.name, .int .i64 (t.n), .imm (t.names.map AVal.str), .imm (t.kids.map Ty.enc)], .ptr 1 0, .ptr 3 0, .ptr 5 0]) (hs := [.box [.int .i64 (u.kind), .str u.name, .int .i64 (u.n), .imm (u.names.map AVal.str), .imm (u.kids.map Ty.enc)], .box [.bool (s.ok)], .map (encM (AVal.int .i64) AVal.bool s.pl), .box [.map 2], .map (encM (AVal.int .i64) encS s.rw), .box [.map 4]]) (hs' := [.box [.int .i64 (u.kind), .str u.name, .int .i64 (u.n), .imm (u.names.map AVal.str), .imm (u.kids.map Ty.enc)], .box [.bool ((stepV s t).ok)], .map (encM (AVal.int .i64) AVal.bool (stepV s t).pl), .box [.map 2], .map (encM (AVal.int .i64) encS (stepV s t).rw), .box [.map 4]]) (rest := [.box [.int .i64 (t.kind), .str t.name, .int .i64 (t.n), .imm (t.names.map AVal.str), .imm (t.kids.map Ty.enc)]]) (by kernel_rfl) (by kernel_rfl) (by kernel_rfl) (by kernel_rfl) (by kernel_rfl) (valid1_spec t u s (by first | omega | exact sz_kid t k (by omega) | exact Nat.lt_trans (sz_kid t k (by omega)) hs) (by first | exact hm | exact sm_step hm hs | exact sm_take t _ _ hm hs | exact sm_take t _ _ (sm_step hm hs) hs)) (by simp [AObj.belO, hpV, Ty.v]) (by simp [AObj.belO, hpV, Ty.v]) rfl (by simp [AObj.belO, hpV, Ty.v]) (by simp [AObj.belO, hpV, Ty.v]) (by kernel_rfl) ?_
 refine qN [(1, .fn (.func 55) [] [.ptr 1 0, .ptr 3 0, .ptr 5 0]), (2, .ptr 6 0)] [u.bx, .box [.bool ((stepV s t).ok)], .map (encM (AVal.int .i64) AVal.bool (stepV s t).pl), .box [.map 2], .map (encM (AVal.int .i64) encS (stepV s t).rw), .box [.map 4], t.bx] ?_ ?_
 refine qSeq ?_ ?_
 refine qV 2 ?_ ?_
 refine qy (o_lenmap (l := t.kids) (enc := Ty.enc) (by kernel_rfl) ty23) ?_ ?_ ?_
 refine qR 1 [(1, .fn (.func 55) [] [.ptr 1 0, .ptr 3 0, .ptr 5 0]), (2, .ptr 6 0), (13, .imm (t.kids.map Ty.enc)), (14, nI t.kids.length), (15, .int .i64 0)] [u.bx, .box [.bool ((stepV s t).ok)], .map (encM (AVal.int .i64) AVal.bool (stepV s t).pl), .box [.map 2], .map (encM (AVal.int .i64) encS (stepV s t).rw), .box [.map 4], t.bx] ?_ ?_
 refine qB 0 ?_ ?_ ?_
 refine wLoop (σ := Nat) (fun k => [(1, .fn (.func 55) [] [.ptr 1 0, .ptr 3 0, .ptr 5 0]), (2, .ptr 6 0), (13, .imm (t.kids.map Ty.enc)), (14, .int .i64 ((t.kids.length : Nat) : Int)), (15, .int .i64 ((k : Nat) : Int))]) (fun k => [.box [.int .i64 (u.kind), .str u.name, .int .i64 (u.n), .imm (u.names.map AVal.str), .imm (u.kids.map Ty.enc)], .box [.bool ((visVL (stepV s t) (t.kids.take k)).ok)], .map (encM (AVal.int .i64) AVal.bool (visVL (stepV s t) (t.kids.take k)).pl), .box [.map 2], .map (encM (AVal.int .i64) encS (visVL (stepV s t) (t.kids.take k)).rw), .box [.map 4], .box [.int .i64 (t.kind), .str t.name, .int .i64 (t.n), .imm (t.names.map AVal.str), .imm (t.kids.map Ty.enc)]]) (fun k => k ≤ t.kids.length) (fun k => t.kids.length - k) 0 (by kernel_rfl) (by exact Nat.zero_le _) ⟨⟨(by kernel_rfl), (by kernel_rfl), (by kernel_rfl), (by kernel_rfl), (by kernel_rfl), trivial⟩, by simp [BelL, AVal.bel], by simp, (by kernel_rfl), by simp [AObj.belO]⟩ ?_
 rintro k hk
 refine qW 1 [(1, .fn (.func 55) [] [.ptr 1 0, .ptr 3 0, .ptr 5 0]), (2, .ptr 6 0), (13, .imm (t.kids.map Ty.enc)), (14, nI t.kids.length), (15, nI k), (16, .bool (decide (((k : Nat) : Int) < ((t.kids.length : Nat) : Int))))] [u.bx, .box [.bool ((visVL (stepV s t) (t.kids.take k)).ok)], .map (encM (AVal.int .i64) AVal.bool (visVL (stepV s t) (t.kids.take k)).pl), .box [.map 2], .map (encM (AVal.int .i64) encS (visVL (stepV s t) (t.kids.take k)).rw), .box [.map 4], t.bx] ?_ ?_
 refine qSeq ?_ ?_
 by_cases hb4 : ((k : Nat) : Int) < ((t.kids.length : Nat) : Int)
 refine qt (decide_eq_true hb4) ?_ ?_
 refine qK ?_ ?_
 refine qz [(1, .fn (.func 55) [] [.ptr 1 0, .ptr 3 0, .ptr 5 0]), (2, .ptr 6 0), (13, .imm (t.kids.map Ty.enc)), (14, nI t.kids.length), (15, nI k)] ?_ ?_
 refine qSeq ?_ ?_
 refine qB 1 ?_ ?_ ?_
 refine qO ?_ ?_
 refine qy ((o_ixmap (k := .i64) (l := t.kids) (enc := Ty.enc) (i := ((k : Nat) : Int)) Ty.zero (by kernel_rfl) ty23 ty25 ty_size (by first | omega | exact sz_kid t k (by omega) | exact Nat.lt_trans (sz_kid t k (by omega)) hs) (by first | omega | exact sz_kid t k (by omega) | exact Nat.lt_trans (sz_kid t k (by omega)) hs)).trans (congrArg (fun cs => some (AVal.pimm cs 0, _)) (ty_cells (t.kids.getD k Ty.zero)))) ?_ ?_ ?_
 refine qR 3 [(1, .fn (.func 55) [] [.ptr 1 0, .ptr 3 0, .ptr 5 0]), (2, .ptr 6 0), (5, .ptr 7 0), (13, .imm (t.kids.map Ty.enc)), (14, nI t.kids.length), (15, nI k)] [u.bx, .box [.bool ((visVL (stepV s t) (t.kids.take k)).ok)], .map (encM (AVal.int .i64) AVal.bool (visVL (stepV s t) (t.kids.take k)).pl), .box [.map 2], .map (encM (AVal.int .i64) encS (visVL (stepV s t) (t.kids.take k)).rw), .box [.map 4], t.bx, .box [.int .i64 ((t.kids.getD k Ty.zero).kind), .str (t.kids.getD k Ty.zero).name, .int .i64 ((t.kids.getD k Ty.zero).n), .imm ((t.kids.getD k Ty.zero).names.map AVal.str), .imm ((t.kids.getD k Ty.zero).kids.map Ty.enc)]] ?_ ?_
 refine qo ?_ ?_
 refine qr 2 ?_ ?_
 refine vcallA (args := [.agg [.int .i64 ((t.kids.getD k Ty.zero).kind), .str (t.kids.getD k Ty.zero).name, .int .i64 ((t.kids.getD k Ty.zero).n), .imm ((t.kids.getD k Ty.zero).names.map AVal.str), .imm ((t.kids.getD k Ty.zero).kids.map Ty.enc)], .fn (.func 55) [] [.ptr 1 0, .ptr 3 0, .ptr 5 0]]) (hs := [.box [.int .i64 (u.kind), .str u.name, .int .i64 (u.n), .imm (u.names.map AVal.str), .imm (u.kids.map Ty.enc)], .box [.bool ((visVL (stepV s t) (t.kids.take k)).ok)], .map (encM (AVal.int .i64) AVal.bool (visVL (stepV s t) (t.kids.take k)).pl), .box [.map 2], .map (encM (AVal.int .i64) encS (visVL (stepV s t) (t.kids.take k)).rw), .box [.map 4]]) (hs' := [.box [.int .i64 (u.kind), .str u.name, .int .i64 (u.n), .imm (u.names.map AVal.str), .imm (u.kids.map Ty.enc)], .box [.bool ((visV (visVL (stepV s t) (t.kids.take k)) (t.kids.getD k Ty.zero)).ok)], .map (encM (AVal.int .i64) AVal.bool (visV (visVL (stepV s t) (t.kids.take k)) (t.kids.getD k Ty.zero)).pl), .box [.map 2], .map (encM (AVal.int .i64) encS (visV (visVL (stepV s t) (t.kids.take k)) (t.kids.getD k Ty.zero)).rw), .box [.map 4]]) (rest := [.box [.int .i64 (t.kind), .str t.name, .int .i64 (t.n), .imm (t.names.map AVal.str), .imm (t.kids.map Ty.enc)], .box [.int .i64 ((t.kids.getD k Ty.zero).kind), .str (t.kids.getD k Ty.zero).name, .int .i64 ((t.kids.getD k Ty.zero).n), .imm ((t.kids.getD k Ty.zero).names.map AVal.str), .imm ((t.kids.getD k Ty.zero).kids.map Ty.enc)]]) (by kernel_rfl) (by kernel_rfl) (by kernel_rfl) (by kernel_rfl) (by kernel_rfl) (ihV (t.kids.getD k Ty.zero) u (visVL (stepV s t) (t.kids.take k)) (by first | omega | exact sz_kid t k (by omega) | exact Nat.lt_trans (sz_kid t k (by omega)) hs) (by first | omega | exact sz_kid t k (by omega) | exact Nat.lt_trans (sz_kid t k (by omega)) hs) (by first | exact hm | exact sm_step hm hs | exact sm_take t _ _ hm hs | exact sm_take t _ _ (sm_step hm hs) hs)) (by simp [AObj.belO, hpV, Ty.v]) (by simp [AObj.belO, hpV, Ty.v]) rfl (by simp [AObj.belO, hpV, Ty.v]) (by simp [AObj.belO, hpV, Ty.v]) (by kernel_rfl) ?_
 refine qe ?_ ?_
 refine AIn_normal ?_
 refine AThen_normal ?_
 refine qZ [(1, .fn (.func 55) [] [.ptr 1 0, .ptr 3 0, .ptr 5 0]), (2, .ptr 6 0), (13, .imm (t.kids.map Ty.enc)), (14, nI t.kids.length), (15, nI k)] [u.bx, .box [.bool ((visV (visVL (stepV s t) (t.kids.take k)) (t.kids.getD k Ty.zero)).ok)], .map (encM (AVal.int .i64) AVal.bool (visV (visVL (stepV s t) (t.kids.take k)) (t.kids.getD k Ty.zero)).pl), .box [.map 2], .map (encM (AVal.int .i64) encS (visV (visVL (stepV s t) (t.kids.take k)) (t.kids.getD k Ty.zero)).rw), .box [.map 4], t.bx, .box [.int .i64 ((t.kids.getD k Ty.zero).kind), .str (t.kids.getD k Ty.zero).name, .int .i64 ((t.kids.getD k Ty.zero).n), .imm ((t.kids.getD k Ty.zero).names.map AVal.str), .imm ((t.kids.getD k Ty.zero).kids.map Ty.enc)]] ?_ ?_
 refine qo ?_ ?_
 refine qy (o_add (a := ((k : Nat) : Int)) (b := 1) (by kernel_rfl) (by first | omega | exact sz_kid t k (by omega) | exact Nat.lt_trans (sz_kid t k (by omega)) hs) (by first | omega | exact sz_kid t k (by omega) | exact Nat.lt_trans (sz_kid t k (by omega)) hs)) ?_ ?_ ?_
 refine qr 1 ?_ ?_
 refine qe ?_ ?_
 refine AThen_normal ⟨k + 1, ?_, ?_, ⟨⟨(by kernel_rfl), (by kernel_rfl), (by kernel_rfl), (by kernel_rfl), (by kernel_rfl), trivial⟩, by simp [BelL, AVal.bel], by simp, (Eq.trans (b := [.box [.int .i64 (u.kind), .str u.name, .int .i64 (u.n), .imm (u.names.map AVal.str), .imm (u.kids.map Ty.enc)], .box [.bool ((visV (visVL (stepV s t) (t.kids.take k)) (t.kids.getD k Ty.zero)).ok)], .map (encM (AVal.int .i64) AVal.bool (visV (visVL (stepV s t) (t.kids.take k)) (t.kids.getD k Ty.zero)).pl), .box [.map 2], .map (encM (AVal.int .i64) encS (visV (visVL (stepV s t) (t.kids.take k)) (t.kids.getD k Ty.zero)).rw), .box [.map 4], .box [.int .i64 (t.kind), .str t.name, .int .i64 (t.n), .imm (t.names.map AVal.str), .imm (t.kids.map Ty.enc)]]) (by kernel_rfl) (by exact congrArg (fun q => hpV u q ++ [.box [.int .i64 t.kind, .str t.name, .int .i64 t.n, .imm (t.names.map .str), .imm (t.kids.map Ty.enc)]]) (visVL_take _ t.kids k (by omega)).symm)), by simp [AObj.belO]⟩⟩
 · omega
 · omega
 iterate 19 kernel_rfl
 refine qf (decide_eq_false hb4) ?_ ?_
 refine wExit 0 (by kernel_rfl) (by kernel_rfl) ?_
 refine AThen_exit ?_
 refine AThen_exit ?_
 refine AIn_exit ?_
 refine AThen_normal ?_
 refine qz [(1, .fn (.func 55) [] [.ptr 1 0, .ptr 3 0, .ptr 5 0]), (2, .ptr 6 0)] ?_ ?_
 refine qU 3 [(1, .fn (.func 55) [] [.ptr 1 0, .ptr 3 0, .ptr 5 0]), (2, .ptr 6 0), (25, .bool ((t.kind) == 5))] ?_ ?_
 refine qf (beq_eq_false_iff_ne.2 hb1) ?_ ?_
 refine qk ?_ ?_
 refine leafA (l := []) (.inl rfl) (by kernel_rfl) (by simp [awrap]) (by simp [awrap]) (by simp [awrap]) ?_ ?_
 refine Eq.trans (b := [.box [.int .i64 (u.kind), .str u.name, .int .i64 (u.n), .imm (u.names.map AVal.str), .imm (u.kids.map Ty.enc)], .box [.bool ((visVL (stepV s t) (t.kids.take k)).ok)], .map (encM (AVal.int .i64) AVal.bool (visVL (stepV s t) (t.kids.take k)).pl), .box [.map 2], .map (encM (AVal.int .i64) encS (visVL (stepV s t) (t.kids.take k)).rw), .box [.map 4]]) (by kernel_rfl) ?_
 rotate_left
 · simp [AObj.belO, hpV, Ty.v]
 iterate 22 kernel_rfl
 all_goals
  refine congrArg (hpV u) ?_
  first | rw [visV_oth s t (by assumption), List.take_of_length_le (by omega)] | rw [visV_rec s t (by assumption), List.take_of_length_le (by omega)]
end Go.Proofs.YtdikgijfekfaoaaGreatDoor
