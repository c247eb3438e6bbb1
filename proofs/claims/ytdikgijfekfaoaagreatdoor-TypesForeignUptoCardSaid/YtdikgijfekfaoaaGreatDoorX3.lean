/- Record of a store where it answers an error. Condition: sizes that can be had. -/
import Derived.Test.YtdikgijfekfaoaaGreatDoorX2
import Derived.Test.YtdikgijfekfaoaaGreatDoorAbsc
set_option linter.all false
set_option linter.unusedSimpArgs false
set_option linter.unusedVariables false
namespace Go.Proofs.YtdikgijfekfaoaaGreatDoor
open Go.Proofs.YtdikgijfekfaoaaGreatDoor.Abs
set_option maxRecDepth 20000
set_option maxHeartbeats 4000000
def dupL (l : List (List UInt8)) : Nat → Bool
  | 0 => false
  | k + 1 => dupL l k || (l.take k).contains (l.getD k [])
def badL (m : St) (ns : List (List UInt8)) (ks : List Ty) (i : Nat) : Bool := !(fitsW 2 (ns.getD i [])) || !(hasB m (ks.getD i Ty.zero))
/-- The error of Record. -/
def recE (m : St) (ns : List (List UInt8)) (ks : List Ty) : Int :=
  if ¬ ns.length = ks.length then 1 else if (List.range ns.length).any (badL m ns ks) = true then 1 else if dupL ns ns.length = true then 8 else 0
theorem recE_len {m : St} {ns : List (List UInt8)} {ks : List Ty} (h : ¬ ((ns.length : Nat) : Int) = ((ks.length : Nat) : Int)) : recE m ns ks = 1 := by rw [recE, if_pos (by omega)]
theorem recE_bad {m : St} {ns : List (List UInt8)} {ks : List Ty} (i : Nat) (hi : i < ns.length) (h : badL m ns ks i = true) : recE m ns ks = 1 := by
  rw [recE]; split
  · rfl
  · rw [if_pos (List.any_eq_true.2 ⟨i, List.mem_range.2 hi, h⟩)]
theorem recE_low {m : St} {ns : List (List UInt8)} {ks : List Ty} (i : Nat) (hi : i < ns.length) (h : ¬ fitsW 2 (ns.getD i []) = true) : recE m ns ks = 1 := recE_bad i hi (by rw [badL, Bool.eq_false_iff.2 h]; rfl)
theorem recE_has {m : St} {ns : List (List UInt8)} {ks : List Ty} (i : Nat) (hi : i < ns.length) (h : ¬ hasB m (ks.getD i Ty.zero) = true) : recE m ns ks = 1 := recE_bad i hi (by rw [badL, Bool.eq_false_iff.2 h]; simp)
theorem recE_none {m : St} {ns : List (List UInt8)} {ks : List Ty} {k : Nat} (hk : ns.length ≤ k) (ha : ∀ i, i < k → badL m ns ks i = false) : ¬ (List.range ns.length).any (badL m ns ks) = true := by
  intro h
  obtain ⟨i, hi, h⟩ := List.any_eq_true.1 h
  rw [ha i (by have := List.mem_range.1 hi; omega)] at h
  cases h
theorem recE_dup {m : St} {ns : List (List UInt8)} {ks : List Ty} {k : Nat} {w : Bool} (hl : ((ns.length : Nat) : Int) = ((ks.length : Nat) : Int)) (hk : ns.length ≤ k) (hk2 : k ≤ ns.length) (ha : ∀ i, i < k → badL m ns ks i = false) (hw : w = dupL ns k) (h : w = true) : recE m ns ks = 8 := by
  obtain rfl : k = ns.length := by omega
  rw [recE, if_neg (by omega), if_neg (recE_none hk ha), if_pos (by rw [← hw]; exact h)]
theorem recE_zero {m : St} {ns : List (List UInt8)} {ks : List Ty} {k : Nat} {w : Bool} (hl : ((ns.length : Nat) : Int) = ((ks.length : Nat) : Int)) (hk : ns.length ≤ k) (hk2 : k ≤ ns.length) (ha : ∀ i, i < k → badL m ns ks i = false) (hw : w = dupL ns k) (h : ¬ w = true) : recE m ns ks = 0 := by
  obtain rfl : k = ns.length := by omega
  rw [recE, if_neg (by omega), if_neg (recE_none hk ha), if_neg (by rw [← hw]; exact h)]
theorem bad_step {m : St} {ns : List (List UInt8)} {ks : List Ty} {k : Nat} (ha : ∀ i, i < k → badL m ns ks i = false) (h1 : fitsW 2 (ns.getD k []) = true) (h2 : hasB m (ks.getD k Ty.zero) = true) : ∀ i, i < k + 1 → badL m ns ks i = false := by
  intro i hi
  rcases Nat.lt_succ_iff_lt_or_eq.1 hi with h | h
  · exact ha i h
  · subst h; rw [badL, h1, h2]; rfl
def fkOk (ns : List (List UInt8)) (q : Fd) (k : Nat) : Prop := ∀ s, (mget s q).isSome = (ns.take k).contains s
theorem fk_step {ns : List (List UInt8)} {q : Fd} {k : Nat} {x : Ty} (hk : k < ns.length) (h : fkOk ns q k) : fkOk ns (mset (ns.getD k []) x q) (k + 1) := by
  intro s
  rw [mget_mset, List.take_succ_eq_append_getElem hk]
  have e : ns.getD k [] = ns[k] := by rw [List.getD_eq_getElem?_getD, List.getElem?_eq_getElem hk]; rfl
  rw [e]
  by_cases hs : s = ns[k]
  · rw [if_pos hs, hs]; exact (List.contains_iff_mem.2 (List.mem_append_right _ (List.mem_singleton.2 rfl))).symm
  · rw [if_neg hs, h s, Bool.eq_iff_iff, List.contains_iff_mem, List.contains_iff_mem, List.mem_append, List.mem_singleton]
    exact ⟨.inl, fun h => h.elim id fun h => absurd h hs⟩
theorem dup_t {ns : List (List UInt8)} {k : Nat} {w : Bool} (hw : w = dupL ns k) (h : w = true) : true = dupL ns (k + 1) := by rw [dupL, ← hw, h]; rfl
theorem dup_n {ns : List (List UInt8)} {q : Fd} {k : Nat} {w : Bool} (hw : w = dupL ns k) (h : ¬ w = true) (hq : fkOk ns q k) (hm : mget (ns.getD k []) q = none) : false = dupL ns (k + 1) := by
  have := hq (ns.getD k [])
  rw [hm] at this
  rw [dupL, ← hw, Bool.eq_false_iff.2 h, ← this]; rfl
theorem dup_s {ns : List (List UInt8)} {q : Fd} {k : Nat} {w : Bool} {x : Ty} (hw : w = dupL ns k) (h : ¬ w = true) (hq : fkOk ns q k) (hm : mget (ns.getD k []) q = some x) : true = dupL ns (k + 1) := by
  have := hq (ns.getD k [])
  rw [hm] at this
  rw [dupL, ← hw, Bool.eq_false_iff.2 h, ← this]; rfl
noncomputable def c36 : Code := bodyOf Tryz.f36
theorem record_err (ns : List (List UInt8)) (ks : List Ty) (lv : Int) (m : St) (hn : ns.length < 100000000) (hnl : ∀ i, (ns.getD i []).length < 100000000) (hks : ∀ i, (ks.getD i Ty.zero).sz < 100000000) (hm : stSm m) (hne : ¬ recE m ns ks = 0) : CallsA cx 36 [.ptr 0 0, .imm (ns.map AVal.str), .imm (ks.map Ty.enc)] [.box [.int .i64 (lv), .map 1], .map (encM (AVal.int .i64) Vr.v m)] (fun v h => v = (.tup [.agg [.int .i64 0, .str [], .int .i64 0, .imm [], .imm []], .int .i64 (recE m ns ks)]) ∧ h = [.box [.int .i64 (lv), .map 1], .map (encM (AVal.int .i64) Vr.v m)]) := by
 refine func_intro (cx := cx) 76 2 [(ResultVar.cell 6 25), (ResultVar.tmp 7)] Tryz.func36 rfl rfl rfl rfl rfl (by simp) ?_
 show wpA cx 76 2 (at_ c36 []) _ _ _
 refine qZ [(0, .ptr 0 0), (1, .imm (ns.map AVal.str)), (2, .imm (ks.map Ty.enc))] [.box [.int .i64 (lv), .map 1], .map (encM (AVal.int .i64) Vr.v m)] ?_ ?_
 refine qW 2 [(0, .ptr 0 0), (1, .imm (ns.map AVal.str)), (2, .imm (ks.map Ty.enc)), (6, .ptr 2 0)] [.box [.int .i64 (lv), .map 1], .map (encM (AVal.int .i64) Vr.v m), .box [.int .i64 0, .str [], .int .i64 0, .full [], .full []]] ?_ ?_
 refine qSeq ?_ ?_
 refine qV 1 ?_ ?_
 refine qy (o_lenmap (l := ns) (enc := AVal.str) (by kernel_rfl) ty22) ?_ ?_ ?_
 refine qr 1 ?_ ?_
 refine qy (o_lenmap (l := ks) (enc := Ty.enc) (by kernel_rfl) ty23) ?_ ?_ ?_
 refine qR 1 [(0, .ptr 0 0), (1, .imm (ns.map AVal.str)), (2, .imm (ks.map Ty.enc)), (6, .ptr 2 0), (19, .bool (((ns.length : Nat) : Int) != ((ks.length : Nat) : Int)))] [.box [.int .i64 (lv), .map 1], .map (encM (AVal.int .i64) Vr.v m), .box [.int .i64 0, .str [], .int .i64 0, .full [], .full []]] ?_ ?_
 by_cases hb1 : ((ns.length : Nat) : Int) = ((ks.length : Nat) : Int)
 refine qf (x := (((ns.length : Nat) : Int) != ((ks.length : Nat) : Int))) (bne_eq_false_iff_eq.2 hb1) ?_ ?_
 refine qK ?_ ?_
 refine qz [(0, .ptr 0 0), (1, .imm (ns.map AVal.str)), (2, .imm (ks.map Ty.enc)), (6, .ptr 2 0)] ?_ ?_
 refine qW 2 [(0, .ptr 0 0), (1, .imm (ns.map AVal.str)), (2, .imm (ks.map Ty.enc)), (6, .ptr 2 0), (8, .map 3)] [.box [.int .i64 (lv), .map 1], .map (encM (AVal.int .i64) Vr.v m), .box [.int .i64 0, .str [], .int .i64 0, .full [], .full []], .map (encM AVal.str Ty.v ([] : List (List UInt8 × Ty)))] ?_ ?_
 refine qU 1 [(0, .ptr 0 0), (1, .imm (ns.map AVal.str)), (2, .imm (ks.map Ty.enc)), (6, .ptr 2 0), (8, .map 3), (9, .bool false)] ?_ ?_
 refine qSeq ?_ ?_
 refine qV 1 ?_ ?_
 refine qy (o_lenmap (l := ns) (enc := AVal.str) (by kernel_rfl) ty22) ?_ ?_ ?_
 refine qR 1 [(0, .ptr 0 0), (2, .imm (ks.map Ty.enc)), (6, .ptr 2 0), (8, .map 3), (9, .bool false), (22, .imm (ns.map AVal.str)), (23, nI ns.length), (24, .int .i64 0)] [.box [.int .i64 (lv), .map 1], .map (encM (AVal.int .i64) Vr.v m), .box [.int .i64 0, .str [], .int .i64 0, .full [], .full []], .map (encM AVal.str Ty.v ([] : List (List UInt8 × Ty)))] ?_ ?_
 refine qB 0 ?_ ?_ ?_
 refine wLoop (σ := (Nat × Fd × Bool)) (fun ⟨k, q, w⟩ => [(0, .ptr 0 0), (2, .imm (ks.map Ty.enc)), (6, .ptr 2 0), (8, .map 3), (9, .bool (w)), (22, .imm (ns.map AVal.str)), (23, .int .i64 ((ns.length : Nat) : Int)), (24, .int .i64 ((k : Nat) : Int))]) (fun ⟨k, q, w⟩ => [.box [.int .i64 (lv), .map 1], .map (encM (AVal.int .i64) Vr.v m), .box [.int .i64 0, .str [], .int .i64 0, .full [], .full []], .map (encM AVal.str Ty.v q)]) (fun ⟨k, q, w⟩ => k ≤ ns.length ∧ (∀ i, i < k → badL m ns ks i = false) ∧ w = dupL ns k ∧ fkOk ns q k) (fun ⟨k, q, w⟩ => ns.length - k) (0, ([] : Fd), false) (by kernel_rfl) (by exact ⟨Nat.zero_le _, fun i hi => by omega, rfl, fun s => by simp [mget]⟩) ⟨⟨(by kernel_rfl), (by kernel_rfl), (by kernel_rfl), (by kernel_rfl), (by kernel_rfl), (by kernel_rfl), (by kernel_rfl), (by kernel_rfl), trivial⟩, by simp [BelL, AVal.bel], by simp, (by kernel_rfl), by simp [AObj.belO]⟩ ?_
 rintro ⟨k, q, w⟩ ⟨hk, ha, hw, hq⟩
 refine qZ [(0, .ptr 0 0), (2, .imm (ks.map Ty.enc)), (6, .ptr 2 0), (8, .map 3), (9, .bool (w)), (22, .imm (ns.map AVal.str)), (23, nI ns.length), (24, nI k)] [.box [.int .i64 (lv), .map 1], .map (encM (AVal.int .i64) Vr.v m), .box [.int .i64 0, .str [], .int .i64 0, .full [], .full []], .map (encM AVal.str Ty.v q)] ?_ ?_
 refine qU 1 [(0, .ptr 0 0), (2, .imm (ks.map Ty.enc)), (6, .ptr 2 0), (8, .map 3), (9, .bool (w)), (22, .imm (ns.map AVal.str)), (23, nI ns.length), (24, nI k), (25, .bool (decide (((k : Nat) : Int) < ((ns.length : Nat) : Int))))] ?_ ?_
 refine qSeq ?_ ?_
 by_cases hb2 : ((k : Nat) : Int) < ((ns.length : Nat) : Int)
 refine qt (decide_eq_true hb2) ?_ ?_
 refine qK ?_ ?_
 refine qz [(0, .ptr 0 0), (2, .imm (ks.map Ty.enc)), (6, .ptr 2 0), (8, .map 3), (9, .bool (w)), (22, .imm (ns.map AVal.str)), (23, nI ns.length), (24, nI k)] ?_ ?_
 refine qSeq ?_ ?_
 refine qB 1 ?_ ?_ ?_
 refine qV 1 ?_ ?_
 refine qy (o_ixmap (k := .i64) (l := ns) (enc := AVal.str) (i := ((k : Nat) : Int)) [] (by kernel_rfl) ty22 ty9 (fun _ => rfl) (by first | omega | assumption | exact hks _ | (have := hnl k; omega)) (by first | omega | assumption | exact hks _ | (have := hnl k; omega))) ?_ ?_ ?_
 refine qR 3 [(0, .ptr 0 0), (2, .imm (ks.map Ty.enc)), (6, .ptr 2 0), (8, .map 3), (9, .bool (w)), (10, nI k), (11, .str (ns.getD k [])), (22, .imm (ns.map AVal.str)), (23, nI ns.length), (24, nI k)] [.box [.int .i64 (lv), .map 1], .map (encM (AVal.int .i64) Vr.v m), .box [.int .i64 0, .str [], .int .i64 0, .full [], .full []], .map (encM AVal.str Ty.v q)] ?_ ?_
 refine qSeq ?_ ?_
 refine qV 1 ?_ ?_
 refine qc [.str (ns.getD k [])] (tlower_spec (ns.getD k []) (by first | omega | assumption | exact hks _ | (have := hnl k; omega))) ?_ ?_
 refine qr 2 ?_ ?_
 by_cases hb3 : (fitsW 2 (ns.getD k [])) = true
 refine qm [31, 32] (x := (!(fitsW 2 (ns.getD k [])))) (congrArg not (hb3)) ?_ ?_
 refine qr 3 ?_ ?_
 refine qy ((o_ixmap (k := .i64) (l := ks) (enc := Ty.enc) (i := ((k : Nat) : Int)) Ty.zero (by kernel_rfl) ty23 ty25 ty_size (by first | omega | assumption | exact hks _ | (have := hnl k; omega)) (by first | omega | assumption | exact hks _ | (have := hnl k; omega))).trans (congrArg (fun cs => some (AVal.pimm cs 0, _)) (ty_cells (ks.getD k Ty.zero)))) ?_ ?_ ?_
 refine qr 1 ?_ ?_
 refine vcallA (args := [.ptr 0 0, .agg [.int .i64 ((ks.getD k Ty.zero).kind), .str (ks.getD k Ty.zero).name, .int .i64 ((ks.getD k Ty.zero).n), .imm ((ks.getD k Ty.zero).names.map AVal.str), .imm ((ks.getD k Ty.zero).kids.map Ty.enc)]]) (hs := [.box [.int .i64 (lv), .map 1], .map (encM (AVal.int .i64) Vr.v m)]) (hs' := [.box [.int .i64 ((lv)), .map 1], .map (encM (AVal.int .i64) Vr.v m)]) (rest := [.box [.int .i64 0, .str [], .int .i64 0, .full [], .full []], .map (encM AVal.str Ty.v q)]) (by kernel_rfl) (by kernel_rfl) (by kernel_rfl) (by kernel_rfl) (by kernel_rfl) (has_S (ks.getD k Ty.zero) (lv) m (by first | omega | assumption | exact hks _ | (have := hnl k; omega)) (by first | omega | assumption | exact hks _ | (have := hnl k; omega))) (by simp [AObj.belO, Ty.v]) (by simp [AObj.belO, Ty.v]) rfl (by simp [AObj.belO, Ty.v]) (by simp [AObj.belO, Ty.v]) (by kernel_rfl) ?_
 refine qR 2 [(0, .ptr 0 0), (2, .imm (ks.map Ty.enc)), (6, .ptr 2 0), (8, .map 3), (9, .bool (w)), (10, nI k), (11, .str (ns.getD k [])), (22, .imm (ns.map AVal.str)), (23, nI ns.length), (24, nI k), (33, .ptr 0 0), (34, .imm (ks.map Ty.enc)), (35, nI k), (36, .pimm [.int .i64 ((ks.getD k Ty.zero).kind), .str (ks.getD k Ty.zero).name, .int .i64 ((ks.getD k Ty.zero).n), .imm ((ks.getD k Ty.zero).names.map AVal.str), .imm ((ks.getD k Ty.zero).kids.map Ty.enc)] 0), (37, .agg [.int .i64 ((ks.getD k Ty.zero).kind), .str (ks.getD k Ty.zero).name, .int .i64 ((ks.getD k Ty.zero).n), .imm ((ks.getD k Ty.zero).names.map AVal.str), .imm ((ks.getD k Ty.zero).kids.map Ty.enc)]), (38, .bool (hasB m (ks.getD k Ty.zero))), (39, .bool (!(hasB m (ks.getD k Ty.zero)))), (40, .bool (!(hasB m (ks.getD k Ty.zero))))] [.box [.int .i64 ((lv)), .map 1], .map (encM (AVal.int .i64) Vr.v m), .box [.int .i64 0, .str [], .int .i64 0, .full [], .full []], .map (encM AVal.str Ty.v q)] ?_ ?_
 by_cases hb4 : (hasB m (ks.getD k Ty.zero)) = true
 refine qf (x := (!(hasB m (ks.getD k Ty.zero)))) (congrArg not (hb4)) ?_ ?_
 refine qK ?_ ?_
 refine qz [(0, .ptr 0 0), (2, .imm (ks.map Ty.enc)), (6, .ptr 2 0), (8, .map 3), (9, .bool (w)), (10, nI k), (11, .str (ns.getD k [])), (22, .imm (ns.map AVal.str)), (23, nI ns.length), (24, nI k), (33, .ptr 0 0), (34, .imm (ks.map Ty.enc)), (35, nI k), (36, .pimm [.int .i64 ((ks.getD k Ty.zero).kind), .str (ks.getD k Ty.zero).name, .int .i64 ((ks.getD k Ty.zero).n), .imm ((ks.getD k Ty.zero).names.map AVal.str), .imm ((ks.getD k Ty.zero).kids.map Ty.enc)] 0), (37, .agg [.int .i64 ((ks.getD k Ty.zero).kind), .str (ks.getD k Ty.zero).name, .int .i64 ((ks.getD k Ty.zero).n), .imm ((ks.getD k Ty.zero).names.map AVal.str), .imm ((ks.getD k Ty.zero).kids.map Ty.enc)]), (38, .bool (hasB m (ks.getD k Ty.zero))), (39, .bool (!(hasB m (ks.getD k Ty.zero))))] ?_ ?_
 refine qV 2 ?_ ?_
 rcases hm5 : mget (ns.getD k []) q with _ | x5
 refine qy (o_lookN (ok := true) (o := 3) (ek := AVal.str) (ev := Ty.v) (l := q) (k := (ns.getD k [])) keyS hm5 (by kernel_rfl) ty106 ty9 rfl ty25 (by kernel_rfl)) ?_ ?_ ?_
 refine qR 6 [(0, .ptr 0 0), (2, .imm (ks.map Ty.enc)), (6, .ptr 2 0), (8, .map 3), (9, .bool (w)), (10, nI k), (11, .str (ns.getD k [])), (13, .bool false), (22, .imm (ns.map AVal.str)), (23, nI ns.length), (24, nI k), (33, .ptr 0 0), (34, .imm (ks.map Ty.enc)), (35, nI k), (36, .pimm [.int .i64 ((ks.getD k Ty.zero).kind), .str (ks.getD k Ty.zero).name, .int .i64 ((ks.getD k Ty.zero).n), .imm ((ks.getD k Ty.zero).names.map AVal.str), .imm ((ks.getD k Ty.zero).kids.map Ty.enc)] 0), (37, .agg [.int .i64 ((ks.getD k Ty.zero).kind), .str (ks.getD k Ty.zero).name, .int .i64 ((ks.getD k Ty.zero).n), .imm ((ks.getD k Ty.zero).names.map AVal.str), .imm ((ks.getD k Ty.zero).kids.map Ty.enc)]), (38, .bool (hasB m (ks.getD k Ty.zero))), (39, .bool (!(hasB m (ks.getD k Ty.zero))))] [.box [.int .i64 ((lv)), .map 1], .map (encM (AVal.int .i64) Vr.v m), .box [.int .i64 0, .str [], .int .i64 0, .full [], .full []], .map (encM AVal.str Ty.v q), .box [.int .i64 0, .str [], .int .i64 0, .full [], .full []]] ?_ ?_
 refine qV 2 ?_ ?_
 by_cases hb6 : (w) = true
 refine qm [9, 48, 49] (hb6) ?_ ?_
 refine qR 3 [(0, .ptr 0 0), (2, .imm (ks.map Ty.enc)), (6, .ptr 2 0), (8, .map 3), (9, .bool true), (10, nI k), (11, .str (ns.getD k [])), (22, .imm (ns.map AVal.str)), (23, nI ns.length), (24, nI k), (33, .ptr 0 0), (34, .imm (ks.map Ty.enc)), (35, nI k), (36, .pimm [.int .i64 ((ks.getD k Ty.zero).kind), .str (ks.getD k Ty.zero).name, .int .i64 ((ks.getD k Ty.zero).n), .imm ((ks.getD k Ty.zero).names.map AVal.str), .imm ((ks.getD k Ty.zero).kids.map Ty.enc)] 0), (37, .agg [.int .i64 ((ks.getD k Ty.zero).kind), .str (ks.getD k Ty.zero).name, .int .i64 ((ks.getD k Ty.zero).n), .imm ((ks.getD k Ty.zero).names.map AVal.str), .imm ((ks.getD k Ty.zero).kids.map Ty.enc)]), (38, .bool (hasB m (ks.getD k Ty.zero))), (39, .bool (!(hasB m (ks.getD k Ty.zero)))), (50, .tup [])] [.box [.int .i64 ((lv)), .map 1], .map (encM (AVal.int .i64) Vr.v m), .box [.int .i64 0, .str [], .int .i64 0, .full [], .full []], .map (encM AVal.str Ty.v q), .box [.int .i64 0, .str [], .int .i64 0, .full [], .full []]] ?_ ?_
 refine qo ?_ ?_
 refine qr 4 ?_ ?_
 refine qy ((o_ixmap (k := .i64) (l := ks) (enc := Ty.enc) (i := ((k : Nat) : Int)) Ty.zero (by kernel_rfl) ty23 ty25 ty_size (by first | omega | assumption | exact hks _ | (have := hnl k; omega)) (by first | omega | assumption | exact hks _ | (have := hnl k; omega))).trans (congrArg (fun cs => some (AVal.pimm cs 0, _)) (ty_cells (ks.getD k Ty.zero)))) ?_ ?_ ?_
 refine qr 1 ?_ ?_
 refine vcallP (args := [.agg [.int .i64 ((ks.getD k Ty.zero).kind), .str (ks.getD k Ty.zero).name, .int .i64 ((ks.getD k Ty.zero).n), .imm ((ks.getD k Ty.zero).names.map AVal.str), .imm ((ks.getD k Ty.zero).kids.map Ty.enc)]]) (by kernel_rfl) (by kernel_rfl) (by kernel_rfl) (by kernel_rfl) (clone_spec (ks.getD k Ty.zero) (by first | omega | assumption | exact hks _ | (have := hnl k; omega))) (by simp [Ty.v, frzL_app, Occ.v]) (by simp [Ty.v]) (by simp [Ty.v, ownsL_app]) ?_
 refine qY (o_mset (o := 3) (ek := AVal.str) (ev := Ty.v) (l := q) (k := (ns.getD k [])) (x := (ks.getD k Ty.zero)) keyS (by kernel_rfl) ty106 ty9 rfl (by kernel_rfl) (by kernel_rfl)) ?_ ?_ ?_
 refine qe ?_ ?_
 refine AIn_normal ?_
 refine AThen_normal ?_
 refine qZ [(0, .ptr 0 0), (2, .imm (ks.map Ty.enc)), (6, .ptr 2 0), (8, .map 3), (9, .bool true), (22, .imm (ns.map AVal.str)), (23, nI ns.length), (24, nI k), (33, .ptr 0 0), (34, .imm (ks.map Ty.enc)), (35, nI k), (36, .pimm [.int .i64 ((ks.getD k Ty.zero).kind), .str (ks.getD k Ty.zero).name, .int .i64 ((ks.getD k Ty.zero).n), .imm ((ks.getD k Ty.zero).names.map AVal.str), .imm ((ks.getD k Ty.zero).kids.map Ty.enc)] 0), (37, .agg [.int .i64 ((ks.getD k Ty.zero).kind), .str (ks.getD k Ty.zero).name, .int .i64 ((ks.getD k Ty.zero).n), .imm ((ks.getD k Ty.zero).names.map AVal.str), .imm ((ks.getD k Ty.zero).kids.map Ty.enc)]), (38, .bool (hasB m (ks.getD k Ty.zero))), (39, .bool (!(hasB m (ks.getD k Ty.zero)))), (50, .tup [])] [.box [.int .i64 ((lv)), .map 1], .map (encM (AVal.int .i64) Vr.v m), .box [.int .i64 0, .str [], .int .i64 0, .full [], .full []], .map (encM AVal.str Ty.v (mset (ns.getD k []) (ks.getD k Ty.zero) q)), .box [.int .i64 0, .str [], .int .i64 0, .full [], .full []]] ?_ ?_
 refine qo ?_ ?_
 refine qy (o_add (a := ((k : Nat) : Int)) (b := 1) (by kernel_rfl) (by first | omega | assumption | exact hks _ | (have := hnl k; omega)) (by first | omega | assumption | exact hks _ | (have := hnl k; omega))) ?_ ?_ ?_
 refine qr 1 ?_ ?_
 refine qe ?_ ?_
 refine AThen_normal ⟨(k + 1, mset (ns.getD k []) (ks.getD k Ty.zero) q, true), ?_, ?_, ⟨⟨(by kernel_rfl), (by kernel_rfl), (by kernel_rfl), (by kernel_rfl), (by kernel_rfl), (by kernel_rfl), (by kernel_rfl), (by kernel_rfl), trivial⟩, by simp [BelL, AVal.bel], by simp, (by kernel_rfl), by simp [AObj.belO]⟩⟩
 · try dsimp only
   omega
 rotate_left
 iterate 16 kernel_rfl
 refine qm [9, 48, 49] (Bool.eq_false_iff.2 hb6) ?_ ?_
 refine qR 3 [(0, .ptr 0 0), (2, .imm (ks.map Ty.enc)), (6, .ptr 2 0), (8, .map 3), (9, .bool false), (10, nI k), (11, .str (ns.getD k [])), (22, .imm (ns.map AVal.str)), (23, nI ns.length), (24, nI k), (33, .ptr 0 0), (34, .imm (ks.map Ty.enc)), (35, nI k), (36, .pimm [.int .i64 ((ks.getD k Ty.zero).kind), .str (ks.getD k Ty.zero).name, .int .i64 ((ks.getD k Ty.zero).n), .imm ((ks.getD k Ty.zero).names.map AVal.str), .imm ((ks.getD k Ty.zero).kids.map Ty.enc)] 0), (37, .agg [.int .i64 ((ks.getD k Ty.zero).kind), .str (ks.getD k Ty.zero).name, .int .i64 ((ks.getD k Ty.zero).n), .imm ((ks.getD k Ty.zero).names.map AVal.str), .imm ((ks.getD k Ty.zero).kids.map Ty.enc)]), (38, .bool (hasB m (ks.getD k Ty.zero))), (39, .bool (!(hasB m (ks.getD k Ty.zero)))), (50, .bool false)] [.box [.int .i64 ((lv)), .map 1], .map (encM (AVal.int .i64) Vr.v m), .box [.int .i64 0, .str [], .int .i64 0, .full [], .full []], .map (encM AVal.str Ty.v q), .box [.int .i64 0, .str [], .int .i64 0, .full [], .full []]] ?_ ?_
 refine qo ?_ ?_
 refine qr 4 ?_ ?_
 refine qy ((o_ixmap (k := .i64) (l := ks) (enc := Ty.enc) (i := ((k : Nat) : Int)) Ty.zero (by kernel_rfl) ty23 ty25 ty_size (by first | omega | assumption | exact hks _ | (have := hnl k; omega)) (by first | omega | assumption | exact hks _ | (have := hnl k; omega))).trans (congrArg (fun cs => some (AVal.pimm cs 0, _)) (ty_cells (ks.getD k Ty.zero)))) ?_ ?_ ?_
 refine qr 1 ?_ ?_
 refine vcallP (args := [.agg [.int .i64 ((ks.getD k Ty.zero).kind), .str (ks.getD k Ty.zero).name, .int .i64 ((ks.getD k Ty.zero).n), .imm ((ks.getD k Ty.zero).names.map AVal.str), .imm ((ks.getD k Ty.zero).kids.map Ty.enc)]]) (by kernel_rfl) (by kernel_rfl) (by kernel_rfl) (by kernel_rfl) (clone_spec (ks.getD k Ty.zero) (by first | omega | assumption | exact hks _ | (have := hnl k; omega))) (by simp [Ty.v, frzL_app, Occ.v]) (by simp [Ty.v]) (by simp [Ty.v, ownsL_app]) ?_
 refine qY (o_mset (o := 3) (ek := AVal.str) (ev := Ty.v) (l := q) (k := (ns.getD k [])) (x := (ks.getD k Ty.zero)) keyS (by kernel_rfl) ty106 ty9 rfl (by kernel_rfl) (by kernel_rfl)) ?_ ?_ ?_
 refine qe ?_ ?_
 refine AIn_normal ?_
 refine AThen_normal ?_
 refine qZ [(0, .ptr 0 0), (2, .imm (ks.map Ty.enc)), (6, .ptr 2 0), (8, .map 3), (9, .bool false), (22, .imm (ns.map AVal.str)), (23, nI ns.length), (24, nI k), (33, .ptr 0 0), (34, .imm (ks.map Ty.enc)), (35, nI k), (36, .pimm [.int .i64 ((ks.getD k Ty.zero).kind), .str (ks.getD k Ty.zero).name, .int .i64 ((ks.getD k Ty.zero).n), .imm ((ks.getD k Ty.zero).names.map AVal.str), .imm ((ks.getD k Ty.zero).kids.map Ty.enc)] 0), (37, .agg [.int .i64 ((ks.getD k Ty.zero).kind), .str (ks.getD k Ty.zero).name, .int .i64 ((ks.getD k Ty.zero).n), .imm ((ks.getD k Ty.zero).names.map AVal.str), .imm ((ks.getD k Ty.zero).kids.map Ty.enc)]), (38, .bool (hasB m (ks.getD k Ty.zero))), (39, .bool (!(hasB m (ks.getD k Ty.zero)))), (50, .bool false)] [.box [.int .i64 ((lv)), .map 1], .map (encM (AVal.int .i64) Vr.v m), .box [.int .i64 0, .str [], .int .i64 0, .full [], .full []], .map (encM AVal.str Ty.v (mset (ns.getD k []) (ks.getD k Ty.zero) q)), .box [.int .i64 0, .str [], .int .i64 0, .full [], .full []]] ?_ ?_
 refine qo ?_ ?_
 refine qy (o_add (a := ((k : Nat) : Int)) (b := 1) (by kernel_rfl) (by first | omega | assumption | exact hks _ | (have := hnl k; omega)) (by first | omega | assumption | exact hks _ | (have := hnl k; omega))) ?_ ?_ ?_
 refine qr 1 ?_ ?_
 refine qe ?_ ?_
 refine AThen_normal ⟨(k + 1, mset (ns.getD k []) (ks.getD k Ty.zero) q, false), ?_, ?_, ⟨⟨(by kernel_rfl), (by kernel_rfl), (by kernel_rfl), (by kernel_rfl), (by kernel_rfl), (by kernel_rfl), (by kernel_rfl), (by kernel_rfl), trivial⟩, by simp [BelL, AVal.bel], by simp, (by kernel_rfl), by simp [AObj.belO]⟩⟩
 · try dsimp only
   omega
 rotate_left
 iterate 20 kernel_rfl
 refine qy (o_lookS (ok := true) (o := 3) (ek := AVal.str) (ev := Ty.v) (l := q) (k := (ns.getD k [])) (x := x5) keyS hm5 (by kernel_rfl) ty106 ty9 rfl ty25 (by kernel_rfl)) ?_ ?_ ?_
 refine qR 6 [(0, .ptr 0 0), (2, .imm (ks.map Ty.enc)), (6, .ptr 2 0), (8, .map 3), (9, .bool (w)), (10, nI k), (11, .str (ns.getD k [])), (13, .bool true), (22, .imm (ns.map AVal.str)), (23, nI ns.length), (24, nI k), (33, .ptr 0 0), (34, .imm (ks.map Ty.enc)), (35, nI k), (36, .pimm [.int .i64 ((ks.getD k Ty.zero).kind), .str (ks.getD k Ty.zero).name, .int .i64 ((ks.getD k Ty.zero).n), .imm ((ks.getD k Ty.zero).names.map AVal.str), .imm ((ks.getD k Ty.zero).kids.map Ty.enc)] 0), (37, .agg [.int .i64 ((ks.getD k Ty.zero).kind), .str (ks.getD k Ty.zero).name, .int .i64 ((ks.getD k Ty.zero).n), .imm ((ks.getD k Ty.zero).names.map AVal.str), .imm ((ks.getD k Ty.zero).kids.map Ty.enc)]), (38, .bool (hasB m (ks.getD k Ty.zero))), (39, .bool (!(hasB m (ks.getD k Ty.zero))))] [.box [.int .i64 ((lv)), .map 1], .map (encM (AVal.int .i64) Vr.v m), .box [.int .i64 0, .str [], .int .i64 0, .full [], .full []], .map (encM AVal.str Ty.v q), x5.bx] ?_ ?_
 refine qV 2 ?_ ?_
 by_cases hb7 : (w) = true
 refine qm [9, 48, 49] (hb7) ?_ ?_
 refine qR 3 [(0, .ptr 0 0), (2, .imm (ks.map Ty.enc)), (6, .ptr 2 0), (8, .map 3), (9, .bool true), (10, nI k), (11, .str (ns.getD k [])), (22, .imm (ns.map AVal.str)), (23, nI ns.length), (24, nI k), (33, .ptr 0 0), (34, .imm (ks.map Ty.enc)), (35, nI k), (36, .pimm [.int .i64 ((ks.getD k Ty.zero).kind), .str (ks.getD k Ty.zero).name, .int .i64 ((ks.getD k Ty.zero).n), .imm ((ks.getD k Ty.zero).names.map AVal.str), .imm ((ks.getD k Ty.zero).kids.map Ty.enc)] 0), (37, .agg [.int .i64 ((ks.getD k Ty.zero).kind), .str (ks.getD k Ty.zero).name, .int .i64 ((ks.getD k Ty.zero).n), .imm ((ks.getD k Ty.zero).names.map AVal.str), .imm ((ks.getD k Ty.zero).kids.map Ty.enc)]), (38, .bool (hasB m (ks.getD k Ty.zero))), (39, .bool (!(hasB m (ks.getD k Ty.zero)))), (50, .tup [])] [.box [.int .i64 ((lv)), .map 1], .map (encM (AVal.int .i64) Vr.v m), .box [.int .i64 0, .str [], .int .i64 0, .full [], .full []], .map (encM AVal.str Ty.v q), x5.bx] ?_ ?_
 refine qo ?_ ?_
 refine qr 4 ?_ ?_
 refine qy ((o_ixmap (k := .i64) (l := ks) (enc := Ty.enc) (i := ((k : Nat) : Int)) Ty.zero (by kernel_rfl) ty23 ty25 ty_size (by first | omega | assumption | exact hks _ | (have := hnl k; omega)) (by first | omega | assumption | exact hks _ | (have := hnl k; omega))).trans (congrArg (fun cs => some (AVal.pimm cs 0, _)) (ty_cells (ks.getD k Ty.zero)))) ?_ ?_ ?_
 refine qr 1 ?_ ?_
 refine vcallP (args := [.agg [.int .i64 ((ks.getD k Ty.zero).kind), .str (ks.getD k Ty.zero).name, .int .i64 ((ks.getD k Ty.zero).n), .imm ((ks.getD k Ty.zero).names.map AVal.str), .imm ((ks.getD k Ty.zero).kids.map Ty.enc)]]) (by kernel_rfl) (by kernel_rfl) (by kernel_rfl) (by kernel_rfl) (clone_spec (ks.getD k Ty.zero) (by first | omega | assumption | exact hks _ | (have := hnl k; omega))) (by simp [Ty.v, frzL_app, Occ.v]) (by simp [Ty.v]) (by simp [Ty.v, ownsL_app]) ?_
 refine qY (o_mset (o := 3) (ek := AVal.str) (ev := Ty.v) (l := q) (k := (ns.getD k [])) (x := (ks.getD k Ty.zero)) keyS (by kernel_rfl) ty106 ty9 rfl (by kernel_rfl) (by kernel_rfl)) ?_ ?_ ?_
 refine qe ?_ ?_
 refine AIn_normal ?_
 refine AThen_normal ?_
 refine qZ [(0, .ptr 0 0), (2, .imm (ks.map Ty.enc)), (6, .ptr 2 0), (8, .map 3), (9, .bool true), (22, .imm (ns.map AVal.str)), (23, nI ns.length), (24, nI k), (33, .ptr 0 0), (34, .imm (ks.map Ty.enc)), (35, nI k), (36, .pimm [.int .i64 ((ks.getD k Ty.zero).kind), .str (ks.getD k Ty.zero).name, .int .i64 ((ks.getD k Ty.zero).n), .imm ((ks.getD k Ty.zero).names.map AVal.str), .imm ((ks.getD k Ty.zero).kids.map Ty.enc)] 0), (37, .agg [.int .i64 ((ks.getD k Ty.zero).kind), .str (ks.getD k Ty.zero).name, .int .i64 ((ks.getD k Ty.zero).n), .imm ((ks.getD k Ty.zero).names.map AVal.str), .imm ((ks.getD k Ty.zero).kids.map Ty.enc)]), (38, .bool (hasB m (ks.getD k Ty.zero))), (39, .bool (!(hasB m (ks.getD k Ty.zero)))), (50, .tup [])] [.box [.int .i64 ((lv)), .map 1], .map (encM (AVal.int .i64) Vr.v m), .box [.int .i64 0, .str [], .int .i64 0, .full [], .full []], .map (encM AVal.str Ty.v (mset (ns.getD k []) (ks.getD k Ty.zero) q)), x5.bx] ?_ ?_
 refine qo ?_ ?_
 refine qy (o_add (a := ((k : Nat) : Int)) (b := 1) (by kernel_rfl) (by first | omega | assumption | exact hks _ | (have := hnl k; omega)) (by first | omega | assumption | exact hks _ | (have := hnl k; omega))) ?_ ?_ ?_
 refine qr 1 ?_ ?_
 refine qe ?_ ?_
 refine AThen_normal ⟨(k + 1, mset (ns.getD k []) (ks.getD k Ty.zero) q, true), ?_, ?_, ⟨⟨(by kernel_rfl), (by kernel_rfl), (by kernel_rfl), (by kernel_rfl), (by kernel_rfl), (by kernel_rfl), (by kernel_rfl), (by kernel_rfl), trivial⟩, by simp [BelL, AVal.bel], by simp, (by kernel_rfl), by simp [AObj.belO]⟩⟩
 · try dsimp only
   omega
 rotate_left
 iterate 16 kernel_rfl
 refine qm [9, 48, 49] (Bool.eq_false_iff.2 hb7) ?_ ?_
 refine qR 3 [(0, .ptr 0 0), (2, .imm (ks.map Ty.enc)), (6, .ptr 2 0), (8, .map 3), (9, .bool true), (10, nI k), (11, .str (ns.getD k [])), (22, .imm (ns.map AVal.str)), (23, nI ns.length), (24, nI k), (33, .ptr 0 0), (34, .imm (ks.map Ty.enc)), (35, nI k), (36, .pimm [.int .i64 ((ks.getD k Ty.zero).kind), .str (ks.getD k Ty.zero).name, .int .i64 ((ks.getD k Ty.zero).n), .imm ((ks.getD k Ty.zero).names.map AVal.str), .imm ((ks.getD k Ty.zero).kids.map Ty.enc)] 0), (37, .agg [.int .i64 ((ks.getD k Ty.zero).kind), .str (ks.getD k Ty.zero).name, .int .i64 ((ks.getD k Ty.zero).n), .imm ((ks.getD k Ty.zero).names.map AVal.str), .imm ((ks.getD k Ty.zero).kids.map Ty.enc)]), (38, .bool (hasB m (ks.getD k Ty.zero))), (39, .bool (!(hasB m (ks.getD k Ty.zero)))), (50, .bool true)] [.box [.int .i64 ((lv)), .map 1], .map (encM (AVal.int .i64) Vr.v m), .box [.int .i64 0, .str [], .int .i64 0, .full [], .full []], .map (encM AVal.str Ty.v q), x5.bx] ?_ ?_
 refine qo ?_ ?_
 refine qr 4 ?_ ?_
 refine qy ((o_ixmap (k := .i64) (l := ks) (enc := Ty.enc) (i := ((k : Nat) : Int)) Ty.zero (by kernel_rfl) ty23 ty25 ty_size (by first | omega | assumption | exact hks _ | (have := hnl k; omega)) (by first | omega | assumption | exact hks _ | (have := hnl k; omega))).trans (congrArg (fun cs => some (AVal.pimm cs 0, _)) (ty_cells (ks.getD k Ty.zero)))) ?_ ?_ ?_
 refine qr 1 ?_ ?_
 refine vcallP (args := [.agg [.int .i64 ((ks.getD k Ty.zero).kind), .str (ks.getD k Ty.zero).name, .int .i64 ((ks.getD k Ty.zero).n), .imm ((ks.getD k Ty.zero).names.map AVal.str), .imm ((ks.getD k Ty.zero).kids.map Ty.enc)]]) (by kernel_rfl) (by kernel_rfl) (by kernel_rfl) (by kernel_rfl) (clone_spec (ks.getD k Ty.zero) (by first | omega | assumption | exact hks _ | (have := hnl k; omega))) (by simp [Ty.v, frzL_app, Occ.v]) (by simp [Ty.v]) (by simp [Ty.v, ownsL_app]) ?_
 refine qY (o_mset (o := 3) (ek := AVal.str) (ev := Ty.v) (l := q) (k := (ns.getD k [])) (x := (ks.getD k Ty.zero)) keyS (by kernel_rfl) ty106 ty9 rfl (by kernel_rfl) (by kernel_rfl)) ?_ ?_ ?_
 refine qe ?_ ?_
 refine AIn_normal ?_
 refine AThen_normal ?_
 refine qZ [(0, .ptr 0 0), (2, .imm (ks.map Ty.enc)), (6, .ptr 2 0), (8, .map 3), (9, .bool true), (22, .imm (ns.map AVal.str)), (23, nI ns.length), (24, nI k), (33, .ptr 0 0), (34, .imm (ks.map Ty.enc)), (35, nI k), (36, .pimm [.int .i64 ((ks.getD k Ty.zero).kind), .str (ks.getD k Ty.zero).name, .int .i64 ((ks.getD k Ty.zero).n), .imm ((ks.getD k Ty.zero).names.map AVal.str), .imm ((ks.getD k Ty.zero).kids.map Ty.enc)] 0), (37, .agg [.int .i64 ((ks.getD k Ty.zero).kind), .str (ks.getD k Ty.zero).name, .int .i64 ((ks.getD k Ty.zero).n), .imm ((ks.getD k Ty.zero).names.map AVal.str), .imm ((ks.getD k Ty.zero).kids.map Ty.enc)]), (38, .bool (hasB m (ks.getD k Ty.zero))), (39, .bool (!(hasB m (ks.getD k Ty.zero)))), (50, .bool true)] [.box [.int .i64 ((lv)), .map 1], .map (encM (AVal.int .i64) Vr.v m), .box [.int .i64 0, .str [], .int .i64 0, .full [], .full []], .map (encM AVal.str Ty.v (mset (ns.getD k []) (ks.getD k Ty.zero) q)), x5.bx] ?_ ?_
 refine qo ?_ ?_
 refine qy (o_add (a := ((k : Nat) : Int)) (b := 1) (by kernel_rfl) (by first | omega | assumption | exact hks _ | (have := hnl k; omega)) (by first | omega | assumption | exact hks _ | (have := hnl k; omega))) ?_ ?_ ?_
 refine qr 1 ?_ ?_
 refine qe ?_ ?_
 refine AThen_normal ⟨(k + 1, mset (ns.getD k []) (ks.getD k Ty.zero) q, true), ?_, ?_, ⟨⟨(by kernel_rfl), (by kernel_rfl), (by kernel_rfl), (by kernel_rfl), (by kernel_rfl), (by kernel_rfl), (by kernel_rfl), (by kernel_rfl), trivial⟩, by simp [BelL, AVal.bel], by simp, (by kernel_rfl), by simp [AObj.belO]⟩⟩
 · try dsimp only
   omega
 rotate_left
 iterate 24 kernel_rfl
 refine qt (x := (!(hasB m (ks.getD k Ty.zero)))) (congrArg not (Bool.eq_false_iff.2 hb4)) ?_ ?_
 refine qU 3 [(6, .ptr 2 0), (7, .int .i64 1)] ?_ ?_
 refine wRet (by kernel_rfl) ?_
 apply aR
 apply iR
 apply aR
 apply aR
 apply iR
 apply aR
 refine leafA (l := [.agg [.int .i64 0, .str [], .int .i64 0, .full [], .full []], .int .i64 1]) (.inr rfl) (by kernel_rfl) (by first | (rw [recE_len (by assumption)]; simp [awrap, AVal.frz, frzL]; done) | (rw [recE_low k (by omega) (by assumption)]; simp [awrap, AVal.frz, frzL]; done) | (rw [recE_has k (by omega) (by assumption)]; simp [awrap, AVal.frz, frzL]; done) | (rw [recE_dup (by assumption) (by omega) hk ha hw (by assumption)]; simp [awrap, AVal.frz, frzL]; done)) (by simp [awrap]) (by simp [awrap]) ?_ ?_
 refine Eq.trans (b := [.box [.int .i64 ((lv)), .map 1], .map (encM (AVal.int .i64) Vr.v m)]) (by kernel_rfl) ?_
 · rfl
 · simp [AObj.belO, Ty.v]
 iterate 8 kernel_rfl
 refine qm [31, 32] (x := (!(fitsW 2 (ns.getD k [])))) (congrArg not (Bool.eq_false_iff.2 hb3)) ?_ ?_
 refine qR 8 [(0, .ptr 0 0), (2, .imm (ks.map Ty.enc)), (6, .ptr 2 0), (8, .map 3), (9, .bool (w)), (10, nI k), (11, .str (ns.getD k [])), (22, .imm (ns.map AVal.str)), (23, nI ns.length), (24, nI k), (33, .tup []), (34, .tup []), (35, .tup []), (36, .tup []), (37, .tup []), (38, .tup []), (39, .tup []), (40, .bool true)] [.box [.int .i64 (lv), .map 1], .map (encM (AVal.int .i64) Vr.v m), .box [.int .i64 0, .str [], .int .i64 0, .full [], .full []], .map (encM AVal.str Ty.v q)] ?_ ?_
 refine wIfT (by kernel_rfl) (by kernel_rfl) ?_
 refine qU 3 [(6, .ptr 2 0), (7, .int .i64 1)] ?_ ?_
 refine wRet (by kernel_rfl) ?_
 apply aR
 apply iR
 apply aR
 apply aR
 apply iR
 apply aR
 refine leafA (l := [.agg [.int .i64 0, .str [], .int .i64 0, .full [], .full []], .int .i64 1]) (.inr rfl) (by kernel_rfl) (by first | (rw [recE_len (by assumption)]; simp [awrap, AVal.frz, frzL]; done) | (rw [recE_low k (by omega) (by assumption)]; simp [awrap, AVal.frz, frzL]; done) | (rw [recE_has k (by omega) (by assumption)]; simp [awrap, AVal.frz, frzL]; done) | (rw [recE_dup (by assumption) (by omega) hk ha hw (by assumption)]; simp [awrap, AVal.frz, frzL]; done)) (by simp [awrap]) (by simp [awrap]) ?_ ?_
 refine Eq.trans (b := [.box [.int .i64 (lv), .map 1], .map (encM (AVal.int .i64) Vr.v m)]) (by kernel_rfl) ?_
 · rfl
 · simp [AObj.belO, Ty.v]
 iterate 17 kernel_rfl
 refine qf (decide_eq_false hb2) ?_ ?_
 refine wExit 0 (by kernel_rfl) (by kernel_rfl) ?_
 refine AThen_exit ?_
 refine AThen_exit ?_
 refine AIn_exit ?_
 refine AThen_normal ?_
 refine qz [(0, .ptr 0 0), (6, .ptr 2 0), (8, .map 3), (9, .bool (w))] ?_ ?_
 refine qSeq ?_ ?_
 refine qU 1 [(0, .ptr 0 0), (6, .ptr 2 0), (8, .map 3), (60, .bool (w))] ?_ ?_
 by_cases hb8 : (w) = true
 refine qt (hb8) ?_ ?_
 refine qU 3 [(6, .ptr 2 0), (7, .int .i64 8)] ?_ ?_
 refine wRet (by kernel_rfl) ?_
 apply aR
 refine leafA (l := [.agg [.int .i64 0, .str [], .int .i64 0, .full [], .full []], .int .i64 8]) (.inr rfl) (by kernel_rfl) (by first | (rw [recE_len (by assumption)]; simp [awrap, AVal.frz, frzL]; done) | (rw [recE_low k (by omega) (by assumption)]; simp [awrap, AVal.frz, frzL]; done) | (rw [recE_has k (by omega) (by assumption)]; simp [awrap, AVal.frz, frzL]; done) | (rw [recE_dup (by assumption) (by omega) hk ha hw (by assumption)]; simp [awrap, AVal.frz, frzL]; done)) (by simp [awrap]) (by simp [awrap]) ?_ ?_
 refine Eq.trans (b := [.box [.int .i64 (lv), .map 1], .map (encM (AVal.int .i64) Vr.v m)]) (by kernel_rfl) ?_
 · rfl
 · simp [AObj.belO, Ty.v]
 iterate 2 kernel_rfl
 · exfalso; exact hne (recE_zero (by assumption) (by omega) hk ha hw (by assumption))
 iterate 19 kernel_rfl
 refine qt (x := (((ns.length : Nat) : Int) != ((ks.length : Nat) : Int))) (bne_iff_ne.2 hb1) ?_ ?_
 refine qU 3 [(6, .ptr 2 0), (7, .int .i64 1)] ?_ ?_
 refine wRet (by kernel_rfl) ?_
 apply aR
 refine leafA (l := [.agg [.int .i64 0, .str [], .int .i64 0, .full [], .full []], .int .i64 1]) (.inr rfl) (by kernel_rfl) (by first | (rw [recE_len (by assumption)]; simp [awrap, AVal.frz, frzL]; done) | (rw [recE_low k (by omega) (by assumption)]; simp [awrap, AVal.frz, frzL]; done) | (rw [recE_has k (by omega) (by assumption)]; simp [awrap, AVal.frz, frzL]; done) | (rw [recE_dup (by assumption) (by omega) hk ha hw (by assumption)]; simp [awrap, AVal.frz, frzL]; done)) (by simp [awrap]) (by simp [awrap]) ?_ ?_
 refine Eq.trans (b := [.box [.int .i64 (lv), .map 1], .map (encM (AVal.int .i64) Vr.v m)]) (by kernel_rfl) ?_
 · rfl
 · simp [AObj.belO, Ty.v]
 iterate 12 kernel_rfl
 all_goals
  try dsimp only
  refine ⟨by omega, bad_step ha (by assumption) (by assumption), ?_, fk_step (by omega) hq⟩
  first | exact dup_t hw (by assumption) | exact dup_n hw (by assumption) hq (by assumption) | exact dup_s hw (by assumption) hq (by assumption)
end Go.Proofs.YtdikgijfekfaoaaGreatDoor
