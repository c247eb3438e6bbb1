/- Equal of types in both packages. No condition. -/
import Derived.Test.YtindpcpdkikdmaaGreatDoorC1
set_option linter.all false
namespace Go.Proofs.YtindpcpdkikdmaaGreatDoor
open Go.Proofs.YtindpcpdkikdmaaGreatDoor.Abs
set_option maxRecDepth 20000
set_option maxHeartbeats 4000000
theorem strs_true {a b : List (List UInt8)} (hl : a.length = b.length) (h : ∀ i, i < a.length → a.getD i [] = b.getD i []) : true = (a == b) := by
  rw [← zipAll_eq, zipAll_true (· == ·) [] [] a b hl (fun i hi => by simpa using h i hi)]
theorem strs_at {a b : List (List UInt8)} {i : Nat} (hl : a.length = b.length) (hi : i < a.length) (h : ¬ a.getD i [] = b.getD i []) : false = (a == b) := by
  rw [← zipAll_eq, zipAll_at (· == ·) [] [] a b i hl hi (by simpa using h)]
theorem strs_len {a b : List (List UInt8)} (hl : ¬ ((a.length : Nat) : Int) = ((b.length : Nat) : Int)) : false = (a == b) := by
  rw [← zipAll_eq, zipAll_len _ a b (by omega)]
noncomputable def c40 : Code := bodyOf Tryz.f40
theorem sameTexts_spec (a b : List (List UInt8)) (hn : a.length < 1000000000) : CallsP cx 40 [.imm (a.map AVal.str), .imm (b.map AVal.str)] (.bool (a == b)) := by
 refine func_intro (cx := cx) 26 0 [(ResultVar.tmp 4)] Tryz.func40 rfl rfl rfl rfl rfl (by simp) ?_
 show wpA cx 26 0 (at_ c40 []) _ _ _
 refine qZ [(0, .imm (a.map AVal.str)), (1, .imm (b.map AVal.str))] [] ?_ ?_
 refine qU 1 [(0, .imm (a.map AVal.str)), (1, .imm (b.map AVal.str))] ?_ ?_
 refine qSeq ?_ ?_
 refine qV 1 ?_ ?_
 refine qy (o_lenmap (l := a) (enc := AVal.str) (by kernel_rfl) ty34) ?_ ?_ ?_
 refine qr 1 ?_ ?_
 refine qy (o_lenmap (l := b) (enc := AVal.str) (by kernel_rfl) ty34) ?_ ?_ ?_
 refine qR 1 [(0, .imm (a.map AVal.str)), (1, .imm (b.map AVal.str)), (10, .bool (((a.length : Nat) : Int) != ((b.length : Nat) : Int)))] [] ?_ ?_
 by_cases hb1 : ((a.length : Nat) : Int) = ((b.length : Nat) : Int)
 refine qf (x := (((a.length : Nat) : Int) != ((b.length : Nat) : Int))) (bne_eq_false_iff_eq.2 hb1) ?_ ?_
 refine qK ?_ ?_
 refine qz [(0, .imm (a.map AVal.str)), (1, .imm (b.map AVal.str))] ?_ ?_
 refine qSeq ?_ ?_
 refine qU 1 [(0, .imm (a.map AVal.str)), (1, .imm (b.map AVal.str)), (5, .int .i64 0)] ?_ ?_
 refine qB 0 ?_ ?_ ?_
 refine wLoop (σ := Nat) (fun k => [(0, .imm (a.map AVal.str)), (1, .imm (b.map AVal.str)), (5, .int .i64 ((k : Nat) : Int))]) (fun k => []) (fun k => k ≤ a.length ∧ ∀ i, i < k → a.getD i [] = b.getD i []) (fun k => a.length - k) 0 (by kernel_rfl) (by simp) ⟨⟨(by kernel_rfl), (by kernel_rfl), (by kernel_rfl), trivial⟩, by simp [BelL, AVal.bel], by simp, (by kernel_rfl), by simp⟩ ?_
 rintro k ⟨hk, ha⟩
 refine qSeq ?_ ?_
 refine qV 2 ?_ ?_
 refine qy (o_lenmap (l := a) (enc := AVal.str) (by kernel_rfl) ty34) ?_ ?_ ?_
 refine qR 1 [(0, .imm (a.map AVal.str)), (1, .imm (b.map AVal.str)), (5, nI k), (14, .bool (decide (((k : Nat) : Int) < ((a.length : Nat) : Int))))] [] ?_ ?_
 by_cases hb2 : ((k : Nat) : Int) < ((a.length : Nat) : Int)
 refine qt (decide_eq_true hb2) ?_ ?_
 refine qK ?_ ?_
 refine qz [(0, .imm (a.map AVal.str)), (1, .imm (b.map AVal.str)), (5, nI k)] ?_ ?_
 refine qSeq ?_ ?_
 refine qB 1 ?_ ?_ ?_
 refine qSeq ?_ ?_
 refine wDrw cxM (by kernel_rfl) extThen (dstart ?_)
 refine qu 2 ?_ ?_
 refine qd (o_ixmap (k := .i64) (l := a) (enc := AVal.str) (i := ((k : Nat) : Int)) [] (by kernel_rfl) ty34 ty9 (fun _ => rfl) (by omega) (by omega)) ?_ ?_ ?_ ?_
 refine qu 3 ?_ ?_
 refine qd (o_ixmap (k := .i64) (l := b) (enc := AVal.str) (i := ((k : Nat) : Int)) [] (by kernel_rfl) ty34 ty9 (fun _ => rfl) (by omega) (by omega)) ?_ ?_ ?_ ?_
 refine qu 2 ?_ ?_
 refine dend (by kernel_rfl) ⟨(by kernel_rfl), ?_⟩
 refine AThen_normal ?_
 refine qZ [(0, .imm (a.map AVal.str)), (1, .imm (b.map AVal.str)), (5, nI k), (25, .bool (!((a.getD k []) == (b.getD k []))))] [] ?_ ?_
 by_cases hb3 : (a.getD k []) = (b.getD k [])
 refine qf (x := (!((a.getD k []) == (b.getD k [])))) (congrArg not (beq_iff_eq.2 hb3)) ?_ ?_
 refine qk ?_ ?_
 refine AIn_normal ?_
 refine AThen_normal ?_
 refine qz [(0, .imm (a.map AVal.str)), (1, .imm (b.map AVal.str)), (5, nI k)] ?_ ?_
 refine qo ?_ ?_
 refine qr 1 ?_ ?_
 refine qy (o_add (a := ((k : Nat) : Int)) (b := 1) (by kernel_rfl) (by omega) (by omega)) ?_ ?_ ?_
 refine qr 1 ?_ ?_
 refine qe ?_ ?_
 refine AThen_normal ⟨k + 1, ?_, ?_, ⟨⟨(by kernel_rfl), (by kernel_rfl), (by kernel_rfl), trivial⟩, by simp [BelL, AVal.bel], by simp, (by kernel_rfl), by simp⟩⟩
 · omega
 · refine ⟨by omega, fun i hi => ?_⟩
   rcases Nat.lt_succ_iff_lt_or_eq.1 hi with h | h
   · exact ha i h
   · subst h; assumption
 iterate 9 kernel_rfl
 refine qt (x := (!((a.getD k []) == (b.getD k [])))) (congrArg not (beq_eq_false_iff_ne.2 hb3)) ?_ ?_
 refine qV 1 ?_ ?_
 refine qT ?_ ?_
 apply iR
 apply aR
 apply aR
 apply iR
 apply aR
 refine leafB (b := false) (.inr rfl) (by kernel_rfl) ?_
 rotate_left
 iterate 20 kernel_rfl
 refine qf (decide_eq_false hb2) ?_ ?_
 refine wExit 0 (by kernel_rfl) (by kernel_rfl) ?_
 refine AThen_exit ?_
 refine AThen_exit ?_
 refine AIn_exit ?_
 refine AThen_normal ?_
 refine qz [] ?_ ?_
 refine qV 1 ?_ ?_
 refine qT ?_ ?_
 refine leafB (b := true) (.inr rfl) (by kernel_rfl) ?_
 rotate_left
 iterate 16 kernel_rfl
 refine qt (x := (((a.length : Nat) : Int) != ((b.length : Nat) : Int))) (bne_iff_ne.2 hb1) ?_ ?_
 refine qV 1 ?_ ?_
 refine qT ?_ ?_
 apply aR
 refine leafB (b := false) (.inr rfl) (by kernel_rfl) ?_
 rotate_left
 iterate 13 kernel_rfl
 all_goals
  first | exact strs_len (by assumption) | exact strs_true (by omega) (fun i hi => ha i (by omega)) | exact strs_at (i := k) (by omega) (by omega) (by assumption)
theorem beq_lit {a b : Ty} {v : Bool} (h : v = ((a.kind == b.kind) && ((a.name == b.name) && ((a.n == b.n) && ((a.names == b.names) && zipAll Ty.beq a.kids b.kids))))) : v = a.beq b := by rw [beq_eq]; exact h
noncomputable def c18 : Code := bodyOf Tryz.f18
theorem rEqual_spec (a b : Ty) (hs : a.sz < 100000000) : CallsP cx 18 [Ty.v a, Ty.v b] (.bool (a.beq b)) := by
 induction hN : a.sz using Nat.strongRecOn generalizing a b with | _ N ih =>
 have hc : ∀ i, i < a.kids.length → i < b.kids.length → CallsP cx 18 [(a.kids.getD i Ty.zero).v, (b.kids.getD i Ty.zero).v] (.bool ((a.kids.getD i Ty.zero).beq (b.kids.getD i Ty.zero))) := fun i h1 _ => ih _ (by rw [← hN]; exact sz_kid a i h1) _ _ (Nat.lt_trans (sz_kid a i h1) hs) rfl
 have hz1 := sz_names a
 have hz2 := sz_kids a
 refine func_intro (cx := cx) 65 0 [(ResultVar.tmp 4)] Tryz.func18 rfl rfl rfl rfl rfl (by simp) ?_
 show wpA cx 65 0 (at_ c18 []) _ _ _
 refine qZ [(0, Ty.v a), (1, Ty.v b)] [] ?_ ?_
 refine qW 3 [(2, .ptr 0 0), (3, .ptr 1 0)] [a.bx, b.bx] ?_ ?_
 refine qV 4 ?_ ?_
 refine vcallP (args := [.imm (a.names.map AVal.str), .imm (b.names.map AVal.str)]) (by kernel_rfl) (by kernel_rfl) (by kernel_rfl) (by kernel_rfl) (sameTexts_spec a.names b.names (by omega)) (by simp [Ty.v]) (by simp [Ty.v]) (by simp [Ty.v]) ?_
 refine qR 1 [(2, .ptr 0 0), (3, .ptr 1 0), (5, .bool (a.names == b.names))] [a.bx, b.bx] ?_ ?_
 refine qSeq ?_ ?_
 refine qV 3 ?_ ?_
 by_cases hb1 : (a.names == b.names) = true
 refine qm [14, 15] (x := (!(a.names == b.names))) (congrArg not (hb1)) ?_ ?_
 refine qr 7 ?_ ?_
 by_cases hb2 : (a.kind) = (b.kind)
 refine qm [20, 21, 22] (x := ((a.kind) != (b.kind))) (bne_eq_false_iff_eq.2 hb2) ?_ ?_
 refine qr 7 ?_ ?_
 by_cases hb3 : a.name = b.name
 refine qm [27, 28, 29] (x := (!(a.name == b.name))) (congrArg not (beq_iff_eq.2 hb3)) ?_ ?_
 refine qr 7 ?_ ?_
 by_cases hb4 : (a.n) = (b.n)
 refine qm [34, 35, 36] (x := ((a.n) != (b.n))) (bne_eq_false_iff_eq.2 hb4) ?_ ?_
 refine qr 2 ?_ ?_
 refine qy (o_lenmap (l := a.kids) (enc := Ty.enc) (by kernel_rfl) ty52) ?_ ?_ ?_
 refine qr 2 ?_ ?_
 refine qy (o_lenmap (l := b.kids) (enc := Ty.enc) (by kernel_rfl) ty52) ?_ ?_ ?_
 refine qR 2 [(2, .ptr 0 0), (3, .ptr 1 0), (44, .bool (((a.kids.length : Nat) : Int) != ((b.kids.length : Nat) : Int)))] [a.bx, b.bx] ?_ ?_
 by_cases hb5 : ((a.kids.length : Nat) : Int) = ((b.kids.length : Nat) : Int)
 refine qf (x := (((a.kids.length : Nat) : Int) != ((b.kids.length : Nat) : Int))) (bne_eq_false_iff_eq.2 hb5) ?_ ?_
 refine qK ?_ ?_
 refine qz [(2, .ptr 0 0), (3, .ptr 1 0)] ?_ ?_
 refine qSeq ?_ ?_
 refine qU 1 [(2, .ptr 0 0), (3, .ptr 1 0), (6, .int .i64 0)] ?_ ?_
 refine qB 0 ?_ ?_ ?_
 refine wLoop (σ := Nat) (fun k => [(2, .ptr 0 0), (3, .ptr 1 0), (6, .int .i64 ((k : Nat) : Int))]) (fun k => [.box [.int .i64 (a.kind), .str a.name, .int .i64 (a.n), .imm (a.names.map AVal.str), .imm (a.kids.map Ty.enc)], .box [.int .i64 (b.kind), .str b.name, .int .i64 (b.n), .imm (b.names.map AVal.str), .imm (b.kids.map Ty.enc)]]) (fun k => k ≤ a.kids.length ∧ ∀ i, i < k → (a.kids.getD i Ty.zero).beq (b.kids.getD i Ty.zero) = true) (fun k => a.kids.length - k) 0 (by kernel_rfl) (by simp) ⟨⟨(by kernel_rfl), (by kernel_rfl), (by kernel_rfl), trivial⟩, by simp [BelL, AVal.bel], by simp, (by kernel_rfl), by simp [AObj.belO]⟩ ?_
 rintro k ⟨hk, ha⟩
 refine qSeq ?_ ?_
 refine qV 3 ?_ ?_
 refine qy (o_lenmap (l := a.kids) (enc := Ty.enc) (by kernel_rfl) ty52) ?_ ?_ ?_
 refine qR 1 [(2, .ptr 0 0), (3, .ptr 1 0), (6, nI k), (49, .bool (decide (((k : Nat) : Int) < ((a.kids.length : Nat) : Int))))] [a.bx, b.bx] ?_ ?_
 by_cases hb6 : ((k : Nat) : Int) < ((a.kids.length : Nat) : Int)
 refine qt (decide_eq_true hb6) ?_ ?_
 refine qK ?_ ?_
 refine qz [(2, .ptr 0 0), (3, .ptr 1 0), (6, nI k)] ?_ ?_
 refine qSeq ?_ ?_
 refine qB 1 ?_ ?_ ?_
 refine qSeq ?_ ?_
 refine wDrw cxM (by kernel_rfl) extThen (dstart ?_)
 refine qu 3 ?_ ?_
 refine qd ((o_ixmap (k := .i64) (l := a.kids) (enc := Ty.enc) (i := ((k : Nat) : Int)) Ty.zero (by kernel_rfl) ty52 ty54 ty_size (by omega) (by omega)).trans (congrArg (fun cs => some (AVal.pimm cs 0, _)) (ty_cells (a.kids.getD k Ty.zero)))) ?_ ?_ ?_ ?_
 refine qu 4 ?_ ?_
 refine qd ((o_ixmap (k := .i64) (l := b.kids) (enc := Ty.enc) (i := ((k : Nat) : Int)) Ty.zero (by kernel_rfl) ty52 ty54 ty_size (by omega) (by omega)).trans (congrArg (fun cs => some (AVal.pimm cs 0, _)) (ty_cells (b.kids.getD k Ty.zero)))) ?_ ?_ ?_ ?_
 refine qu 1 ?_ ?_
 refine dcallP (args := [.agg [.int .i64 ((a.kids.getD k Ty.zero).kind), .str (a.kids.getD k Ty.zero).name, .int .i64 ((a.kids.getD k Ty.zero).n), .imm ((a.kids.getD k Ty.zero).names.map AVal.str), .imm ((a.kids.getD k Ty.zero).kids.map Ty.enc)], .agg [.int .i64 ((b.kids.getD k Ty.zero).kind), .str (b.kids.getD k Ty.zero).name, .int .i64 ((b.kids.getD k Ty.zero).n), .imm ((b.kids.getD k Ty.zero).names.map AVal.str), .imm ((b.kids.getD k Ty.zero).kids.map Ty.enc)]]) (by kernel_rfl) (by kernel_rfl) (by kernel_rfl) (by kernel_rfl) (by kernel_rfl) (hc k (by omega) (by omega)) (by intro _; simp [Ty.v]) (by simp [Ty.v]) (by simp [Ty.v]) ?_
 refine qu 1 ?_ ?_
 refine dend (by kernel_rfl) ⟨(by kernel_rfl), ?_⟩
 refine AThen_normal ?_
 refine qZ [(2, .ptr 0 0), (3, .ptr 1 0), (6, nI k), (7, .bool ((a.kids.getD k Ty.zero).beq (b.kids.getD k Ty.zero)))] [a.bx, b.bx] ?_ ?_
 refine qU 2 [(2, .ptr 0 0), (3, .ptr 1 0), (6, nI k), (64, .bool (!((a.kids.getD k Ty.zero).beq (b.kids.getD k Ty.zero))))] ?_ ?_
 by_cases hb7 : ((a.kids.getD k Ty.zero).beq (b.kids.getD k Ty.zero)) = true
 refine qf (x := (!((a.kids.getD k Ty.zero).beq (b.kids.getD k Ty.zero)))) (congrArg not (hb7)) ?_ ?_
 refine qk ?_ ?_
 refine AIn_normal ?_
 refine AThen_normal ?_
 refine qz [(2, .ptr 0 0), (3, .ptr 1 0), (6, nI k)] ?_ ?_
 refine qo ?_ ?_
 refine qr 1 ?_ ?_
 refine qy (o_add (a := ((k : Nat) : Int)) (b := 1) (by kernel_rfl) (by omega) (by omega)) ?_ ?_ ?_
 refine qr 1 ?_ ?_
 refine qe ?_ ?_
 refine AThen_normal ⟨k + 1, ?_, ?_, ⟨⟨(by kernel_rfl), (by kernel_rfl), (by kernel_rfl), trivial⟩, by simp [BelL, AVal.bel], by simp, (by kernel_rfl), by simp [AObj.belO]⟩⟩
 · omega
 · refine ⟨by omega, fun i hi => ?_⟩
   rcases Nat.lt_succ_iff_lt_or_eq.1 hi with h | h
   · exact ha i h
   · subst h; assumption
 iterate 9 kernel_rfl
 refine qt (x := (!((a.kids.getD k Ty.zero).beq (b.kids.getD k Ty.zero)))) (congrArg not (Bool.eq_false_iff.2 hb7)) ?_ ?_
 refine qV 1 ?_ ?_
 refine qT ?_ ?_
 apply iR
 apply aR
 apply aR
 apply iR
 apply aR
 refine leafB (b := false) (.inr rfl) (by kernel_rfl) ?_
 rotate_left
 iterate 22 kernel_rfl
 refine qf (decide_eq_false hb6) ?_ ?_
 refine wExit 0 (by kernel_rfl) (by kernel_rfl) ?_
 refine AThen_exit ?_
 refine AThen_exit ?_
 refine AIn_exit ?_
 refine AThen_normal ?_
 refine qz [] ?_ ?_
 refine qV 1 ?_ ?_
 refine qT ?_ ?_
 refine leafB (b := true) (.inr rfl) (by kernel_rfl) ?_
 rotate_left
 iterate 16 kernel_rfl
 refine qt (x := (((a.kids.length : Nat) : Int) != ((b.kids.length : Nat) : Int))) (bne_iff_ne.2 hb5) ?_ ?_
 refine qV 1 ?_ ?_
 refine qT ?_ ?_
 apply aR
 refine leafB (b := false) (.inr rfl) (by kernel_rfl) ?_
 rotate_left
 iterate 11 kernel_rfl
 refine qm [34, 35, 36] (x := ((a.n) != (b.n))) (bne_iff_ne.2 hb4) ?_ ?_
 refine qR 8 [(2, .ptr 0 0), (3, .ptr 1 0), (44, .bool true)] [a.bx, b.bx] ?_ ?_
 refine wIfT (by kernel_rfl) (by kernel_rfl) ?_
 refine qV 1 ?_ ?_
 refine qT ?_ ?_
 apply aR
 refine leafB (b := false) (.inr rfl) (by kernel_rfl) ?_
 rotate_left
 iterate 6 kernel_rfl
 refine qm [27, 28, 29] (x := (!(a.name == b.name))) (congrArg not (beq_eq_false_iff_ne.2 hb3)) ?_ ?_
 refine qR 15 [(2, .ptr 0 0), (3, .ptr 1 0), (44, .bool true)] [a.bx, b.bx] ?_ ?_
 refine wIfT (by kernel_rfl) (by kernel_rfl) ?_
 refine qV 1 ?_ ?_
 refine qT ?_ ?_
 apply aR
 refine leafB (b := false) (.inr rfl) (by kernel_rfl) ?_
 rotate_left
 iterate 6 kernel_rfl
 refine qm [20, 21, 22] (x := ((a.kind) != (b.kind))) (bne_iff_ne.2 hb2) ?_ ?_
 refine qR 22 [(2, .ptr 0 0), (3, .ptr 1 0), (44, .bool true)] [a.bx, b.bx] ?_ ?_
 refine wIfT (by kernel_rfl) (by kernel_rfl) ?_
 refine qV 1 ?_ ?_
 refine qT ?_ ?_
 apply aR
 refine leafB (b := false) (.inr rfl) (by kernel_rfl) ?_
 rotate_left
 iterate 6 kernel_rfl
 refine qm [14, 15] (x := (!(a.names == b.names))) (congrArg not (Bool.eq_false_iff.2 hb1)) ?_ ?_
 refine qR 29 [(2, .ptr 0 0), (3, .ptr 1 0), (44, .bool true)] [a.bx, b.bx] ?_ ?_
 refine wIfT (by kernel_rfl) (by kernel_rfl) ?_
 refine qV 1 ?_ ?_
 refine qT ?_ ?_
 apply aR
 refine leafB (b := false) (.inr rfl) (by kernel_rfl) ?_
 rotate_left
 iterate 10 kernel_rfl
 all_goals
  refine beq_lit ?_
  first | (simp only [zipAll_len Ty.beq a.kids b.kids (by omega), Bool.and_false]; done) | (rw [zipAll_true Ty.beq Ty.zero Ty.zero a.kids b.kids (by omega) (fun i hi => ha i (by omega))]; simp_all; done) | (rw [zipAll_at Ty.beq Ty.zero Ty.zero a.kids b.kids k (by omega) (by omega) (Bool.eq_false_iff.2 (by assumption))]; simp; done) | (simp_all; done)
end Go.Proofs.YtindpcpdkikdmaaGreatDoor
