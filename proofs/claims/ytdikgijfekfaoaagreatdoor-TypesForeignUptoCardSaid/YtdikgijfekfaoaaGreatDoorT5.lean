/- Valid of package types. No condition. -/
import Derived.Test.YtdikgijfekfaoaaGreatDoorT4
import Derived.Test.YtdikgijfekfaoaaGreatDoorAbsc
set_option linter.all false
set_option linter.unusedSimpArgs false
set_option linter.unusedVariables false
namespace Go.Proofs.YtdikgijfekfaoaaGreatDoor
open Go.Proofs.YtdikgijfekfaoaaGreatDoor.Abs
set_option maxRecDepth 20000
set_option maxHeartbeats 4000000
def VSt.init : VSt := ⟨true, [], []⟩
theorem init_sm : VSt.init.sm := fun k l h => by simp [VSt.init, mget] at h
def plAt (s : VSt) (j : Nat) : Bool := (mget (s.rw.getD j ((0 : Int), ([] : List (List UInt8)))).1 s.pl).getD false
/-- What is left to be asked of the rows with the places of the list. -/
def okL (s : VSt) (lf : List Nat) : Bool := s.ok && (List.range s.rw.length).all fun j => lf.contains j || !(plAt s j)
theorem okL_init (s : VSt) : okL s (List.range s.rw.length) = s.ok := by
  have : ((List.range s.rw.length).all fun j => (List.range s.rw.length).contains j || !(plAt s j)) = true := by
    rw [List.all_eq_true]; intro j hj; rw [List.contains_iff_mem.2 hj]; rfl
  rw [okL, this, Bool.and_true]
theorem okL_step (s : VSt) (lf : List Nat) (i : Nat) (hi : i ∈ lf) (hlt : i < s.rw.length) : okL s (lf.filter (fun j => !(Nat.beq j i))) = (okL s lf && !(plAt s i)) := by
  rw [Bool.eq_iff_iff]
  simp only [okL, Bool.and_eq_true, List.all_eq_true, Bool.or_eq_true, List.contains_iff_mem, List.mem_filter, List.mem_range, Bool.not_eq_true']
  constructor
  · rintro ⟨h1, h2⟩
    refine ⟨⟨h1, fun j hj => ?_⟩, ?_⟩
    · rcases h2 j hj with h | h
      · exact .inl h.1
      · exact .inr h
    · rcases h2 i hlt with h | h
      · have := h.2; rw [Nat.beq_refl] at this; cases this
      · exact h
  · rintro ⟨⟨h1, h2⟩, h3⟩
    refine ⟨h1, fun j hj => ?_⟩
    by_cases e : j = i
    · subst e; exact .inr h3
    · rcases h2 j hj with h | h
      · exact .inl ⟨h, nbf e⟩
      · exact .inr h
theorem filter_lt (lf : List Nat) (i : Nat) (hi : i ∈ lf) : (lf.filter (fun j => !(Nat.beq j i))).length < lf.length := by
  rcases Nat.lt_or_ge (lf.filter (fun j => !(Nat.beq j i))).length lf.length with h | h
  · exact h
  · have he : lf.filter (fun j => !(Nat.beq j i)) = lf := List.Sublist.eq_of_length_le List.filter_sublist h
    rw [← he] at hi
    have := (List.mem_filter.1 hi).2
    rw [Nat.beq_refl] at this; cases this
theorem okL_n {s : VSt} {lf : List Nat} {i : Nat} (hi : i ∈ lf) (hlt : i < s.rw.length) (hm : mget (s.rw.getD i ((0 : Int), ([] : List (List UInt8)))).1 s.pl = none) : okL s (lf.filter (fun j => !(Nat.beq j i))) = okL s lf := by
  rw [okL_step s lf i hi hlt, plAt, hm]; simp
theorem okL_s {s : VSt} {lf : List Nat} {i : Nat} {b : Bool} (hi : i ∈ lf) (hlt : i < s.rw.length) (hm : mget (s.rw.getD i ((0 : Int), ([] : List (List UInt8)))).1 s.pl = some b) : okL s (lf.filter (fun j => !(Nat.beq j i))) = (okL s lf && !b) := by
  rw [okL_step s lf i hi hlt, plAt, hm]; simp
theorem okL_f {s : VSt} {lf : List Nat} {i : Nat} (hi : i ∈ lf) (hlt : i < s.rw.length) (h : ¬ okL s lf = true) : okL s (lf.filter (fun j => !(Nat.beq j i))) = false := by
  rw [okL_step s lf i hi hlt, Bool.eq_false_iff.2 h]; rfl
def validB (t : Ty) : Bool := okL (visV VSt.init t) []
noncomputable def c14 : Code := bodyOf Tryz.f14
theorem tvalid_spec (t : Ty) (hs : t.sz < 100000000) : CallsP cx 14 [Ty.v t] (.bool (validB t)) := by
 refine func_intro (cx := cx) 26 0 [(ResultVar.tmp 2)] Tryz.func14 rfl rfl rfl rfl rfl (by simp) ?_
 show wpA cx 26 0 (at_ c14 []) _ _ _
 refine qZ [(0, Ty.v t)] [] ?_ ?_
 refine qW 2 [(1, .ptr 0 0)] [t.bx] ?_ ?_
 refine qW 2 [(1, .ptr 0 0), (3, .ptr 1 0)] [t.bx, .box [.bool true]] ?_ ?_
 refine qW 3 [(1, .ptr 0 0), (3, .ptr 1 0), (4, .ptr 3 0)] [t.bx, .box [.bool true], .map (encM (AVal.int .i64) AVal.bool ([] : List (Int × Bool))), .box [.map 2]] ?_ ?_
 refine qW 3 [(1, .ptr 0 0), (3, .ptr 1 0), (4, .ptr 3 0), (5, .ptr 5 0)] [t.bx, .box [.bool true], .map (encM (AVal.int .i64) AVal.bool ([] : List (Int × Bool))), .box [.map 2], .map (encM (AVal.int .i64) encS ([] : List (Int × List (List UInt8)))), .box [.map 4]] ?_ ?_
 refine qV 2 ?_ ?_
 refine vcallA (args := [.agg [.int .i64 (t.kind), .str t.name, .int .i64 (t.n), .imm (t.names.map AVal.str), .imm (t.kids.map Ty.enc)], .fn (.func 55) [] [.ptr 1 0, .ptr 3 0, .ptr 5 0]]) (hs := [.box [.int .i64 (t.kind), .str t.name, .int .i64 (t.n), .imm (t.names.map AVal.str), .imm (t.kids.map Ty.enc)], .box [.bool true], .map (encM (AVal.int .i64) AVal.bool ([] : List (Int × Bool))), .box [.map 2], .map (encM (AVal.int .i64) encS ([] : List (Int × List (List UInt8)))), .box [.map 4]]) (hs' := [.box [.int .i64 (t.kind), .str t.name, .int .i64 (t.n), .imm (t.names.map AVal.str), .imm (t.kids.map Ty.enc)], .box [.bool ((visV VSt.init t).ok)], .map (encM (AVal.int .i64) AVal.bool (visV VSt.init t).pl), .box [.map 2], .map (encM (AVal.int .i64) encS (visV VSt.init t).rw), .box [.map 4]]) (rest := []) (by kernel_rfl) (by kernel_rfl) (by kernel_rfl) (by kernel_rfl) (by kernel_rfl) (visitV_spec t t VSt.init (by omega) init_sm) (by simp [AObj.belO, hpV, Ty.v]) (by simp [AObj.belO, hpV, Ty.v]) rfl (by simp [AObj.belO, hpV, Ty.v]) (by simp [AObj.belO, hpV, Ty.v]) (by kernel_rfl) ?_
 refine qN [(3, .ptr 1 0), (4, .ptr 3 0), (5, .ptr 5 0)] [t.bx, .box [.bool ((visV VSt.init t).ok)], .map (encM (AVal.int .i64) AVal.bool (visV VSt.init t).pl), .box [.map 2], .map (encM (AVal.int .i64) encS (visV VSt.init t).rw), .box [.map 4]] ?_ ?_
 refine qSeq ?_ ?_
 refine qV 1 ?_ ?_
 refine vrange (ek := (AVal.int .i64)) (ev := encS) (l := (visV VSt.init t).rw) (m := 4) (by kernel_rfl) (by kernel_rfl) (by kernel_rfl) ty72 (by kernel_rfl) ?_
 refine qN [(3, .ptr 1 0), (4, .ptr 3 0), (13, .itr 6)] [t.bx, .box [.bool ((visV VSt.init t).ok)], .map (encM (AVal.int .i64) AVal.bool (visV VSt.init t).pl), .box [.map 2], .map (encM (AVal.int .i64) encS (visV VSt.init t).rw), .box [.map 4], .iter 4 ((List.range (visV VSt.init t).rw.length), none)] ?_ ?_
 refine qB 0 ?_ ?_ ?_
 refine wLoop (σ := (List Nat × Option Nat)) (fun ⟨lf, la⟩ => [(3, .ptr 1 0), (4, .ptr 3 0), (13, .itr 6)]) (fun ⟨lf, la⟩ => [.box [.int .i64 (t.kind), .str t.name, .int .i64 (t.n), .imm (t.names.map AVal.str), .imm (t.kids.map Ty.enc)], .box [.bool (okL (visV VSt.init t) lf)], .map (encM (AVal.int .i64) AVal.bool (visV VSt.init t).pl), .box [.map 2], .map (encM (AVal.int .i64) encS (visV VSt.init t).rw), .box [.map 4], .iter 4 (lf, la)]) (fun ⟨lf, la⟩ => True) (fun ⟨lf, la⟩ => lf.length) (List.range (visV VSt.init t).rw.length, none) (by kernel_rfl) (by trivial) ⟨⟨(by kernel_rfl), (by kernel_rfl), (by kernel_rfl), trivial⟩, by simp [BelL, AVal.bel], by simp, (Eq.trans (b := [.box [.int .i64 (t.kind), .str t.name, .int .i64 (t.n), .imm (t.names.map AVal.str), .imm (t.kids.map Ty.enc)], .box [.bool ((visV VSt.init t).ok)], .map (encM (AVal.int .i64) AVal.bool (visV VSt.init t).pl), .box [.map 2], .map (encM (AVal.int .i64) encS (visV VSt.init t).rw), .box [.map 4], .iter 4 ((List.range (visV VSt.init t).rw.length), none)]) (by kernel_rfl) (by (try dsimp only); rw [okL_init])), by simp [AObj.belO]⟩ ?_
 rintro ⟨lf, la⟩ _
 refine qZ [(3, .ptr 1 0), (4, .ptr 3 0), (13, .itr 6)] [t.bx, .box [.bool (okL (visV VSt.init t) lf)], .map (encM (AVal.int .i64) AVal.bool (visV VSt.init t).pl), .box [.map 2], .map (encM (AVal.int .i64) encS (visV VSt.init t).rw), .box [.map 4], .iter 4 (lf, la)] ?_ ?_
 refine qO ?_ ?_
 refine vnextM (ek := (AVal.int .i64)) (ev := encS) (l := (visV VSt.init t).rw) (o := 6) (m := 4) (lf := lf) (la := la) ((0 : Int), ([] : List (List UInt8))) (by kernel_rfl) (by kernel_rfl) (by kernel_rfl) (by kernel_rfl) (by kernel_rfl) ?_ ?_
 intro hli1
 refine qR 1 [(3, .ptr 1 0), (4, .ptr 3 0), (13, .itr 6), (15, .bool false)] [t.bx, .box [.bool (okL (visV VSt.init t) lf)], .map (encM (AVal.int .i64) AVal.bool (visV VSt.init t).pl), .box [.map 2], .map (encM (AVal.int .i64) encS (visV VSt.init t).rw), .box [.map 4], .iter 4 (lf, la)] ?_ ?_
 refine qSeq ?_ ?_
 refine wIfF (by kernel_rfl) (by kernel_rfl) ?_
 refine wExit 0 (by kernel_rfl) (by kernel_rfl) ?_
 refine AThen_exit ?_
 refine AThen_exit ?_
 refine AIn_exit ?_
 refine AThen_normal ?_
 refine qz [(3, .ptr 1 0)] ?_ ?_
 refine qV 2 ?_ ?_
 refine qT ?_ ?_
 refine leafB (b := (okL (visV VSt.init t) lf)) (.inr rfl) (by kernel_rfl) ?_
 · rw [validB]; congr 1
 iterate 5 kernel_rfl
 intro i1 hii1 hlti1
 refine qR 1 [(3, .ptr 1 0), (4, .ptr 3 0), (13, .itr 6), (15, .bool true)] [t.bx, .box [.bool (okL (visV VSt.init t) lf)], .map (encM (AVal.int .i64) AVal.bool (visV VSt.init t).pl), .box [.map 2], .map (encM (AVal.int .i64) encS (visV VSt.init t).rw), .box [.map 4], .iter 4 ((lf.filter (fun j => !(Nat.beq j i1))), (some i1))] ?_ ?_
 refine qSeq ?_ ?_
 refine wIfT (by kernel_rfl) (by kernel_rfl) ?_
 refine qK ?_ ?_
 refine qz [(3, .ptr 1 0), (4, .ptr 3 0), (13, .itr 6)] ?_ ?_
 refine qB 1 ?_ ?_ ?_
 refine qO ?_ ?_
 refine ventryM (ek := (AVal.int .i64)) (ev := encS) (l := (visV VSt.init t).rw) (o := 6) (m := 4) (i := i1) (lf := (lf.filter (fun j => !(Nat.beq j i1)))) ((0 : Int), ([] : List (List UInt8))) (by kernel_rfl) (by kernel_rfl) (by kernel_rfl) (by kernel_rfl) (by kernel_rfl) (by assumption) ?_
 refine qR 2 [(3, .ptr 1 0), (4, .ptr 3 0), (6, .int .i64 (((visV VSt.init t).rw.getD i1 ((0 : Int), ([] : List (List UInt8)))).1)), (13, .itr 6)] [t.bx, .box [.bool (okL (visV VSt.init t) lf)], .map (encM (AVal.int .i64) AVal.bool (visV VSt.init t).pl), .box [.map 2], .map (encM (AVal.int .i64) encS (visV VSt.init t).rw), .box [.map 4], .iter 4 ((lf.filter (fun j => !(Nat.beq j i1))), (some i1))] ?_ ?_
 refine qo ?_ ?_
 refine qr 2 ?_ ?_
 by_cases hb2 : (okL (visV VSt.init t) lf) = true
 refine vset 18 (.bool (okL (visV VSt.init t) lf)) (.bool true) (extO (extIn extLoopA)) (by kernel_rfl) (congrArg AVal.bool (hb2)) ?_
 refine vset 19 (.bool (okL (visV VSt.init t) lf)) (.bool true) (extO (extIn extLoopA)) (by kernel_rfl) (congrArg AVal.bool (hb2)) ?_
 refine qr 2 ?_ ?_
 rcases hm3 : mget (((visV VSt.init t).rw.getD i1 ((0 : Int), ([] : List (List UInt8)))).1) (visV VSt.init t).pl with _ | x3
 refine qy (o_lookN (ok := false) (o := 2) (ek := (AVal.int .i64)) (ev := AVal.bool) (l := (visV VSt.init t).pl) (k := (((visV VSt.init t).rw.getD i1 ((0 : Int), ([] : List (List UInt8)))).1)) keyI hm3 (by kernel_rfl) ty71 ty3 rfl ty4 (by kernel_rfl)) ?_ ?_ ?_
 refine qr 3 ?_ ?_
 refine qe ?_ ?_
 refine AIn_normal ?_
 refine AThen_normal ⟨((lf.filter (fun j => !(Nat.beq j i1))), (some i1)), ?_, ?_, ⟨⟨(by kernel_rfl), (by kernel_rfl), (by kernel_rfl), trivial⟩, by simp [BelL, AVal.bel], by simp, (Eq.trans (b := [.box [.int .i64 (t.kind), .str t.name, .int .i64 (t.n), .imm (t.names.map AVal.str), .imm (t.kids.map Ty.enc)], .box [.bool true], .map (encM (AVal.int .i64) AVal.bool (visV VSt.init t).pl), .box [.map 2], .map (encM (AVal.int .i64) encS (visV VSt.init t).rw), .box [.map 4], .iter 4 ((lf.filter (fun j => !(Nat.beq j i1))), (some i1))]) (by kernel_rfl) (by (try dsimp only); first | (rw [okL_f hii1 hlti1 (by assumption)]; done) | (rw [okL_n hii1 hlti1 (by assumption)]; simp only [*]; done) | (rw [okL_s hii1 hlti1 (by assumption)]; simp only [*]; simp; done))), by simp [AObj.belO]⟩⟩
 rotate_left
 · try dsimp only
   all_goals trivial
 iterate 4 kernel_rfl
 refine qy (o_lookS (ok := false) (o := 2) (ek := (AVal.int .i64)) (ev := AVal.bool) (l := (visV VSt.init t).pl) (k := (((visV VSt.init t).rw.getD i1 ((0 : Int), ([] : List (List UInt8)))).1)) (x := x3) keyI hm3 (by kernel_rfl) ty71 ty3 rfl ty4 (by kernel_rfl)) ?_ ?_ ?_
 refine qr 3 ?_ ?_
 refine qe ?_ ?_
 refine AIn_normal ?_
 refine AThen_normal ⟨((lf.filter (fun j => !(Nat.beq j i1))), (some i1)), ?_, ?_, ⟨⟨(by kernel_rfl), (by kernel_rfl), (by kernel_rfl), trivial⟩, by simp [BelL, AVal.bel], by simp, (Eq.trans (b := [.box [.int .i64 (t.kind), .str t.name, .int .i64 (t.n), .imm (t.names.map AVal.str), .imm (t.kids.map Ty.enc)], .box [.bool (!(x3))], .map (encM (AVal.int .i64) AVal.bool (visV VSt.init t).pl), .box [.map 2], .map (encM (AVal.int .i64) encS (visV VSt.init t).rw), .box [.map 4], .iter 4 ((lf.filter (fun j => !(Nat.beq j i1))), (some i1))]) (by kernel_rfl) (by (try dsimp only); first | (rw [okL_f hii1 hlti1 (by assumption)]; done) | (rw [okL_n hii1 hlti1 (by assumption)]; simp only [*]; done) | (rw [okL_s hii1 hlti1 (by assumption)]; simp only [*]; simp; done))), by simp [AObj.belO]⟩⟩
 rotate_left
 · try dsimp only
   all_goals trivial
 iterate 5 kernel_rfl
 refine vset 18 (.bool (okL (visV VSt.init t) lf)) (.bool false) (extO (extIn extLoopA)) (by kernel_rfl) (congrArg AVal.bool (Bool.eq_false_iff.2 hb2)) ?_
 refine vset 19 (.bool (okL (visV VSt.init t) lf)) (.bool false) (extO (extIn extLoopA)) (by kernel_rfl) (congrArg AVal.bool (Bool.eq_false_iff.2 hb2)) ?_
 refine qr 6 ?_ ?_
 refine qe ?_ ?_
 refine AIn_normal ?_
 refine AThen_normal ⟨((lf.filter (fun j => !(Nat.beq j i1))), (some i1)), ?_, ?_, ⟨⟨(by kernel_rfl), (by kernel_rfl), (by kernel_rfl), trivial⟩, by simp [BelL, AVal.bel], by simp, (Eq.trans (b := [.box [.int .i64 (t.kind), .str t.name, .int .i64 (t.n), .imm (t.names.map AVal.str), .imm (t.kids.map Ty.enc)], .box [.bool false], .map (encM (AVal.int .i64) AVal.bool (visV VSt.init t).pl), .box [.map 2], .map (encM (AVal.int .i64) encS (visV VSt.init t).rw), .box [.map 4], .iter 4 ((lf.filter (fun j => !(Nat.beq j i1))), (some i1))]) (by kernel_rfl) (by (try dsimp only); first | (rw [okL_f hii1 hlti1 (by assumption)]; done) | (rw [okL_n hii1 hlti1 (by assumption)]; simp only [*]; done) | (rw [okL_s hii1 hlti1 (by assumption)]; simp only [*]; simp; done))), by simp [AObj.belO]⟩⟩
 rotate_left
 · try dsimp only
   all_goals trivial
 iterate 26 kernel_rfl
 all_goals
  try dsimp only
  exact filter_lt lf _ (by assumption)
end Go.Proofs.YtdikgijfekfaoaaGreatDoor
