/- Numbers, Renumber and Canonical of both packages. Condition: sizes that can be had. -/
import Derived.Test.YtdikgijfekfaoaaGreatDoorW2
import Derived.Test.YtdikgijfekfaoaaGreatDoorAbsc
set_option linter.all false
set_option linter.unusedSimpArgs false
set_option linter.unusedVariables false
namespace Go.Proofs.YtdikgijfekfaoaaGreatDoor
open Go.Proofs.YtdikgijfekfaoaaGreatDoor.Abs
set_option maxRecDepth 20000
set_option maxHeartbeats 4000000
/-- The numbers of the first k occurrences. -/
def rnF (t : Ty) (k : Nat) : List Int := (((occs t).take k).map Occ.n).foldl addN []
theorem take_at {α : Type} (l : List α) (k : Nat) (d : α) (h : k < l.length) : l.take (k + 1) = l.take k ++ [l.getD k d] := by
  rw [List.take_succ_eq_append_getElem h, List.getD_eq_getElem?_getD, List.getElem?_eq_getElem h]; rfl
theorem rnF_succ {t : Ty} {k : Nat} (h : k < (occs t).length) : rnF t (k + 1) = addN (rnF t k) ((occs t).getD k Occ.zero).n := by
  unfold rnF
  rw [take_at _ k Occ.zero h, List.map_append, List.foldl_append]; rfl
theorem rn_yes {t : Ty} {k : Nat} (h : k < (occs t).length) (hc : (rnF t k).contains ((occs t).getD k Occ.zero).n = true) : rnF t k = rnF t (k + 1) := by rw [rnF_succ h, addN, if_pos hc]
theorem rn_no {t : Ty} {k : Nat} (h : k < (occs t).length) (hc : ¬ (rnF t k).contains ((occs t).getD k Occ.zero).n = true) : rnF t k ++ [((occs t).getD k Occ.zero).n] = rnF t (k + 1) := by rw [rnF_succ h, addN, if_neg hc]
theorem rn_end {t : Ty} {k : Nat} (h : (occs t).length ≤ k) : rnF t k = visN [] t := by unfold rnF visN; rw [List.take_of_length_le h]
theorem rn_len (t : Ty) (k : Nat) : (rnF t k).length ≤ k := by
  have := foldN_len (((occs t).take k).map Occ.n) []
  rw [List.length_map, List.length_take] at this
  unfold rnF; simp only [List.length_nil] at this; omega
noncomputable def c35 : Code := bodyOf Tryz.f35
theorem rnumbers_spec (t : Ty) (hs : t.sz < 100000000) : CallsP cx 35 [Ty.v t] (.imm ((visN [] t).map (AVal.int .i64))) := by
 have hol := occs_len t
 refine func_intro (cx := cx) 33 0 [(ResultVar.tmp 2)] Tryz.func35 rfl rfl rfl rfl rfl (by simp) ?_
 show wpA cx 33 0 (at_ c35 []) _ _ _
 refine qZ [(0, Ty.v t)] [] ?_ ?_
 refine qW 2 [(1, .ptr 0 0)] [t.bx] ?_ ?_
 refine qV 1 ?_ ?_
 refine vcallP (args := [.agg [.int .i64 (t.kind), .str t.name, .int .i64 (t.n), .imm (t.names.map AVal.str), .imm (t.kids.map Ty.enc)]]) (by kernel_rfl) (by kernel_rfl) (by kernel_rfl) (by kernel_rfl) (occs_spec t (by omega)) (by simp [Ty.v, frzL_app, Occ.v]) (by simp [Ty.v]) (by simp [Ty.v, ownsL_app]) ?_
 refine qR 1 [(3, .imm ((occs t).map Occ.v))] [t.bx] ?_ ?_
 refine qU 1 [(3, .imm ((occs t).map Occ.v)), (4, .full [])] ?_ ?_
 refine wOwn 4 1 (by decide) (by kernel_rfl) ?_
 refine qZ [(3, .imm ((occs t).map Occ.v)), (4, .own 1 0 0)] [t.bx, .arr 1 (([] : List (Int)).map (AVal.int .i64)) 0] ?_ ?_
 refine qSeq ?_ ?_
 refine qU 1 [(3, .imm ((occs t).map Occ.v)), (4, .own 1 0 0), (5, .int .i64 0)] ?_ ?_
 refine qB 0 ?_ ?_ ?_
 refine wLoop (σ := Nat) (fun k => [(3, .imm ((occs t).map Occ.v)), (4, .own 1 0 (rnF t k).length), (5, .int .i64 ((k : Nat) : Int))]) (fun k => [.box [.int .i64 (t.kind), .str t.name, .int .i64 (t.n), .imm (t.names.map AVal.str), .imm (t.kids.map Ty.enc)], .arr 1 ((rnF t k).map (AVal.int .i64)) ((rnF t k).map (AVal.int .i64)).length]) (fun k => k ≤ (occs t).length) (fun k => (occs t).length - k) 0 (by kernel_rfl) (by exact Nat.zero_le _) ⟨⟨(by kernel_rfl), (by kernel_rfl), (by kernel_rfl), trivial⟩, by simp [BelL, AVal.bel], by simp, (by kernel_rfl), by simp [AObj.belO, -List.map_append]⟩ ?_
 rintro k hk
 have hrl := rn_len t k
 refine qSeq ?_ ?_
 refine qV 2 ?_ ?_
 refine qy (o_lenmap (l := (occs t)) (enc := Occ.v) (by kernel_rfl) ty77) ?_ ?_ ?_
 refine qR 1 [(3, .imm ((occs t).map Occ.v)), (4, .own 1 0 (rnF t k).length), (5, nI k), (12, .bool (decide (((k : Nat) : Int) < (((occs t).length : Nat) : Int))))] [t.bx, .arr 1 ((rnF t k).map (AVal.int .i64)) ((rnF t k).map (AVal.int .i64)).length] ?_ ?_
 by_cases hb1 : ((k : Nat) : Int) < (((occs t).length : Nat) : Int)
 refine qt (decide_eq_true hb1) ?_ ?_
 refine qK ?_ ?_
 refine qz [(3, .imm ((occs t).map Occ.v)), (4, .own 1 0 (rnF t k).length), (5, nI k)] ?_ ?_
 refine qSeq ?_ ?_
 refine qB 1 ?_ ?_ ?_
 refine qV 3 ?_ ?_
 refine qy (o_ixmap (k := .i64) (l := (occs t)) (enc := Occ.v) (i := ((k : Nat) : Int)) Occ.zero (by kernel_rfl) ty77 ty80 (fun _ => rfl) (by omega) (by omega)) ?_ ?_ ?_
 refine qr 2 ?_ ?_
 refine vZ (args := [.own 1 0 (rnF t k).length, .int .i64 (((occs t).getD k Occ.zero).n)]) (F := [.box [.int .i64 (t.kind), .str t.name, .int .i64 (t.n), .imm (t.names.map AVal.str), .imm (t.kids.map Ty.enc)], .arr 1 ((rnF t k).map (AVal.int .i64)) ((rnF t k).map (AVal.int .i64)).length]) (by kernel_rfl) (by kernel_rfl) (by kernel_rfl) (by kernel_rfl) (hasR_spec (rnF t k) (((occs t).getD k Occ.zero).n) (by omega)) [.box [.int .i64 (t.kind), .str t.name, .int .i64 (t.n), .imm (t.names.map AVal.str), .imm (t.kids.map Ty.enc)], .arr 1 ((rnF t k).map (AVal.int .i64)) ((rnF t k).map (AVal.int .i64)).length] (by kernel_rfl) (by simp [frzL, frzH, ownsL, AVal.frz, AVal.owns]) (by simp [Ty.v]) (by simp [frzL, frzH, ownsL, AVal.frz, AVal.owns]) ?_
 refine qR 1 [(3, .imm ((occs t).map Occ.v)), (4, .own 1 0 (rnF t k).length), (5, nI k), (6, .bool ((rnF t k).contains (((occs t).getD k Occ.zero).n)))] [t.bx, .arr 1 ((rnF t k).map (AVal.int .i64)) ((rnF t k).map (AVal.int .i64)).length] ?_ ?_
 refine qU 2 [(3, .imm ((occs t).map Occ.v)), (4, .own 1 0 (rnF t k).length), (5, nI k), (23, .bool (!((rnF t k).contains (((occs t).getD k Occ.zero).n))))] ?_ ?_
 by_cases hb2 : ((rnF t k).contains (((occs t).getD k Occ.zero).n)) = true
 refine qf (x := (!((rnF t k).contains (((occs t).getD k Occ.zero).n)))) (congrArg not (hb2)) ?_ ?_
 refine qk ?_ ?_
 refine AIn_normal ?_
 refine AThen_normal ?_
 refine qz [(3, .imm ((occs t).map Occ.v)), (4, .own 1 0 (rnF t k).length), (5, nI k)] ?_ ?_
 refine wLock 1 [.box [.int .i64 (t.kind), .str t.name, .int .i64 (t.n), .imm (t.names.map AVal.str), .imm (t.kids.map Ty.enc)], .arr 1 ((rnF t k).map (AVal.int .i64)) ((rnF t k).map (AVal.int .i64)).length] (by simp [frzH]) ?_
 refine qz [(3, .imm ((occs t).map Occ.v)), (4, .own 1 0 (rnF t k).length), (5, nI k)] ?_ ?_
 refine qo ?_ ?_
 refine qr 1 ?_ ?_
 refine qy (o_add (a := ((k : Nat) : Int)) (b := 1) (by kernel_rfl) (by omega) (by omega)) ?_ ?_ ?_
 refine qr 1 ?_ ?_
 refine qe ?_ ?_
 refine AThen_normal ⟨k + 1, ?_, ?_, ⟨⟨(by kernel_rfl), (Eq.trans (b := .own 1 0 (rnF t k).length) (by kernel_rfl) (by first | rw [rn_yes (by omega) (by assumption)] | rw [rn_no (by omega) (by assumption)])), (by kernel_rfl), trivial⟩, by simp [BelL, AVal.bel], by simp, (Eq.trans (b := [.box [.int .i64 (t.kind), .str t.name, .int .i64 (t.n), .imm (t.names.map AVal.str), .imm (t.kids.map Ty.enc)], .arr 1 ((rnF t k).map (AVal.int .i64)) ((rnF t k).map (AVal.int .i64)).length]) (by kernel_rfl) (by first | rw [rn_yes (by omega) (by assumption)] | rw [rn_no (by omega) (by assumption)])), by simp [AObj.belO, -List.map_append]⟩⟩
 · omega
 · omega
 iterate 10 kernel_rfl
 refine qt (x := (!((rnF t k).contains (((occs t).getD k Occ.zero).n)))) (congrArg not (Bool.eq_false_iff.2 hb2)) ?_ ?_
 refine qo ?_ ?_
 refine qr 3 ?_ ?_
 refine qy (o_ixmap (k := .i64) (l := (occs t)) (enc := Occ.v) (i := ((k : Nat) : Int)) Occ.zero (by kernel_rfl) ty77 ty80 (fun _ => rfl) (by omega) (by omega)) ?_ ?_ ?_
 refine qr 3 ?_ ?_
 refine qY (o_appmap (o := 1) (len := ((rnF t k).length)) (l := (rnF t k)) (xs := [(((occs t).getD k Occ.zero).n)]) (enc := (AVal.int .i64)) (sz := 1) (fr := ((rnF t k).map (AVal.int .i64)).length) (x := (.full [.int .i64 (((occs t).getD k Occ.zero).n)])) (by kernel_rfl) ty26 ty3 ty26 rfl (by kernel_rfl) rfl (by first | rfl | simp) (by kernel_rfl) ⟨by decide, by kernel_rfl⟩ (fun _ => rfl) (by simp only [List.length_append, List.length_map, List.length_cons, List.length_nil]; omega) (by simp only [List.length_append, List.length_map, List.length_cons, List.length_nil]; omega)) ?_ ?_ ?_
 refine qr 1 ?_ ?_
 refine qe ?_ ?_
 refine AIn_normal ?_
 refine AThen_normal ?_
 refine qZ [(3, .imm ((occs t).map Occ.v)), (4, .own 1 0 ((rnF t k) ++ [(((occs t).getD k Occ.zero).n)]).length), (5, nI k)] [t.bx, .arr 1 (((rnF t k) ++ [(((occs t).getD k Occ.zero).n)]).map (AVal.int .i64)) ((rnF t k).map (AVal.int .i64)).length] ?_ ?_
 refine wLock 1 [.box [.int .i64 (t.kind), .str t.name, .int .i64 (t.n), .imm (t.names.map AVal.str), .imm (t.kids.map Ty.enc)], .arr 1 (((rnF t k) ++ [(((occs t).getD k Occ.zero).n)]).map (AVal.int .i64)) (((rnF t k) ++ [(((occs t).getD k Occ.zero).n)]).map (AVal.int .i64)).length] (by simp [frzH]) ?_
 refine qZ [(3, .imm ((occs t).map Occ.v)), (4, .own 1 0 ((rnF t k) ++ [(((occs t).getD k Occ.zero).n)]).length), (5, nI k)] [t.bx, .arr 1 (((rnF t k) ++ [(((occs t).getD k Occ.zero).n)]).map (AVal.int .i64)) (((rnF t k) ++ [(((occs t).getD k Occ.zero).n)]).map (AVal.int .i64)).length] ?_ ?_
 refine qo ?_ ?_
 refine qr 1 ?_ ?_
 refine qy (o_add (a := ((k : Nat) : Int)) (b := 1) (by kernel_rfl) (by omega) (by omega)) ?_ ?_ ?_
 refine qr 1 ?_ ?_
 refine qe ?_ ?_
 refine AThen_normal ⟨k + 1, ?_, ?_, ⟨⟨(by kernel_rfl), (Eq.trans (b := .own 1 0 ((rnF t k) ++ [(((occs t).getD k Occ.zero).n)]).length) (by kernel_rfl) (by first | rw [rn_yes (by omega) (by assumption)] | rw [rn_no (by omega) (by assumption)])), (by kernel_rfl), trivial⟩, by simp [BelL, AVal.bel], by simp, (Eq.trans (b := [.box [.int .i64 (t.kind), .str t.name, .int .i64 (t.n), .imm (t.names.map AVal.str), .imm (t.kids.map Ty.enc)], .arr 1 (((rnF t k) ++ [(((occs t).getD k Occ.zero).n)]).map (AVal.int .i64)) (((rnF t k) ++ [(((occs t).getD k Occ.zero).n)]).map (AVal.int .i64)).length]) (by kernel_rfl) (by first | rw [rn_yes (by omega) (by assumption)] | rw [rn_no (by omega) (by assumption)])), by simp [AObj.belO, -List.map_append]⟩⟩
 · omega
 · omega
 iterate 30 kernel_rfl
 refine qf (decide_eq_false hb1) ?_ ?_
 refine wExit 0 (by kernel_rfl) (by kernel_rfl) ?_
 refine AThen_exit ?_
 refine AThen_exit ?_
 refine AIn_exit ?_
 refine AThen_normal ?_
 refine qz [(4, .own 1 0 (rnF t k).length)] ?_ ?_
 refine qU 2 [(2, .own 1 0 (rnF t k).length)] ?_ ?_
 refine wRet (by kernel_rfl) ?_
 refine leafP (l := [.own 1 0 (rnF t k).length]) (.inr rfl) (by kernel_rfl) ?_
 · rw [rn_end (by omega)]
   simp [awrap, AVal.frz, frzL]
 iterate 18 kernel_rfl
end Go.Proofs.YtdikgijfekfaoaaGreatDoor
