/- Numbers, Renumber and Canonical of both packages. Condition: sizes that can be had. -/
import Derived.Test.YtdikgijfekfaoaaGreatDoorW2
import Derived.Test.YtdikgijfekfaoaaGreatDoorAbsc
set_option linter.all false
set_option linter.unusedSimpArgs false
set_option linter.unusedVariables false
namespace Go.Proofs.YtdikgijfekfaoaaGreatDoor
open Go.Proofs.YtdikgijfekfaoaaGreatDoor.Abs
set_option maxRecDepth 20000
set_option maxHeartbeats 4000000
/-- The numbers of the first k occurrences. -/
def rnF (t : Ty) (k : Nat) : List Int := (((occs t).take k).map Occ.n).foldl addN []
theorem take_at {α : Type} (l : List α) (k : Nat) (d : α) (h : k < l.length) : l.take (k + 1) = l.take k ++ [l.getD k d] := by
  rw [List.take_succ_eq_append_getElem h, List.getD_eq_getElem?_getD, List.getElem?_eq_getElem h]; rfl
theorem rnF_succ {t : Ty} {k : Nat} (h : k < (occs t).length) : rnF t (k + 1) = addN (rnF t k) ((occs t).getD k Occ.zero).n := by
  unfold rnF
  rw [take_at _ k Occ.zero h, List.map_append, List.foldl_append]; rfl
theorem rn_yes {t : Ty} {k : Nat} (h : k < (occs t).length) (hc : (rnF t k).contains ((occs t).getD k Occ.zero).n = true) : rnF t k = rnF t (k + 1) := by rw [rnF_succ h, addN, if_pos hc]
theorem rn_no {t : Ty} {k : Nat} (h : k < (occs t).length) (hc : ¬ (rnF t k).contains ((occs t).getD k Occ.zero).n = true) : rnF t k ++ [((occs t).getD k Occ.zero).n] = rnF t (k + 1) := by rw [rnF_succ h, addN, if_neg hc]
theorem rn_end {t : Ty} {k : Nat} (h : (occs t).length ≤ k) : rnF t k = visN [] t := by unfold rnF visN; rw [List.take_of_length_le h]
theorem rn_len (t : Ty) (k : Nat) : (rnF t k).length ≤ k := by
  have := foldN_len (((occs t).take k).map Occ.n) []
  rw [List.length_map, List.length_take] at this
  unfold rnF; simp only [List.length_nil] at this; omega
noncomputable def c35 : Code := bodyOf Tryz.f35
theorem rnumbers_spec (t : Ty) (hs : t.sz < 100000000) : CallsP cx 35 [Ty.v t] (.imm ((visN [] t).map (AVal.int .i64))) := by
 have hol := occs_len t
 refine func_intro (cx := cx) 33 0 [(ResultVar.tmp 2)] Tryz.func35 rfl rfl rfl rfl rfl (by simp) ?_
 show wpA cx 33 0 (at_ c35 []) _ _ _
 refine qZ [(0, Ty.v t)] [] ?_ ?_
 refine qW 2 [(1, .ptr 0 0)] [t.bx] ?_ ?_
 refine qV 1 ?_ ?_
 refine vcallP (args := [.agg [.int .i64 (t.kind), .str t.name, .int .i64 (t.n), .imm (t.names.map AVal.str), .imm (t.kids.map Ty.enc)]]) (by kernel_rfl) (by kernel_rfl) (by kernel_rfl) (by kernel_rfl) (occs_spec t (by omega)) (by simp [Ty.v, frzL_app, Occ.v]) (by simp [Ty.v]) (by simp [Ty.v, ownsL_app]) ?_
 refine qR 1 [(3, .imm ((occs t).map Occ.v))] [t.bx] ?_ ?_
 refine qU 1 [(3, .imm ((occs t).map Occ.v)), (4, .full [])] ?_ ?_
 refine wOwn 4 1 (by decide) (by kernel_rfl) ?_
 refine qZ [(3, .imm ((occs t).map Occ.v)), (4, .own 1 0 0)] [t.bx, .arr 1 (([] : List (Int)).map (AVal.int .i64)) 0] ?_ ?_
 refine qSeq ?_ ?_
 refine qU 1 [(3, .imm ((occs t).map Occ.v)), (4, .own 1 0 0), (5, .int .i64 0)] ?_ ?_
 refine qB 0 ?_ ?_ ?_
 refine wLoop (σ := Nat) (fun k => [(3, .imm ((occs t).map Occ.v)), (4, .own 1 0 (rnF t k).length), (5, .int .i64 ((k : Nat) : Int))]) (fun k => [.box [.int .i64 (t.kind), .str t.name, .int .i64 (t.n), .imm (t.names.map AVal.str), .imm (t.kids.map Ty.enc)], .arr 1 ((rnF t k).map (AVal.int .i64)) ((rnF t k).map (AVal.int .i64)).length]) (fun k => k ≤ (occs t).length) (fun k => (occs t).length - k) 0 (by kernel_rfl) (by exact Nat.zero_le _) ⟨⟨(by kernel_rfl), (by kernel_rfl), (by kernel_rfl), trivial⟩, by simp [BelL, AVal.bel], by simp, (by kernel_rfl), by simp [AObj.belO, -List.map_append]⟩ ?_
 rintro k hk
 have hrl := rn_len t k
 refine qSeq ?_ ?_
 refine qV 2 ?_ ?_
 refine qy (o_lenmap (l := (occs t)) (enc := Occ.v) (by kernel_rfl) ty77) ?_ ?_ ?_
 refine qR 1 [(3, .imm ((occs t).map Occ.v)), (4, .own 1 0 (rnF t k).length), (5, nI k), (12, .bool (decide (((k : Nat) : Int) < (((occs t).length : Nat) : Int))))] [t.bx, .arr 1 ((rnF t k).map (AVal.int .i64)) ((rnF t k).map (AVal.int .i64)).length] ?_ ?_
 by_cases hb1 : ((k : Nat) : Int) < (((occs t).length : Nat) : Int)
 refine qt (decide_eq_true hb1) ?_ ?_
 refine qK ?_ ?_
 refine qz [(3, .imm ((occs t).map Occ.v)), (4, .own 1 0 (rnF t k).length), (5, nI k)] ?_ ?_
 refine qSeq ?_ ?_
 refine qB 1 ?_ ?_ ?_
 refine qV 3 ?_ ?_
 refine qy (o_ixmap (k := .i64) (l := (occs t)) (enc := Occ.v) (i := ((k : Nat) : Int)) Occ.zero (by kernel_rfl) ty77 ty80 (fun _ => rfl) (by omega) (by omega)) ?_ ?_ ?_
 refine qr 2 ?_ ?_
 refine vZ (args := [.own 1 0 (rnF t k).length, .int .i64 (((occs t).getD k Occ.zero).n)]) (F := [.box [.int .i64 (t.kind), .str t.name, .int .i64 (t.n), .imm (t.names.map AVal.str), .imm (t.kids.map Ty.enc)], .arr 1 ((rnF t k).map (AVal.int .i64)) ((rnF t k).map (AVal.int .i64)).length]) (by kernel_rfl) (by kernel_rfl) (by kernel_rfl) (by kernel_rfl) (hasR_spec (rnF t k) (((occs t).getD k Occ.zero).n) (by omega)) [.box [.int .i64 (t.kind), .str t.name, .int .i64 (t.n), .imm (t.names.map AVal.str), .imm (t.kids.map Ty.enc)], .arr 1 ((rnF t k).map (AVal.int .i64)) ((rnF t k).map (AVal.int .i64)).length] (by kernel_rfl) (by simp [frzL, frzH, ownsL, AVal.frz, AVal.owns]) (by simp [Ty.v]) (by simp [frzL, frzH, ownsL, AVal.frz, AVal.owns]) ?_
 refine qR 1 [(3, .imm ((occs t).map Occ.v)), (4, .own 1 0 (rnF t k).length), (5, nI k), (6, .bool ((rnF t k).contains (((occs t).getD k Occ.zero).n)))] [t.bx, .arr 1 ((rnF t k).map (AVal.int .i64)) ((rnF t k).map (AVal.int .i64)).length] ?_ ?_
 refine qU 2 [(3, .imm ((occs t).map Occ.v)), (4, .own 1 0 (rnF t k).length), (5, nI k), (23, .bool (!((rnF t k).contains (((occs t).getD k Occ.zero).n))))] ?_ ?_
 by_cases hb2 : ((rnF t k).contains (((occs t).getD k Occ.zero).n)) = true
 refine qf (x := (!((rnF t k).contains (((occs t).getD k Occ.zero).n)))) (congrArg not (hb2)) ?_ ?_
 refine qk ?_ ?_
 refine AIn_normal ?_
 refine AThen_normal ?_
 refine qz [(3, .imm ((occs t).map Occ.v)), (4, .own 1 0 (rnF t k).length), (5, nI k)] ?_ ?_
 refine wLock 1 [.box [.int .i64 (t.kind), .str t.name, .int .i64 (t.n), .imm (t.names.map AVal.str), .imm (t.kids.map Ty.enc)], .arr 1 ((rnF t k).map (AVal.int .i64)) ((rnF t k).map (AVal.int .i64)).length] (by simp [frzH]) ?_
 refine qz [(3, .imm ((occs t).map Occ.v)), (4, .own 1 0 (rnF t k).length), (5, nI k)] ?_ ?_
 refine qo ?_ ?_
 refine qr 1 ?_ ?_
 refine qy (o_add (a := ((k : Nat) : Int)) (b := 1) (by kernel_rfl) (by omega) (by omega)) ?_ ?_ ?_
 refine qr 1 ?_ ?_
 refine qe ?_ ?_
 refine AThen_normal ⟨k + 1, ?_, ?_, ⟨⟨(by kernel_rfl), (Eq.trans (b := .own 1 0 (rnF t k).length) (by kernel_rfl) (by first | rw [rn_yes (by omega) (by assumption)] | rw [rn_no (by omega) (by assumption)])), (by kernel_rfl), trivial⟩, by simp [BelL, AVal.bel], by simp, (Eq.trans (b := [.box [.int .i64 (t.kind), .str t.name, .int .i64 (t.n), .imm (t.names.map AVal.str), .imm (t.kids.map Ty.enc)], .arr 1 ((rnF t k).map (AVal.int .i64)) ((rnF t k).map (AVal.int .i64)).length]) (by kernel_rfl) (by first | rw [rn_yes (by omega) (by assumption)] | rw [rn_no (by omega) (by assumption)])), by simp [AObj.belO, -List.map_append]⟩⟩
 · omega
 · omega
 iterate 10 kernel_rfl
 refine qt (x := (!((rnF t k).contains (((occs t).getD k Occ.zero).n)))) (congrArg not (Bool.eq_false_iff.2 hb2)) ?_ ?_
 refine qo ?_ ?_
 refine qr 3 ?_ ?_
 refine qy (o_ixmap (k := .i64) (l := (occs t)) (enc := Occ.v) (i := ((k : Nat) : Int)) Occ.zero (by kernel_rfl) ty77 ty80 (fun _ => rfl) (by omega) (by omega)) ?_ ?_ ?_
 refine qr 3 ?_ ?_
 refine qY (o_appmap (o := 1) (len := ((rnF t k).length)) (l := (rnF t k)) (xs := [(((occs t).getD k Occ.zero).n)]) (enc := (AVal.int .i64)) (sz := 1) (fr := ((rnF t k).map (AVal.int .i64)).length) (x := (.full [.int .i64 (((occs t).getD k Occ.zero).n)])) (by kernel_rfl) ty26 ty3 ty26 rfl (by kernel_rfl) rfl (by first | rfl | simp) (by kernel_rfl) ⟨by decide, by kernel_rfl⟩ (fun _ => rfl) (by simp only [List.length_append, List.length_map, List.length_cons, List.length_nil]; omega) (by simp only [List.length_append, List.length_map, List.length_cons, List.length_nil]; omega)) ?_ ?_ ?_
 refine qr 1 ?_ ?_
 refine qe ?_ ?_
 refine AIn_normal ?_
 refine AThen_normal ?_
 refine qZ [(3, .imm ((occs t).map Occ.v)), (4, .own 1 0 ((rnF t k) ++ [(((occs t).getD k Occ.zero).n)]).length), (5, nI k)] [t.bx, .arr 1 (((rnF t k) ++ [(((occs t).getD k Occ.zero).n)]).map (AVal.int .i64)) ((rnF t k).map (AVal.int .i64)).length] ?_ ?_
 refine wLock 1 [.box [.int .i64 (t.kind), .str t.name, .int .i64 (t.n), .imm (t.names.map AVal.str), .imm (t.kids.map Ty.enc)], .arr 1 (((rnF t k) ++ [(((occs t).getD k Occ.zero).n)]).map (AVal.int .i64)) (((rnF t k) ++ [(((occs t).getD k Occ.zero).n)]).map (AVal.int .i64)).length] (by simp [frzH]) ?_
 refine qZ [(3, .imm ((occs t).map Occ.v)), (4, .own 1 0 ((rnF t k) ++ [(((occs t).getD k Occ.zero).n)]).length), (5, nI k)] [t.bx, .arr 1 (((rnF t k) ++ [(((occs t).getD k Occ.zero).n)]).map (AVal.int .i64)) (((rnF t k) ++ [(((occs t).getD k Occ.zero).n)]).map (AVal.int .i64)).length] ?_ ?_
 refine qo ?_ ?_
 refine qr 1 ?_ ?_
 refine qy (o_add (a := ((k : Nat) : Int)) (b := 1) (by kernel_rfl) (by omega) (by omega)) ?_ ?_ ?_
 refine qr 1 ?_ ?_
 refine qe ?_ ?_
 refine AThen_normal ⟨k + 1, ?_, ?_, ⟨⟨(by kernel_rfl), (Eq.trans (b := .own 1 0 ((rnF t k) ++ [(((occs t).getD k Occ.zero).n)]).length) (by kernel_rfl) (by first | rw [rn_yes (by omega) (by assumption)] | rw [rn_no (by omega) (by assumption)])), (by kernel_rfl), trivial⟩, by simp [BelL, AVal.bel], by simp, (Eq.trans (b := [.box [.int .i64 (t.kind), .str t.name, .int .i64 (t.n), .imm (t.names.map AVal.str), .imm (t.kids.map Ty.enc)], .arr 1 (((rnF t k) ++ [(((occs t).getD k Occ.zero).n)]).map (AVal.int .i64)) (((rnF t k) ++ [(((occs t).getD k Occ.zero).n)]).map (AVal.int .i64)).length]) (by kernel_rfl) (by first | rw [rn_yes (by omega) (by assumption)] | rw [rn_no (by omega) (by assumption)])), by simp [AObj.belO, -List.map_append]⟩⟩
 · omega
 · omega
 iterate 30 kernel_rfl
 refine qf (decide_eq_false hb1) ?_ ?_
 refine wExit 0 (by kernel_rfl) (by kernel_rfl) ?_
 refine AThen_exit ?_
 refine AThen_exit ?_
 refine AIn_exit ?_
 refine AThen_normal ?_
 refine qz [(4, .own 1 0 (rnF t k).length)] ?_ ?_
 refine qU 2 [(2, .own 1 0 (rnF t k).length)] ?_ ?_
 refine wRet (by kernel_rfl) ?_
 refine leafP (l := [.own 1 0 (rnF t k).length]) (.inr rfl) (by kernel_rfl) ?_
 · rw [rn_end (by omega)]
   simp [awrap, AVal.frz, frzL]
 iterate 18 kernel_rfl
/-- What a number becomes by two lists. -/
def refN : List Int → List Int → Int → Int
  | x :: F, y :: G, n => if x = n then y else refN F G n
  | _, _, n => n
theorem refN_at {n : Int} : ∀ (F G : List Int) (j : Nat), (∀ i, i < j → ¬ F.getD i 0 = n) → j < F.length → F.length ≤ G.length → F.getD j 0 = n → refN F G n = G.getD j 0
  | [], G, j, _, h, _, _ => by simp at h
  | x :: F, [], j, _, _, h, _ => by simp at h
  | x :: F, y :: G, 0, _, _, _, h => by simp only [List.getD_cons_zero] at h ⊢; rw [refN, if_pos h]
  | x :: F, y :: G, j + 1, ha, hj, hl, h => by
    have h0 := ha 0 (by omega)
    simp only [List.getD_cons_zero, List.getD_cons_succ] at h0 h ⊢
    rw [refN, if_neg h0]
    exact refN_at F G j (fun i hi => by have := ha (i + 1) (by omega); simpa only [List.getD_cons_succ] using this) (by simpa using hj) (by simpa using hl) h
theorem refN_no {n : Int} : ∀ (F G : List Int), (∀ i, i < F.length → ¬ F.getD i 0 = n) → refN F G n = n
  | [], G, _ => by unfold refN; rfl
  | x :: F, [], _ => by unfold refN; rfl
  | x :: F, y :: G, ha => by
    have h0 := ha 0 (by simp)
    simp only [List.getD_cons_zero] at h0
    rw [refN, if_neg h0]
    exact refN_no F G (fun i hi => by have := ha (i + 1) (by simpa using hi); simpa only [List.getD_cons_succ] using this)
def rnK (f : Int → Int) (t : Ty) (k : Nat) : List Ty := (t.kids.take k).map (renT f)
theorem rnK_succ {f : Int → Int} {t : Ty} {k : Nat} (h : k < t.kids.length) : rnK f t k ++ [renT f (t.kids.getD k Ty.zero)] = rnK f t (k + 1) := by
  unfold rnK; rw [take_snocT _ _ h, List.map_append]; rfl
theorem rnK_len (f : Int → Int) (t : Ty) (k : Nat) : (rnK f t k).length ≤ k := by unfold rnK; rw [List.length_map, List.length_take]; omega
theorem rnK_end {f : Int → Int} {t : Ty} {k : Nat} (h : t.kids.length ≤ k) : rnK f t k = (renT f t).kids := by rw [renT_kids, rnK, List.take_of_length_le h]
theorem refN_n1 {F G : List Int} {t : Ty} {j : Nat} (hv : t.kind = 6 ∨ t.kind = 5 ∧ ¬ t.n = 0) (ha : ∀ i, i < j → ¬ F.getD i 0 = t.n) (hj : j < F.length) (hl : F.length ≤ G.length) (h : F.getD j 0 = t.n) : G.getD j 0 = (renT (refN F G) t).n := by
  rw [renT_n, if_pos (by unfold isV; rcases hv with h | h <;> simp [h]), refN_at F G j ha hj hl h]
theorem refN_n2 {F G : List Int} {t : Ty} (ha : ∀ i, i < F.length → ¬ F.getD i 0 = t.n) : t.n = (renT (refN F G) t).n := by
  rw [renT_n]; split
  · rw [refN_no F G ha]
  · rfl
theorem refN_n3 {F G : List Int} {t : Ty} (h6 : ¬ t.kind = 6) (h5 : ¬ (t.kind = 5 ∧ ¬ t.n = 0)) : t.n = (renT (refN F G) t).n := by
  rw [renT_n, if_neg (by unfold isV; simp [h6]; intro h; by_cases hn : t.n = 0; exact hn; exact absurd ⟨h, hn⟩ h5)]
noncomputable def c32 : Code := bodyOf Tryz.f32
theorem rrenum_spec (t : Ty) (F G : List Int) (hs : t.sz < 100000000) (hF : F.length < 1000000000) (hfg : F.length ≤ G.length) : CallsP cx 32 [Ty.v t, .imm (F.map (AVal.int .i64)), .imm (G.map (AVal.int .i64))] (Ty.v (renT (refN F G) t)) := by
 induction hN : t.sz using Nat.strongRecOn generalizing t with | _ N ih =>
 have ihN : ∀ x : Ty, x.sz < t.sz → CallsP cx 32 [x.v, .imm (F.map (.int .i64)), .imm (G.map (.int .i64))] (renT (refN F G) x).v := fun x h1 => ih _ (by rw [← hN]; exact h1) x (Nat.lt_trans h1 hs) rfl
 have hz1 := sz_names t
 have hz2 := sz_kids t
 refine func_intro (cx := cx) 65 0 [(ResultVar.cell 6 25)] Tryz.func32 rfl rfl rfl rfl rfl (by simp) ?_
 show wpA cx 65 0 (at_ c32 []) _ _ _
 refine qZ [(0, Ty.v t), (1, .imm (F.map (AVal.int .i64))), (2, .imm (G.map (AVal.int .i64)))] [] ?_ ?_
 refine qW 2 [(1, .imm (F.map (AVal.int .i64))), (2, .imm (G.map (AVal.int .i64))), (3, .ptr 0 0), (6, .ptr 1 0)] [t.bx, .box [.int .i64 0, .str [], .int .i64 0, .full [], .full []]] ?_ ?_
 refine qW 3 [(1, .imm (F.map (AVal.int .i64))), (2, .imm (G.map (AVal.int .i64))), (3, .ptr 0 0), (6, .ptr 1 0), (7, .ptr 2 0)] [t.bx, .box [.int .i64 0, .str [], .int .i64 0, .full [], .full []], t.bx] ?_ ?_
 refine qW 2 [(1, .imm (F.map (AVal.int .i64))), (2, .imm (G.map (AVal.int .i64))), (3, .ptr 0 0), (6, .ptr 1 0), (7, .ptr 2 0)] [t.bx, .box [.int .i64 0, .str [], .int .i64 0, .full [], .full []], .box [.int .i64 (t.kind), .str t.name, .int .i64 (t.n), .imm (t.names.map AVal.str), .full []]] ?_ ?_
 refine wOwnB 2 4 5 (cs := [.int .i64 (t.kind), .str t.name, .int .i64 (t.n), .imm (t.names.map AVal.str), .full []]) [.int .i64 (t.kind), .str t.name, .int .i64 (t.n), .imm (t.names.map AVal.str), .own 3 0 0] (by decide) (by kernel_rfl) (by kernel_rfl) (by kernel_rfl) ?_
 refine qZ [(1, .imm (F.map (AVal.int .i64))), (2, .imm (G.map (AVal.int .i64))), (3, .ptr 0 0), (6, .ptr 1 0), (7, .ptr 2 0)] [t.bx, .box [.int .i64 0, .str [], .int .i64 0, .full [], .full []], .box [.int .i64 (t.kind), .str t.name, .int .i64 (t.n), .imm (t.names.map AVal.str), .own 3 0 0], .arr 5 (([] : List (Ty)).map Ty.enc) 0] ?_ ?_
 refine qSeq ?_ ?_
 refine qU 1 [(1, .imm (F.map (AVal.int .i64))), (2, .imm (G.map (AVal.int .i64))), (3, .ptr 0 0), (6, .ptr 1 0), (7, .ptr 2 0), (8, .int .i64 0)] ?_ ?_
 refine qB 0 ?_ ?_ ?_
 refine wLoop (σ := Nat) (fun k => [(1, .imm (F.map (AVal.int .i64))), (2, .imm (G.map (AVal.int .i64))), (3, .ptr 0 0), (6, .ptr 1 0), (7, .ptr 2 0), (8, .int .i64 ((k : Nat) : Int))]) (fun k => [.box [.int .i64 (t.kind), .str t.name, .int .i64 (t.n), .imm (t.names.map AVal.str), .imm (t.kids.map Ty.enc)], .box [.int .i64 0, .str [], .int .i64 0, .full [], .full []], .box [.int .i64 (t.kind), .str t.name, .int .i64 (t.n), .imm (t.names.map AVal.str), .own 3 0 (rnK (refN F G) t k).length], .arr 5 ((rnK (refN F G) t k).map Ty.enc) 0]) (fun k => k ≤ t.kids.length) (fun k => t.kids.length - k) 0 (by kernel_rfl) (by exact Nat.zero_le _) ⟨⟨(by kernel_rfl), (by kernel_rfl), (by kernel_rfl), (by kernel_rfl), (by kernel_rfl), (by kernel_rfl), trivial⟩, by simp [BelL, AVal.bel], by simp, (by kernel_rfl), by simp [AObj.belO, belL_app, Ty.enc_v]⟩ ?_
 rintro k hk
 have hrl := rnK_len (refN F G) t k
 refine qSeq ?_ ?_
 refine qV 3 ?_ ?_
 refine qy (o_lenmap (l := t.kids) (enc := Ty.enc) (by kernel_rfl) ty23) ?_ ?_ ?_
 refine qR 1 [(1, .imm (F.map (AVal.int .i64))), (2, .imm (G.map (AVal.int .i64))), (3, .ptr 0 0), (6, .ptr 1 0), (7, .ptr 2 0), (8, nI k), (16, .bool (decide (((k : Nat) : Int) < ((t.kids.length : Nat) : Int))))] [t.bx, .box [.int .i64 0, .str [], .int .i64 0, .full [], .full []], .box [.int .i64 (t.kind), .str t.name, .int .i64 (t.n), .imm (t.names.map AVal.str), .own 3 0 (rnK (refN F G) t k).length], .arr 5 ((rnK (refN F G) t k).map Ty.enc) 0] ?_ ?_
 by_cases hb1 : ((k : Nat) : Int) < ((t.kids.length : Nat) : Int)
 refine qt (decide_eq_true hb1) ?_ ?_
 refine qK ?_ ?_
 refine qz [(1, .imm (F.map (AVal.int .i64))), (2, .imm (G.map (AVal.int .i64))), (3, .ptr 0 0), (6, .ptr 1 0), (7, .ptr 2 0), (8, nI k)] ?_ ?_
 refine qSeq ?_ ?_
 refine qB 1 ?_ ?_ ?_
 refine wDrw cxM (by kernel_rfl) (extIn extThen) (dstart ?_)
 refine qu 5 ?_ ?_
 refine qd ((o_ixmap (k := .i64) (l := t.kids) (enc := Ty.enc) (i := ((k : Nat) : Int)) Ty.zero (by kernel_rfl) ty23 ty25 ty_size (by first | omega | exact sz_kid t _ (by omega)) (by first | omega | exact sz_kid t _ (by omega))).trans (congrArg (fun cs => some (AVal.pimm cs 0, _)) (ty_cells (t.kids.getD k Ty.zero)))) ?_ ?_ ?_ ?_
 refine qu 3 ?_ ?_
 refine dcallP (args := [.agg [.int .i64 ((t.kids.getD k Ty.zero).kind), .str (t.kids.getD k Ty.zero).name, .int .i64 ((t.kids.getD k Ty.zero).n), .imm ((t.kids.getD k Ty.zero).names.map AVal.str), .imm ((t.kids.getD k Ty.zero).kids.map Ty.enc)], .imm (F.map (AVal.int .i64)), .imm (G.map (AVal.int .i64))]) (by kernel_rfl) (by kernel_rfl) (by kernel_rfl) (by kernel_rfl) (by kernel_rfl) (ihN (t.kids.getD k Ty.zero) (by first | omega | exact sz_kid t _ (by omega))) (by intro _; simp [Ty.v, frzL_app, Occ.v]) (by simp [Ty.v]) (by simp [Ty.v, ownsL_app]) ?_
 refine qu 1 ?_ ?_
 refine qD (o_appmap (o := 3) (len := ((rnK (refN F G) t k).length)) (l := (rnK (refN F G) t k)) (xs := [(renT (refN F G) (t.kids.getD k Ty.zero))]) (enc := Ty.enc) (sz := 5) (fr := 0) (x := (.full [Ty.v (renT (refN F G) (t.kids.getD k Ty.zero))])) (by kernel_rfl) ty23 ty25 ty23 rfl (by kernel_rfl) rfl (by first | rfl | simp) (Eq.trans (b := some [Ty.v (renT (refN F G) (t.kids.getD k Ty.zero))]) (by kernel_rfl) (by simp [Ty.enc_v])) ⟨by decide, by kernel_rfl⟩ ty_ok (by simp only [List.length_append, List.length_cons, List.length_nil]; omega) (by simp only [List.length_append, List.length_cons, List.length_nil]; omega)) ?_ ?_ ?_ ?_
 refine qu 2 ?_ ?_
 refine dend (by kernel_rfl) ⟨(by kernel_rfl), ?_⟩
 refine AIn_normal ?_
 refine AThen_normal ?_
 refine qZ [(1, .imm (F.map (AVal.int .i64))), (2, .imm (G.map (AVal.int .i64))), (3, .ptr 0 0), (6, .ptr 1 0), (7, .ptr 2 0), (8, nI k)] [t.bx, .box [.int .i64 0, .str [], .int .i64 0, .full [], .full []], .box [.int .i64 (t.kind), .str t.name, .int .i64 (t.n), .imm (t.names.map AVal.str), .own 3 0 ((rnK (refN F G) t k) ++ [(renT (refN F G) (t.kids.getD k Ty.zero))]).length], .arr 5 (((rnK (refN F G) t k) ++ [(renT (refN F G) (t.kids.getD k Ty.zero))]).map Ty.enc) 0] ?_ ?_
 refine qo ?_ ?_
 refine qr 1 ?_ ?_
 refine qy (o_add (a := ((k : Nat) : Int)) (b := 1) (by kernel_rfl) (by first | omega | exact sz_kid t _ (by omega)) (by first | omega | exact sz_kid t _ (by omega))) ?_ ?_ ?_
 refine qr 1 ?_ ?_
 refine qe ?_ ?_
 refine AThen_normal ⟨k + 1, ?_, ?_, ⟨⟨(by kernel_rfl), (by kernel_rfl), (by kernel_rfl), (by kernel_rfl), (by kernel_rfl), (by kernel_rfl), trivial⟩, by simp [BelL, AVal.bel], by simp, (Eq.trans (b := [.box [.int .i64 (t.kind), .str t.name, .int .i64 (t.n), .imm (t.names.map AVal.str), .imm (t.kids.map Ty.enc)], .box [.int .i64 0, .str [], .int .i64 0, .full [], .full []], .box [.int .i64 (t.kind), .str t.name, .int .i64 (t.n), .imm (t.names.map AVal.str), .own 3 0 ((rnK (refN F G) t k) ++ [(renT (refN F G) (t.kids.getD k Ty.zero))]).length], .arr 5 (((rnK (refN F G) t k) ++ [(renT (refN F G) (t.kids.getD k Ty.zero))]).map Ty.enc) 0]) (by kernel_rfl) (by rw [rnK_succ (by omega)])), by simp [AObj.belO, belL_app, Ty.enc_v]⟩⟩
 · omega
 · omega
 iterate 23 kernel_rfl
 refine qf (decide_eq_false hb1) ?_ ?_
 refine wExit 0 (by kernel_rfl) (by kernel_rfl) ?_
 refine AThen_exit ?_
 refine AThen_exit ?_
 refine AIn_exit ?_
 refine AThen_normal ?_
 refine qz [(1, .imm (F.map (AVal.int .i64))), (2, .imm (G.map (AVal.int .i64))), (3, .ptr 0 0), (6, .ptr 1 0), (7, .ptr 2 0)] ?_ ?_
 refine qSeq ?_ ?_
 refine qV 4 ?_ ?_
 by_cases hb2 : (t.kind) = 6
 refine qm [34, 35] (beq_iff_eq.2 hb2) ?_ ?_
 refine qR 9 [(1, .imm (F.map (AVal.int .i64))), (2, .imm (G.map (AVal.int .i64))), (3, .ptr 0 0), (6, .ptr 1 0), (7, .ptr 2 0), (44, .bool true)] [t.bx, .box [.int .i64 0, .str [], .int .i64 0, .full [], .full []], .box [.int .i64 (t.kind), .str t.name, .int .i64 (t.n), .imm (t.names.map AVal.str), .own 3 0 (rnK (refN F G) t k).length], .arr 5 ((rnK (refN F G) t k).map Ty.enc) 0] ?_ ?_
 refine wIfT (by kernel_rfl) (by kernel_rfl) ?_
 refine qU 1 [(1, .imm (F.map (AVal.int .i64))), (2, .imm (G.map (AVal.int .i64))), (3, .ptr 0 0), (6, .ptr 1 0), (7, .ptr 2 0), (9, .int .i64 0)] ?_ ?_
 refine qB 2 ?_ ?_ ?_
 refine wLoop (σ := Nat) (fun j => [(1, .imm (F.map (AVal.int .i64))), (2, .imm (G.map (AVal.int .i64))), (3, .ptr 0 0), (6, .ptr 1 0), (7, .ptr 2 0), (9, .int .i64 ((j : Nat) : Int))]) (fun j => [.box [.int .i64 (t.kind), .str t.name, .int .i64 (t.n), .imm (t.names.map AVal.str), .imm (t.kids.map Ty.enc)], .box [.int .i64 0, .str [], .int .i64 0, .full [], .full []], .box [.int .i64 (t.kind), .str t.name, .int .i64 (t.n), .imm (t.names.map AVal.str), .own 3 0 (rnK (refN F G) t k).length], .arr 5 ((rnK (refN F G) t k).map Ty.enc) 0]) (fun j => j ≤ F.length ∧ ∀ i, i < j → ¬ F.getD i 0 = t.n) (fun j => F.length - j) 0 (by kernel_rfl) (by simp) ⟨⟨(by kernel_rfl), (by kernel_rfl), (by kernel_rfl), (by kernel_rfl), (by kernel_rfl), (by kernel_rfl), trivial⟩, by simp [BelL, AVal.bel], by simp, (by kernel_rfl), by simp [AObj.belO, belL_app, Ty.enc_v]⟩ ?_
 rintro j ⟨hj, ha⟩
 refine qSeq ?_ ?_
 refine qV 2 ?_ ?_
 refine qy (o_lenmap (l := F) (enc := (AVal.int .i64)) (by kernel_rfl) ty26) ?_ ?_ ?_
 refine qR 1 [(1, .imm (F.map (AVal.int .i64))), (2, .imm (G.map (AVal.int .i64))), (3, .ptr 0 0), (6, .ptr 1 0), (7, .ptr 2 0), (9, nI j), (48, .bool (decide (((j : Nat) : Int) < ((F.length : Nat) : Int))))] [t.bx, .box [.int .i64 0, .str [], .int .i64 0, .full [], .full []], .box [.int .i64 (t.kind), .str t.name, .int .i64 (t.n), .imm (t.names.map AVal.str), .own 3 0 (rnK (refN F G) t k).length], .arr 5 ((rnK (refN F G) t k).map Ty.enc) 0] ?_ ?_
 by_cases hb3 : ((j : Nat) : Int) < ((F.length : Nat) : Int)
 refine qt (decide_eq_true hb3) ?_ ?_
 refine qK ?_ ?_
 refine qz [(1, .imm (F.map (AVal.int .i64))), (2, .imm (G.map (AVal.int .i64))), (3, .ptr 0 0), (6, .ptr 1 0), (7, .ptr 2 0), (9, nI j)] ?_ ?_
 refine qSeq ?_ ?_
 refine qB 3 ?_ ?_ ?_
 refine qSeq ?_ ?_
 refine wDrw cxM (by kernel_rfl) extThen (dstart ?_)
 refine qu 2 ?_ ?_
 refine qd (o_ixmap (k := .i64) (l := F) (enc := (AVal.int .i64)) (i := ((j : Nat) : Int)) 0 (by kernel_rfl) ty26 ty3 (fun _ => rfl) (by first | omega | exact sz_kid t _ (by omega)) (by first | omega | exact sz_kid t _ (by omega))) ?_ ?_ ?_ ?_
 refine qu 4 ?_ ?_
 refine dend (by kernel_rfl) ⟨(by kernel_rfl), ?_⟩
 refine AThen_normal ?_
 refine qZ [(1, .imm (F.map (AVal.int .i64))), (2, .imm (G.map (AVal.int .i64))), (3, .ptr 0 0), (6, .ptr 1 0), (7, .ptr 2 0), (9, nI j), (57, .bool (((F.getD j 0)) == (t.n)))] [t.bx, .box [.int .i64 0, .str [], .int .i64 0, .full [], .full []], .box [.int .i64 (t.kind), .str t.name, .int .i64 (t.n), .imm (t.names.map AVal.str), .own 3 0 (rnK (refN F G) t k).length], .arr 5 ((rnK (refN F G) t k).map Ty.enc) 0] ?_ ?_
 by_cases hb4 : ((F.getD j 0)) = (t.n)
 refine qt (beq_iff_eq.2 hb4) ?_ ?_
 refine qV 2 ?_ ?_
 refine qy (o_ixmap (k := .i64) (l := G) (enc := (AVal.int .i64)) (i := ((j : Nat) : Int)) 0 (by kernel_rfl) ty26 ty3 (fun _ => rfl) (by first | omega | exact sz_kid t _ (by omega)) (by first | omega | exact sz_kid t _ (by omega))) ?_ ?_ ?_
 refine qR 3 [(6, .ptr 1 0), (7, .ptr 2 0)] [t.bx, .box [.int .i64 0, .str [], .int .i64 0, .full [], .full []], .box [.int .i64 (t.kind), .str t.name, .int .i64 ((G.getD j 0)), .imm (t.names.map AVal.str), .own 3 0 (rnK (refN F G) t k).length], .arr 5 ((rnK (refN F G) t k).map Ty.enc) 0] ?_ ?_
 refine qW 2 [(6, .ptr 1 0)] [t.bx, .box [.int .i64 (t.kind), .str t.name, .int .i64 ((G.getD j 0)), .imm (t.names.map AVal.str), .own 3 0 (rnK (refN F G) t k).length], .box [.int .i64 (t.kind), .str t.name, .int .i64 ((G.getD j 0)), .imm (t.names.map AVal.str), .own 3 0 (rnK (refN F G) t k).length], .arr 5 ((rnK (refN F G) t k).map Ty.enc) 0] ?_ ?_
 refine wRet (by kernel_rfl) ?_
 apply iR
 apply aR
 apply aR
 apply iR
 apply aR
 refine leafP (l := [.agg [.int .i64 (t.kind), .str t.name, .int .i64 ((G.getD j 0)), .imm (t.names.map AVal.str), .own 3 0 (rnK (refN F G) t k).length]]) (.inr rfl) (by kernel_rfl) ?_
 rotate_left
 iterate 6 kernel_rfl
 refine qf (beq_eq_false_iff_ne.2 hb4) ?_ ?_
 refine qk ?_ ?_
 refine AIn_normal ?_
 refine AThen_normal ?_
 refine qz [(1, .imm (F.map (AVal.int .i64))), (2, .imm (G.map (AVal.int .i64))), (3, .ptr 0 0), (6, .ptr 1 0), (7, .ptr 2 0), (9, nI j)] ?_ ?_
 refine qo ?_ ?_
 refine qr 1 ?_ ?_
 refine qy (o_add (a := ((j : Nat) : Int)) (b := 1) (by kernel_rfl) (by first | omega | exact sz_kid t _ (by omega)) (by first | omega | exact sz_kid t _ (by omega))) ?_ ?_ ?_
 refine qr 1 ?_ ?_
 refine qe ?_ ?_
 refine AThen_normal ⟨j + 1, ?_, ?_, ⟨⟨(by kernel_rfl), (by kernel_rfl), (by kernel_rfl), (by kernel_rfl), (by kernel_rfl), (by kernel_rfl), trivial⟩, by simp [BelL, AVal.bel], by simp, (by kernel_rfl), by simp [AObj.belO, belL_app, Ty.enc_v]⟩⟩
 · omega
 · refine ⟨by omega, fun i hi => ?_⟩
   rcases Nat.lt_succ_iff_lt_or_eq.1 hi with h | h
   · exact ha i h
   · subst h; assumption
 iterate 22 kernel_rfl
 refine qf (decide_eq_false hb3) ?_ ?_
 refine wExit 2 (by kernel_rfl) (by kernel_rfl) ?_
 refine AThen_exit ?_
 refine AThen_exit ?_
 refine AIn_exit ?_
 refine AThen_normal ?_
 refine qz [(6, .ptr 1 0), (7, .ptr 2 0)] ?_ ?_
 refine qW 2 [(6, .ptr 1 0)] [t.bx, .box [.int .i64 (t.kind), .str t.name, .int .i64 (t.n), .imm (t.names.map AVal.str), .own 3 0 (rnK (refN F G) t k).length], .box [.int .i64 (t.kind), .str t.name, .int .i64 (t.n), .imm (t.names.map AVal.str), .own 3 0 (rnK (refN F G) t k).length], .arr 5 ((rnK (refN F G) t k).map Ty.enc) 0] ?_ ?_
 refine wRet (by kernel_rfl) ?_
 refine leafP (l := [.agg [.int .i64 (t.kind), .str t.name, .int .i64 (t.n), .imm (t.names.map AVal.str), .own 3 0 (rnK (refN F G) t k).length]]) (.inr rfl) (by kernel_rfl) ?_
 rotate_left
 iterate 13 kernel_rfl
 refine qm [34, 35] (beq_eq_false_iff_ne.2 hb2) ?_ ?_
 refine qr 4 ?_ ?_
 by_cases hb5 : (t.kind) = 5
 refine qm [38, 39] (beq_iff_eq.2 hb5) ?_ ?_
 refine qR 5 [(1, .imm (F.map (AVal.int .i64))), (2, .imm (G.map (AVal.int .i64))), (3, .ptr 0 0), (6, .ptr 1 0), (7, .ptr 2 0), (44, .bool ((t.n) != 0))] [t.bx, .box [.int .i64 0, .str [], .int .i64 0, .full [], .full []], .box [.int .i64 (t.kind), .str t.name, .int .i64 (t.n), .imm (t.names.map AVal.str), .own 3 0 (rnK (refN F G) t k).length], .arr 5 ((rnK (refN F G) t k).map Ty.enc) 0] ?_ ?_
 by_cases hb6 : (t.n) = 0
 refine qf (x := ((t.n) != 0)) (bne_eq_false_iff_eq.2 hb6) ?_ ?_
 refine qK ?_ ?_
 refine qz [(6, .ptr 1 0), (7, .ptr 2 0)] ?_ ?_
 refine qW 2 [(6, .ptr 1 0)] [t.bx, .box [.int .i64 (t.kind), .str t.name, .int .i64 (t.n), .imm (t.names.map AVal.str), .own 3 0 (rnK (refN F G) t k).length], .box [.int .i64 (t.kind), .str t.name, .int .i64 (t.n), .imm (t.names.map AVal.str), .own 3 0 (rnK (refN F G) t k).length], .arr 5 ((rnK (refN F G) t k).map Ty.enc) 0] ?_ ?_
 refine wRet (by kernel_rfl) ?_
 refine leafP (l := [.agg [.int .i64 (t.kind), .str t.name, .int .i64 (t.n), .imm (t.names.map AVal.str), .own 3 0 (rnK (refN F G) t k).length]]) (.inr rfl) (by kernel_rfl) ?_
 rotate_left
 iterate 4 kernel_rfl
 refine qt (x := ((t.n) != 0)) (bne_iff_ne.2 hb6) ?_ ?_
 refine qU 1 [(1, .imm (F.map (AVal.int .i64))), (2, .imm (G.map (AVal.int .i64))), (3, .ptr 0 0), (6, .ptr 1 0), (7, .ptr 2 0), (9, .int .i64 0)] ?_ ?_
 refine qB 2 ?_ ?_ ?_
 refine wLoop (σ := Nat) (fun j => [(1, .imm (F.map (AVal.int .i64))), (2, .imm (G.map (AVal.int .i64))), (3, .ptr 0 0), (6, .ptr 1 0), (7, .ptr 2 0), (9, .int .i64 ((j : Nat) : Int))]) (fun j => [.box [.int .i64 (t.kind), .str t.name, .int .i64 (t.n), .imm (t.names.map AVal.str), .imm (t.kids.map Ty.enc)], .box [.int .i64 0, .str [], .int .i64 0, .full [], .full []], .box [.int .i64 (t.kind), .str t.name, .int .i64 (t.n), .imm (t.names.map AVal.str), .own 3 0 (rnK (refN F G) t k).length], .arr 5 ((rnK (refN F G) t k).map Ty.enc) 0]) (fun j => j ≤ F.length ∧ ∀ i, i < j → ¬ F.getD i 0 = t.n) (fun j => F.length - j) 0 (by kernel_rfl) (by simp) ⟨⟨(by kernel_rfl), (by kernel_rfl), (by kernel_rfl), (by kernel_rfl), (by kernel_rfl), (by kernel_rfl), trivial⟩, by simp [BelL, AVal.bel], by simp, (by kernel_rfl), by simp [AObj.belO, belL_app, Ty.enc_v]⟩ ?_
 rintro j ⟨hj, ha⟩
 refine qSeq ?_ ?_
 refine qV 2 ?_ ?_
 refine qy (o_lenmap (l := F) (enc := (AVal.int .i64)) (by kernel_rfl) ty26) ?_ ?_ ?_
 refine qR 1 [(1, .imm (F.map (AVal.int .i64))), (2, .imm (G.map (AVal.int .i64))), (3, .ptr 0 0), (6, .ptr 1 0), (7, .ptr 2 0), (9, nI j), (48, .bool (decide (((j : Nat) : Int) < ((F.length : Nat) : Int))))] [t.bx, .box [.int .i64 0, .str [], .int .i64 0, .full [], .full []], .box [.int .i64 (t.kind), .str t.name, .int .i64 (t.n), .imm (t.names.map AVal.str), .own 3 0 (rnK (refN F G) t k).length], .arr 5 ((rnK (refN F G) t k).map Ty.enc) 0] ?_ ?_
 by_cases hb7 : ((j : Nat) : Int) < ((F.length : Nat) : Int)
 refine qt (decide_eq_true hb7) ?_ ?_
 refine qK ?_ ?_
 refine qz [(1, .imm (F.map (AVal.int .i64))), (2, .imm (G.map (AVal.int .i64))), (3, .ptr 0 0), (6, .ptr 1 0), (7, .ptr 2 0), (9, nI j)] ?_ ?_
 refine qSeq ?_ ?_
 refine qB 3 ?_ ?_ ?_
 refine qSeq ?_ ?_
 refine wDrw cxM (by kernel_rfl) extThen (dstart ?_)
 refine qu 2 ?_ ?_
 refine qd (o_ixmap (k := .i64) (l := F) (enc := (AVal.int .i64)) (i := ((j : Nat) : Int)) 0 (by kernel_rfl) ty26 ty3 (fun _ => rfl) (by first | omega | exact sz_kid t _ (by omega)) (by first | omega | exact sz_kid t _ (by omega))) ?_ ?_ ?_ ?_
 refine qu 4 ?_ ?_
 refine dend (by kernel_rfl) ⟨(by kernel_rfl), ?_⟩
 refine AThen_normal ?_
 refine qZ [(1, .imm (F.map (AVal.int .i64))), (2, .imm (G.map (AVal.int .i64))), (3, .ptr 0 0), (6, .ptr 1 0), (7, .ptr 2 0), (9, nI j), (57, .bool (((F.getD j 0)) == (t.n)))] [t.bx, .box [.int .i64 0, .str [], .int .i64 0, .full [], .full []], .box [.int .i64 (t.kind), .str t.name, .int .i64 (t.n), .imm (t.names.map AVal.str), .own 3 0 (rnK (refN F G) t k).length], .arr 5 ((rnK (refN F G) t k).map Ty.enc) 0] ?_ ?_
 by_cases hb8 : ((F.getD j 0)) = (t.n)
 refine qt (beq_iff_eq.2 hb8) ?_ ?_
 refine qV 2 ?_ ?_
 refine qy (o_ixmap (k := .i64) (l := G) (enc := (AVal.int .i64)) (i := ((j : Nat) : Int)) 0 (by kernel_rfl) ty26 ty3 (fun _ => rfl) (by first | omega | exact sz_kid t _ (by omega)) (by first | omega | exact sz_kid t _ (by omega))) ?_ ?_ ?_
 refine qR 3 [(6, .ptr 1 0), (7, .ptr 2 0)] [t.bx, .box [.int .i64 0, .str [], .int .i64 0, .full [], .full []], .box [.int .i64 (t.kind), .str t.name, .int .i64 ((G.getD j 0)), .imm (t.names.map AVal.str), .own 3 0 (rnK (refN F G) t k).length], .arr 5 ((rnK (refN F G) t k).map Ty.enc) 0] ?_ ?_
 refine qW 2 [(6, .ptr 1 0)] [t.bx, .box [.int .i64 (t.kind), .str t.name, .int .i64 ((G.getD j 0)), .imm (t.names.map AVal.str), .own 3 0 (rnK (refN F G) t k).length], .box [.int .i64 (t.kind), .str t.name, .int .i64 ((G.getD j 0)), .imm (t.names.map AVal.str), .own 3 0 (rnK (refN F G) t k).length], .arr 5 ((rnK (refN F G) t k).map Ty.enc) 0] ?_ ?_
 refine wRet (by kernel_rfl) ?_
 apply iR
 apply aR
 apply aR
 apply iR
 apply aR
 refine leafP (l := [.agg [.int .i64 (t.kind), .str t.name, .int .i64 ((G.getD j 0)), .imm (t.names.map AVal.str), .own 3 0 (rnK (refN F G) t k).length]]) (.inr rfl) (by kernel_rfl) ?_
 rotate_left
 iterate 6 kernel_rfl
 refine qf (beq_eq_false_iff_ne.2 hb8) ?_ ?_
 refine qk ?_ ?_
 refine AIn_normal ?_
 refine AThen_normal ?_
 refine qz [(1, .imm (F.map (AVal.int .i64))), (2, .imm (G.map (AVal.int .i64))), (3, .ptr 0 0), (6, .ptr 1 0), (7, .ptr 2 0), (9, nI j)] ?_ ?_
 refine qo ?_ ?_
 refine qr 1 ?_ ?_
 refine qy (o_add (a := ((j : Nat) : Int)) (b := 1) (by kernel_rfl) (by first | omega | exact sz_kid t _ (by omega)) (by first | omega | exact sz_kid t _ (by omega))) ?_ ?_ ?_
 refine qr 1 ?_ ?_
 refine qe ?_ ?_
 refine AThen_normal ⟨j + 1, ?_, ?_, ⟨⟨(by kernel_rfl), (by kernel_rfl), (by kernel_rfl), (by kernel_rfl), (by kernel_rfl), (by kernel_rfl), trivial⟩, by simp [BelL, AVal.bel], by simp, (by kernel_rfl), by simp [AObj.belO, belL_app, Ty.enc_v]⟩⟩
 · omega
 · refine ⟨by omega, fun i hi => ?_⟩
   rcases Nat.lt_succ_iff_lt_or_eq.1 hi with h | h
   · exact ha i h
   · subst h; assumption
 iterate 22 kernel_rfl
 refine qf (decide_eq_false hb7) ?_ ?_
 refine wExit 2 (by kernel_rfl) (by kernel_rfl) ?_
 refine AThen_exit ?_
 refine AThen_exit ?_
 refine AIn_exit ?_
 refine AThen_normal ?_
 refine qz [(6, .ptr 1 0), (7, .ptr 2 0)] ?_ ?_
 refine qW 2 [(6, .ptr 1 0)] [t.bx, .box [.int .i64 (t.kind), .str t.name, .int .i64 (t.n), .imm (t.names.map AVal.str), .own 3 0 (rnK (refN F G) t k).length], .box [.int .i64 (t.kind), .str t.name, .int .i64 (t.n), .imm (t.names.map AVal.str), .own 3 0 (rnK (refN F G) t k).length], .arr 5 ((rnK (refN F G) t k).map Ty.enc) 0] ?_ ?_
 refine wRet (by kernel_rfl) ?_
 refine leafP (l := [.agg [.int .i64 (t.kind), .str t.name, .int .i64 (t.n), .imm (t.names.map AVal.str), .own 3 0 (rnK (refN F G) t k).length]]) (.inr rfl) (by kernel_rfl) ?_
 rotate_left
 iterate 14 kernel_rfl
 refine qm [38, 39] (beq_eq_false_iff_ne.2 hb5) ?_ ?_
 refine qR 5 [(1, .imm (F.map (AVal.int .i64))), (2, .imm (G.map (AVal.int .i64))), (3, .ptr 0 0), (6, .ptr 1 0), (7, .ptr 2 0), (44, .bool false)] [t.bx, .box [.int .i64 0, .str [], .int .i64 0, .full [], .full []], .box [.int .i64 (t.kind), .str t.name, .int .i64 (t.n), .imm (t.names.map AVal.str), .own 3 0 (rnK (refN F G) t k).length], .arr 5 ((rnK (refN F G) t k).map Ty.enc) 0] ?_ ?_
 refine wIfF (by kernel_rfl) (by kernel_rfl) ?_
 refine qK ?_ ?_
 refine qz [(6, .ptr 1 0), (7, .ptr 2 0)] ?_ ?_
 refine qW 2 [(6, .ptr 1 0)] [t.bx, .box [.int .i64 (t.kind), .str t.name, .int .i64 (t.n), .imm (t.names.map AVal.str), .own 3 0 (rnK (refN F G) t k).length], .box [.int .i64 (t.kind), .str t.name, .int .i64 (t.n), .imm (t.names.map AVal.str), .own 3 0 (rnK (refN F G) t k).length], .arr 5 ((rnK (refN F G) t k).map Ty.enc) 0] ?_ ?_
 refine wRet (by kernel_rfl) ?_
 refine leafP (l := [.agg [.int .i64 (t.kind), .str t.name, .int .i64 (t.n), .imm (t.names.map AVal.str), .own 3 0 (rnK (refN F G) t k).length]]) (.inr rfl) (by kernel_rfl) ?_
 rotate_left
 iterate 25 kernel_rfl
 all_goals
  have hkk : t.kids.length ≤ k := by omega
  first | (have hn := refN_n1 (F := F) (G := G) (t := t) (by omega) ha (by omega) hfg (by assumption); rw [rnK_end hkk, hn]; simp [awrap, AVal.frz, frzL, Ty.v, renT_kind, renT_name, renT_names]; done) | (have hn := refN_n2 (F := F) (G := G) (t := t) (fun i hi => ha i (by omega)); rw [rnK_end hkk]; simp [awrap, AVal.frz, frzL, Ty.v, renT_kind, renT_name, renT_names, ← hn]; done) | (have hn := refN_n3 (F := F) (G := G) (t := t) (by omega) (by omega); rw [rnK_end hkk]; simp [awrap, AVal.frz, frzL, Ty.v, renT_kind, renT_name, renT_names, ← hn]; done)
end Go.Proofs.YtdikgijfekfaoaaGreatDoor
