/- Valid of the reference. No condition. -/
import Derived.Test.YtdikgijfekfaoaaGreatDoorT5
import Derived.Test.YtdikgijfekfaoaaGreatDoorAbsc
set_option linter.all false
set_option linter.unusedSimpArgs false
set_option linter.unusedVariables false
namespace Go.Proofs.YtdikgijfekfaoaaGreatDoor
open Go.Proofs.YtdikgijfekfaoaaGreatDoor.Abs
set_option maxRecDepth 20000
set_option maxHeartbeats 4000000
structure Occ where
  n : Int
  row : Bool
  names : List (List UInt8)
def Occ.zero : Occ := ⟨0, false, []⟩
def Occ.v (o : Occ) : AVal := .agg [.int .i64 o.n, .bool o.row, .imm (o.names.map .str)]
@[simp] theorem frz_occ (h : AHeap) (o : Occ) : o.v.frz h = o.v := by simp [Occ.v]
@[simp] theorem bel_occ (k : Nat) (o : Occ) : o.v.bel k = true := by simp [Occ.v]
@[simp] theorem owns_occ (o : Occ) : o.v.owns = [] := by simp [Occ.v]
@[simp] theorem frzL_occs (h : AHeap) (l : List Occ) : frzL h (l.map Occ.v) = l.map Occ.v := frzL_map_same h (fun o => frz_occ h o) l
@[simp] theorem belL_occs (k : Nat) (l : List Occ) : belL k (l.map Occ.v) = true := belL_map k (fun o => bel_occ k o) l
@[simp] theorem ownsL_occs (l : List Occ) : ownsL (l.map Occ.v) = [] := ownsL_map (fun o => owns_occ o) l
theorem frzL_app (h : AHeap) (a b : List AVal) : frzL h (a ++ b) = frzL h a ++ frzL h b := by rw [frzL_map, frzL_map, frzL_map, List.map_append]
theorem belL_app (k : Nat) : ∀ (a b : List AVal), belL k (a ++ b) = (belL k a && belL k b)
  | [], b => by simp [belL]
  | x :: a, b => by simp only [List.cons_append, belL, belL_app k a b, Bool.and_assoc]
theorem ownsL_app : ∀ (a b : List AVal), ownsL (a ++ b) = ownsL a ++ ownsL b
  | [], b => rfl
  | x :: a, b => by simp only [List.cons_append, ownsL, ownsL_app a b, List.append_assoc]
mutual
def occs : Ty → List Occ
  | .mk k _ n l ks => ((if k = 6 then [⟨n, false, []⟩] else []) ++ occsL ks) ++ (if k = 5 ∧ n ≠ 0 then [⟨n, true, l⟩] else [])
def occsL : List Ty → List Occ
  | [] => []
  | t :: l => occs t ++ occsL l
end
def occV (t : Ty) : List Occ := if t.kind = 6 then [⟨t.n, false, []⟩] else []
def occR (t : Ty) : List Occ := if t.kind = 5 ∧ t.n ≠ 0 then [⟨t.n, true, t.names⟩] else []
theorem occs_eq (t : Ty) : occs t = (occV t ++ occsL t.kids) ++ occR t := by cases t; simp only [occs, occV, occR, Ty.kind, Ty.n, Ty.names, Ty.kids]; rfl
theorem occsL_snoc (t : Ty) : ∀ l, occsL (l ++ [t]) = occsL l ++ occs t
  | [] => by simp [occsL]
  | x :: l => by simp only [List.cons_append, occsL, occsL_snoc t l, List.append_assoc]
theorem occsL_take (l : List Ty) (k : Nat) (h : k < l.length) : occsL (l.take (k + 1)) = occsL (l.take k) ++ occs (l.getD k Ty.zero) := by rw [take_snocT l k h, occsL_snoc]
mutual
theorem occs_len : ∀ t : Ty, (occs t).length ≤ t.sz
  | .mk k x n l ks => by
    have := occsL_len ks
    simp only [occs, List.length_append, Ty.sz]
    by_cases h6 : k = 6
    · rw [if_pos h6, if_neg (by omega)]; simp; omega
    · rw [if_neg h6]; split <;> simp <;> omega
theorem occsL_len : ∀ l : List Ty, (occsL l).length ≤ Ty.szL l
  | [] => by simp [occsL]
  | t :: l => by have := occs_len t; have := occsL_len l; simp only [occsL, List.length_append, Ty.szL]; omega
end
mutual
theorem occs_names : ∀ (t : Ty) (o : Occ), o ∈ occs t → o.names.length ≤ t.sz
  | .mk k x n l ks, o, h => by
    simp only [occs, List.mem_append, Ty.sz] at h ⊢
    rcases h with (h | h) | h
    · split at h
      · simp at h; subst h; simp
      · simp at h
    · have := occsL_names ks o h; omega
    · split at h
      · simp at h; subst h; have := szS_len l; simp; omega
      · simp at h
theorem occsL_names : ∀ (l : List Ty) (o : Occ), o ∈ occsL l → o.names.length ≤ Ty.szL l
  | [], o, h => by simp [occsL] at h
  | t :: l, o, h => by
    simp only [occsL, List.mem_append, Ty.szL] at h ⊢
    rcases h with h | h
    · have := occs_names t o h; omega
    · have := occsL_names l o h; omega
end
theorem occ_at (t : Ty) (i : Nat) : ((occs t).getD i Occ.zero).names.length ≤ t.sz := by
  by_cases h : i < (occs t).length
  · rw [List.getD_eq_getElem?_getD, List.getElem?_eq_getElem h]; exact occs_names t _ (List.getElem_mem h)
  · rw [List.getD_eq_getElem?_getD, List.getElem?_eq_none (by omega)]; simp [Occ.zero]
theorem occsL_takelen (t : Ty) (k : Nat) : (occsL (t.kids.take k)).length ≤ Ty.szL t.kids := Nat.le_trans (occsL_len _) (szL_take _ _)
mutual
def whl : Ty → Bool
  | .mk k x n l ks => fmd (.mk k x n l ks) && whlL ks
def whlL : List Ty → Bool
  | [] => true
  | t :: l => whl t && whlL l
end
theorem whl_eq (t : Ty) : whl t = (fmd t && whlL t.kids) := by cases t; rfl
theorem whlL_all : ∀ l, whlL l = l.all whl
  | [] => rfl
  | t :: l => by rw [whlL, whlL_all l, List.all_cons]
theorem whlL_take (l : List Ty) (k : Nat) (h : k < l.length) : whlL (l.take (k + 1)) = (whlL (l.take k) && whl (l.getD k Ty.zero)) := by
  rw [take_snocT l k h, whlL_all, whlL_all, List.all_append]; simp
theorem whlL_stop (l : List Ty) (k : Nat) (h : whlL (l.take k) = false) : whlL l = false := by
  rw [Bool.eq_false_iff] at h ⊢
  rw [whlL_all] at *
  exact fun hc => h (List.all_eq_true.2 fun x hx => List.all_eq_true.1 hc x (List.mem_of_mem_take hx))
noncomputable def c59 : Code := bodyOf Tryz.f59
theorem occs_spec (t : Ty) (hs : t.sz < 100000000) : CallsP cx 59 [Ty.v t] (.imm ((occs t).map Occ.v)) := by
 induction hN : t.sz using Nat.strongRecOn generalizing t with | _ N ih =>
 have ihO : ∀ t' : Ty, t'.sz < t.sz → CallsP cx 59 [t'.v] (.imm ((occs t').map Occ.v)) := fun t' h1 => ih _ (by rw [← hN]; exact h1) t' (Nat.lt_trans h1 hs) rfl
 have hz1 := sz_names t
 have hz2 := sz_kids t
 have hz3 := sz_eq t
 refine func_intro (cx := cx) 46 0 [(ResultVar.tmp 2)] Tryz.func59 rfl rfl rfl rfl rfl (by simp) ?_
 show wpA cx 46 0 (at_ c59 []) _ _ _
 refine qZ [(0, Ty.v t)] [] ?_ ?_
 refine qW 2 [(1, .ptr 0 0)] [t.bx] ?_ ?_
 refine qU 1 [(1, .ptr 0 0), (3, .full [])] ?_ ?_
 refine wOwn 3 3 (by decide) (by kernel_rfl) ?_
 refine qZ [(1, .ptr 0 0), (3, .own 1 0 0)] [t.bx, .arr 3 (([] : List (Occ)).map Occ.v) 0] ?_ ?_
 refine qSeq ?_ ?_
 refine qU 3 [(1, .ptr 0 0), (3, .own 1 0 0), (7, .bool ((t.kind) == 6))] ?_ ?_
 by_cases hb1 : (t.kind) = 6
 refine qt (beq_iff_eq.2 hb1) ?_ ?_
 refine qo ?_ ?_
 refine qr 5 ?_ ?_
 refine qY (o_appmapx (o := 1) (len := 0) (l := ([] : List (Occ))) (xs := [.agg [.int .i64 (t.n), .bool false, .full []]]) (enc := Occ.v) (sz := 3) (fr := 0) (x := (.full [.agg [.int .i64 (t.n), .bool false, .full []]])) (by kernel_rfl) ty77 ty80 ty77 rfl (by kernel_rfl) rfl (by first | rfl | simp) (by kernel_rfl) ⟨by decide, by kernel_rfl⟩ (by kernel_rfl) (by first | (simp; done) | (have := occsL_takelen t k; have := sz_kid t k (by omega); have := occs_len (t.kids.getD k Ty.zero); simp only [List.length_append, List.length_cons, List.length_nil]; omega) | (have := occsL_takelen t k; simp only [List.length_append, List.length_cons, List.length_nil]; omega)) (by first | (simp; done) | (have := occsL_takelen t k; have := sz_kid t k (by omega); have := occs_len (t.kids.getD k Ty.zero); simp only [List.length_append, List.length_cons, List.length_nil]; omega) | (have := occsL_takelen t k; simp only [List.length_append, List.length_cons, List.length_nil]; omega))) ?_ ?_ ?_
 refine qR 1 [(1, .ptr 0 0), (3, .own 1 0 (([] : List (Occ)).length + 1))] [t.bx, .arr 3 (([] : List (Occ)).map Occ.v ++ [.agg [.int .i64 (t.n), .bool false, .full []]]) 0] ?_ ?_
 refine wFrzO 1 (sz := 3) (fr := 0) (es := (([] : List (Occ)).map Occ.v ++ [.agg [.int .i64 (t.n), .bool false, .full []]])) ((([] : List (Occ)) ++ [(Occ.mk (t.n) false [])]).map Occ.v) (by kernel_rfl) (by simp [Ty.v, ownsL_app]) (by simp [Ty.v, frzL_app, Occ.v]) ?_
 refine wset 3 (.own 1 0 (([] : List (Occ)).length + 1)) (.own 1 0 (([] : List (Occ)) ++ [(Occ.mk (t.n) false [])]).length) (by kernel_rfl) (by simp) ?_
 refine qZ [(1, .ptr 0 0), (3, .own 1 0 (([] : List (Occ)) ++ [(Occ.mk (t.n) false [])]).length)] [t.bx, .arr 3 ((([] : List (Occ)) ++ [(Occ.mk (t.n) false [])]).map Occ.v) 0] ?_ ?_
 refine qSeq ?_ ?_
 refine qU 1 [(1, .ptr 0 0), (3, .own 1 0 (([] : List (Occ)) ++ [(Occ.mk (t.n) false [])]).length), (4, .int .i64 0)] ?_ ?_
 refine qB 0 ?_ ?_ ?_
 refine wLoop (σ := Nat) (fun k => [(1, .ptr 0 0), (3, .own 1 0 ((([] : List (Occ)) ++ [(Occ.mk (t.n) false [])]) ++ occsL (t.kids.take k)).length), (4, .int .i64 ((k : Nat) : Int))]) (fun k => [.box [.int .i64 (t.kind), .str t.name, .int .i64 (t.n), .imm (t.names.map AVal.str), .imm (t.kids.map Ty.enc)], .arr 3 (((([] : List (Occ)) ++ [(Occ.mk (t.n) false [])]) ++ occsL (t.kids.take k)).map Occ.v) 0]) (fun k => k ≤ t.kids.length) (fun k => t.kids.length - k) 0 (by kernel_rfl) (by exact Nat.zero_le _) ⟨⟨(by kernel_rfl), (Eq.trans (b := .own 1 0 (([] : List (Occ)) ++ [(Occ.mk (t.n) false [])]).length) (by kernel_rfl) (by simp [occsL])), (by kernel_rfl), trivial⟩, by simp [BelL, AVal.bel], by simp, (Eq.trans (b := [.box [.int .i64 (t.kind), .str t.name, .int .i64 (t.n), .imm (t.names.map AVal.str), .imm (t.kids.map Ty.enc)], .arr 3 ((([] : List (Occ)) ++ [(Occ.mk (t.n) false [])]).map Occ.v) 0]) (by kernel_rfl) (by simp [occsL])), by simp [AObj.belO, -List.map_append]⟩ ?_
 rintro k hk
 refine qSeq ?_ ?_
 refine qV 3 ?_ ?_
 refine qy (o_lenmap (l := t.kids) (enc := Ty.enc) (by kernel_rfl) ty23) ?_ ?_ ?_
 refine qR 1 [(1, .ptr 0 0), (3, .own 1 0 ((([] : List (Occ)) ++ [(Occ.mk (t.n) false [])]) ++ occsL (t.kids.take k)).length), (4, nI k), (18, .bool (decide (((k : Nat) : Int) < ((t.kids.length : Nat) : Int))))] [t.bx, .arr 3 (((([] : List (Occ)) ++ [(Occ.mk (t.n) false [])]) ++ occsL (t.kids.take k)).map Occ.v) 0] ?_ ?_
 by_cases hb2 : ((k : Nat) : Int) < ((t.kids.length : Nat) : Int)
 refine qt (decide_eq_true hb2) ?_ ?_
 refine qK ?_ ?_
 refine qz [(1, .ptr 0 0), (3, .own 1 0 ((([] : List (Occ)) ++ [(Occ.mk (t.n) false [])]) ++ occsL (t.kids.take k)).length), (4, nI k)] ?_ ?_
 refine qSeq ?_ ?_
 refine qB 1 ?_ ?_ ?_
 refine qo ?_ ?_
 refine qr 4 ?_ ?_
 refine qy ((o_ixmap (k := .i64) (l := t.kids) (enc := Ty.enc) (i := ((k : Nat) : Int)) Ty.zero (by kernel_rfl) ty23 ty25 ty_size (by first | omega | exact sz_kid t k (by omega)) (by first | omega | exact sz_kid t k (by omega))).trans (congrArg (fun cs => some (AVal.pimm cs 0, _)) (ty_cells (t.kids.getD k Ty.zero)))) ?_ ?_ ?_
 refine qr 1 ?_ ?_
 refine vcallP (args := [.agg [.int .i64 ((t.kids.getD k Ty.zero).kind), .str (t.kids.getD k Ty.zero).name, .int .i64 ((t.kids.getD k Ty.zero).n), .imm ((t.kids.getD k Ty.zero).names.map AVal.str), .imm ((t.kids.getD k Ty.zero).kids.map Ty.enc)]]) (by kernel_rfl) (by kernel_rfl) (by kernel_rfl) (by kernel_rfl) (ihO (t.kids.getD k Ty.zero) (by first | omega | exact sz_kid t k (by omega))) (by simp [Ty.v, frzL_app, Occ.v]) (by simp [Ty.v]) (by simp [Ty.v, ownsL_app]) ?_
 refine qY (o_appmap (o := 1) (len := (((([] : List (Occ)) ++ [(Occ.mk (t.n) false [])]) ++ occsL (t.kids.take k)).length)) (l := ((([] : List (Occ)) ++ [(Occ.mk (t.n) false [])]) ++ occsL (t.kids.take k))) (xs := (occs (t.kids.getD k Ty.zero))) (enc := Occ.v) (sz := 3) (fr := 0) (x := (.imm ((occs (t.kids.getD k Ty.zero)).map Occ.v))) (by kernel_rfl) ty77 ty80 ty77 rfl (by kernel_rfl) rfl (by first | rfl | simp) (by kernel_rfl) ⟨by decide, by kernel_rfl⟩ (fun _ => rfl) (by first | (simp; done) | (have := occsL_takelen t k; have := sz_kid t k (by omega); have := occs_len (t.kids.getD k Ty.zero); simp only [List.length_append, List.length_cons, List.length_nil]; omega) | (have := occsL_takelen t k; simp only [List.length_append, List.length_cons, List.length_nil]; omega)) (by first | (simp; done) | (have := occsL_takelen t k; have := sz_kid t k (by omega); have := occs_len (t.kids.getD k Ty.zero); simp only [List.length_append, List.length_cons, List.length_nil]; omega) | (have := occsL_takelen t k; simp only [List.length_append, List.length_cons, List.length_nil]; omega))) ?_ ?_ ?_
 refine qr 1 ?_ ?_
 refine qe ?_ ?_
 refine AIn_normal ?_
 refine AThen_normal ?_
 refine qZ [(1, .ptr 0 0), (3, .own 1 0 (((([] : List (Occ)) ++ [(Occ.mk (t.n) false [])]) ++ occsL (t.kids.take k)) ++ (occs (t.kids.getD k Ty.zero))).length), (4, nI k)] [t.bx, .arr 3 ((((([] : List (Occ)) ++ [(Occ.mk (t.n) false [])]) ++ occsL (t.kids.take k)) ++ (occs (t.kids.getD k Ty.zero))).map Occ.v) 0] ?_ ?_
 refine qo ?_ ?_
 refine qr 1 ?_ ?_
 refine qy (o_add (a := ((k : Nat) : Int)) (b := 1) (by kernel_rfl) (by first | omega | exact sz_kid t k (by omega)) (by first | omega | exact sz_kid t k (by omega))) ?_ ?_ ?_
 refine qr 1 ?_ ?_
 refine qe ?_ ?_
 refine AThen_normal ⟨k + 1, ?_, ?_, ⟨⟨(by kernel_rfl), (Eq.trans (b := .own 1 0 (((([] : List (Occ)) ++ [(Occ.mk (t.n) false [])]) ++ occsL (t.kids.take k)) ++ (occs (t.kids.getD k Ty.zero))).length) (by kernel_rfl) (by rw [occsL_take _ _ (by omega), List.append_assoc])), (by kernel_rfl), trivial⟩, by simp [BelL, AVal.bel], by simp, (Eq.trans (b := [.box [.int .i64 (t.kind), .str t.name, .int .i64 (t.n), .imm (t.names.map AVal.str), .imm (t.kids.map Ty.enc)], .arr 3 ((((([] : List (Occ)) ++ [(Occ.mk (t.n) false [])]) ++ occsL (t.kids.take k)) ++ (occs (t.kids.getD k Ty.zero))).map Occ.v) 0]) (by kernel_rfl) (by rw [occsL_take _ _ (by omega), List.append_assoc])), by simp [AObj.belO, -List.map_append]⟩⟩
 · omega
 · omega
 iterate 22 kernel_rfl
 refine qf (decide_eq_false hb2) ?_ ?_
 refine wExit 0 (by kernel_rfl) (by kernel_rfl) ?_
 refine AThen_exit ?_
 refine AThen_exit ?_
 refine AIn_exit ?_
 refine AThen_normal ?_
 refine qz [(1, .ptr 0 0), (3, .own 1 0 ((([] : List (Occ)) ++ [(Occ.mk (t.n) false [])]) ++ occsL (t.kids.take k)).length)] ?_ ?_
 refine qSeq ?_ ?_
 refine qV 4 ?_ ?_
 by_cases hb3 : (t.kind) = 5
 refine qm [31, 32] (beq_iff_eq.2 hb3) ?_ ?_
 refine qR 4 [(1, .ptr 0 0), (3, .own 1 0 ((([] : List (Occ)) ++ [(Occ.mk (t.n) false [])]) ++ occsL (t.kids.take k)).length), (36, .bool ((t.n) != 0))] [t.bx, .arr 3 (((([] : List (Occ)) ++ [(Occ.mk (t.n) false [])]) ++ occsL (t.kids.take k)).map Occ.v) 0] ?_ ?_
 by_cases hb4 : (t.n) = 0
 refine qf (x := ((t.n) != 0)) (bne_eq_false_iff_eq.2 hb4) ?_ ?_
 refine qK ?_ ?_
 refine qz [(3, .own 1 0 ((([] : List (Occ)) ++ [(Occ.mk (t.n) false [])]) ++ occsL (t.kids.take k)).length)] ?_ ?_
 refine qU 2 [(2, .own 1 0 ((([] : List (Occ)) ++ [(Occ.mk (t.n) false [])]) ++ occsL (t.kids.take k)).length)] ?_ ?_
 refine wRet (by kernel_rfl) ?_
 refine leafP (l := [.own 1 0 ((([] : List (Occ)) ++ [(Occ.mk (t.n) false [])]) ++ occsL (t.kids.take k)).length]) (.inr rfl) (by kernel_rfl) ?_
 rotate_left
 iterate 4 kernel_rfl
 refine qt (x := ((t.n) != 0)) (bne_iff_ne.2 hb4) ?_ ?_
 refine qo ?_ ?_
 refine qr 7 ?_ ?_
 refine qY (o_appmap (o := 1) (len := (((([] : List (Occ)) ++ [(Occ.mk (t.n) false [])]) ++ occsL (t.kids.take k)).length)) (l := ((([] : List (Occ)) ++ [(Occ.mk (t.n) false [])]) ++ occsL (t.kids.take k))) (xs := [(Occ.mk (t.n) true t.names)]) (enc := Occ.v) (sz := 3) (fr := 0) (x := (.full [.agg [.int .i64 (t.n), .bool true, .imm (t.names.map AVal.str)]])) (by kernel_rfl) ty77 ty80 ty77 rfl (by kernel_rfl) rfl (by first | rfl | simp) (by kernel_rfl) ⟨by decide, by kernel_rfl⟩ (fun _ => rfl) (by first | (simp; done) | (have := occsL_takelen t k; have := sz_kid t k (by omega); have := occs_len (t.kids.getD k Ty.zero); simp only [List.length_append, List.length_cons, List.length_nil]; omega) | (have := occsL_takelen t k; simp only [List.length_append, List.length_cons, List.length_nil]; omega)) (by first | (simp; done) | (have := occsL_takelen t k; have := sz_kid t k (by omega); have := occs_len (t.kids.getD k Ty.zero); simp only [List.length_append, List.length_cons, List.length_nil]; omega) | (have := occsL_takelen t k; simp only [List.length_append, List.length_cons, List.length_nil]; omega))) ?_ ?_ ?_
 refine qR 1 [(3, .own 1 0 (((([] : List (Occ)) ++ [(Occ.mk (t.n) false [])]) ++ occsL (t.kids.take k)) ++ [(Occ.mk (t.n) true t.names)]).length)] [t.bx, .arr 3 ((((([] : List (Occ)) ++ [(Occ.mk (t.n) false [])]) ++ occsL (t.kids.take k)) ++ [(Occ.mk (t.n) true t.names)]).map Occ.v) 0] ?_ ?_
 refine qU 2 [(2, .own 1 0 (((([] : List (Occ)) ++ [(Occ.mk (t.n) false [])]) ++ occsL (t.kids.take k)) ++ [(Occ.mk (t.n) true t.names)]).length)] ?_ ?_
 refine wRet (by kernel_rfl) ?_
 refine leafP (l := [.own 1 0 (((([] : List (Occ)) ++ [(Occ.mk (t.n) false [])]) ++ occsL (t.kids.take k)) ++ [(Occ.mk (t.n) true t.names)]).length]) (.inr rfl) (by kernel_rfl) ?_
 rotate_left
 iterate 9 kernel_rfl
 refine qm [31, 32] (beq_eq_false_iff_ne.2 hb3) ?_ ?_
 refine qR 4 [(1, .ptr 0 0), (3, .own 1 0 ((([] : List (Occ)) ++ [(Occ.mk (t.n) false [])]) ++ occsL (t.kids.take k)).length), (36, .bool false)] [t.bx, .arr 3 (((([] : List (Occ)) ++ [(Occ.mk (t.n) false [])]) ++ occsL (t.kids.take k)).map Occ.v) 0] ?_ ?_
 refine wIfF (by kernel_rfl) (by kernel_rfl) ?_
 refine qK ?_ ?_
 refine qz [(3, .own 1 0 ((([] : List (Occ)) ++ [(Occ.mk (t.n) false [])]) ++ occsL (t.kids.take k)).length)] ?_ ?_
 refine qU 2 [(2, .own 1 0 ((([] : List (Occ)) ++ [(Occ.mk (t.n) false [])]) ++ occsL (t.kids.take k)).length)] ?_ ?_
 refine wRet (by kernel_rfl) ?_
 refine leafP (l := [.own 1 0 ((([] : List (Occ)) ++ [(Occ.mk (t.n) false [])]) ++ occsL (t.kids.take k)).length]) (.inr rfl) (by kernel_rfl) ?_
 rotate_left
 iterate 25 kernel_rfl
 refine qf (beq_eq_false_iff_ne.2 hb1) ?_ ?_
 refine qK ?_ ?_
 refine qz [(1, .ptr 0 0), (3, .own 1 0 0)] ?_ ?_
 refine qSeq ?_ ?_
 refine qU 1 [(1, .ptr 0 0), (3, .own 1 0 0), (4, .int .i64 0)] ?_ ?_
 refine qB 0 ?_ ?_ ?_
 refine wLoop (σ := Nat) (fun k => [(1, .ptr 0 0), (3, .own 1 0 (([] : List (Occ)) ++ occsL (t.kids.take k)).length), (4, .int .i64 ((k : Nat) : Int))]) (fun k => [.box [.int .i64 (t.kind), .str t.name, .int .i64 (t.n), .imm (t.names.map AVal.str), .imm (t.kids.map Ty.enc)], .arr 3 ((([] : List (Occ)) ++ occsL (t.kids.take k)).map Occ.v) 0]) (fun k => k ≤ t.kids.length) (fun k => t.kids.length - k) 0 (by kernel_rfl) (by exact Nat.zero_le _) ⟨⟨(by kernel_rfl), (Eq.trans (b := .own 1 0 0) (by kernel_rfl) (by simp [occsL])), (by kernel_rfl), trivial⟩, by simp [BelL, AVal.bel], by simp, (Eq.trans (b := [.box [.int .i64 (t.kind), .str t.name, .int .i64 (t.n), .imm (t.names.map AVal.str), .imm (t.kids.map Ty.enc)], .arr 3 (([] : List (Occ)).map Occ.v) 0]) (by kernel_rfl) (by simp [occsL])), by simp [AObj.belO, -List.map_append]⟩ ?_
 rintro k hk
 refine qSeq ?_ ?_
 refine qV 3 ?_ ?_
 refine qy (o_lenmap (l := t.kids) (enc := Ty.enc) (by kernel_rfl) ty23) ?_ ?_ ?_
 refine qR 1 [(1, .ptr 0 0), (3, .own 1 0 (([] : List (Occ)) ++ occsL (t.kids.take k)).length), (4, nI k), (18, .bool (decide (((k : Nat) : Int) < ((t.kids.length : Nat) : Int))))] [t.bx, .arr 3 ((([] : List (Occ)) ++ occsL (t.kids.take k)).map Occ.v) 0] ?_ ?_
 by_cases hb5 : ((k : Nat) : Int) < ((t.kids.length : Nat) : Int)
 refine qt (decide_eq_true hb5) ?_ ?_
 refine qK ?_ ?_
 refine qz [(1, .ptr 0 0), (3, .own 1 0 (([] : List (Occ)) ++ occsL (t.kids.take k)).length), (4, nI k)] ?_ ?_
 refine qSeq ?_ ?_
 refine qB 1 ?_ ?_ ?_
 refine qo ?_ ?_
 refine qr 4 ?_ ?_
 refine qy ((o_ixmap (k := .i64) (l := t.kids) (enc := Ty.enc) (i := ((k : Nat) : Int)) Ty.zero (by kernel_rfl) ty23 ty25 ty_size (by first | omega | exact sz_kid t k (by omega)) (by first | omega | exact sz_kid t k (by omega))).trans (congrArg (fun cs => some (AVal.pimm cs 0, _)) (ty_cells (t.kids.getD k Ty.zero)))) ?_ ?_ ?_
 refine qr 1 ?_ ?_
 refine vcallP (args := [.agg [.int .i64 ((t.kids.getD k Ty.zero).kind), .str (t.kids.getD k Ty.zero).name, .int .i64 ((t.kids.getD k Ty.zero).n), .imm ((t.kids.getD k Ty.zero).names.map AVal.str), .imm ((t.kids.getD k Ty.zero).kids.map Ty.enc)]]) (by kernel_rfl) (by kernel_rfl) (by kernel_rfl) (by kernel_rfl) (ihO (t.kids.getD k Ty.zero) (by first | omega | exact sz_kid t k (by omega))) (by simp [Ty.v, frzL_app, Occ.v]) (by simp [Ty.v]) (by simp [Ty.v, ownsL_app]) ?_
 refine qY (o_appmap (o := 1) (len := ((([] : List (Occ)) ++ occsL (t.kids.take k)).length)) (l := (([] : List (Occ)) ++ occsL (t.kids.take k))) (xs := (occs (t.kids.getD k Ty.zero))) (enc := Occ.v) (sz := 3) (fr := 0) (x := (.imm ((occs (t.kids.getD k Ty.zero)).map Occ.v))) (by kernel_rfl) ty77 ty80 ty77 rfl (by kernel_rfl) rfl (by first | rfl | simp) (by kernel_rfl) ⟨by decide, by kernel_rfl⟩ (fun _ => rfl) (by first | (simp; done) | (have := occsL_takelen t k; have := sz_kid t k (by omega); have := occs_len (t.kids.getD k Ty.zero); simp only [List.length_append, List.length_cons, List.length_nil]; omega) | (have := occsL_takelen t k; simp only [List.length_append, List.length_cons, List.length_nil]; omega)) (by first | (simp; done) | (have := occsL_takelen t k; have := sz_kid t k (by omega); have := occs_len (t.kids.getD k Ty.zero); simp only [List.length_append, List.length_cons, List.length_nil]; omega) | (have := occsL_takelen t k; simp only [List.length_append, List.length_cons, List.length_nil]; omega))) ?_ ?_ ?_
 refine qr 1 ?_ ?_
 refine qe ?_ ?_
 refine AIn_normal ?_
 refine AThen_normal ?_
 refine qZ [(1, .ptr 0 0), (3, .own 1 0 ((([] : List (Occ)) ++ occsL (t.kids.take k)) ++ (occs (t.kids.getD k Ty.zero))).length), (4, nI k)] [t.bx, .arr 3 (((([] : List (Occ)) ++ occsL (t.kids.take k)) ++ (occs (t.kids.getD k Ty.zero))).map Occ.v) 0] ?_ ?_
 refine qo ?_ ?_
 refine qr 1 ?_ ?_
 refine qy (o_add (a := ((k : Nat) : Int)) (b := 1) (by kernel_rfl) (by first | omega | exact sz_kid t k (by omega)) (by first | omega | exact sz_kid t k (by omega))) ?_ ?_ ?_
 refine qr 1 ?_ ?_
 refine qe ?_ ?_
 refine AThen_normal ⟨k + 1, ?_, ?_, ⟨⟨(by kernel_rfl), (Eq.trans (b := .own 1 0 ((([] : List (Occ)) ++ occsL (t.kids.take k)) ++ (occs (t.kids.getD k Ty.zero))).length) (by kernel_rfl) (by rw [occsL_take _ _ (by omega), List.append_assoc])), (by kernel_rfl), trivial⟩, by simp [BelL, AVal.bel], by simp, (Eq.trans (b := [.box [.int .i64 (t.kind), .str t.name, .int .i64 (t.n), .imm (t.names.map AVal.str), .imm (t.kids.map Ty.enc)], .arr 3 (((([] : List (Occ)) ++ occsL (t.kids.take k)) ++ (occs (t.kids.getD k Ty.zero))).map Occ.v) 0]) (by kernel_rfl) (by rw [occsL_take _ _ (by omega), List.append_assoc])), by simp [AObj.belO, -List.map_append]⟩⟩
 · omega
 · omega
 iterate 22 kernel_rfl
 refine qf (decide_eq_false hb5) ?_ ?_
 refine wExit 0 (by kernel_rfl) (by kernel_rfl) ?_
 refine AThen_exit ?_
 refine AThen_exit ?_
 refine AIn_exit ?_
 refine AThen_normal ?_
 refine qz [(1, .ptr 0 0), (3, .own 1 0 (([] : List (Occ)) ++ occsL (t.kids.take k)).length)] ?_ ?_
 refine qSeq ?_ ?_
 refine qV 4 ?_ ?_
 by_cases hb6 : (t.kind) = 5
 refine qm [31, 32] (beq_iff_eq.2 hb6) ?_ ?_
 refine qR 4 [(1, .ptr 0 0), (3, .own 1 0 (([] : List (Occ)) ++ occsL (t.kids.take k)).length), (36, .bool ((t.n) != 0))] [t.bx, .arr 3 ((([] : List (Occ)) ++ occsL (t.kids.take k)).map Occ.v) 0] ?_ ?_
 by_cases hb7 : (t.n) = 0
 refine qf (x := ((t.n) != 0)) (bne_eq_false_iff_eq.2 hb7) ?_ ?_
 refine qK ?_ ?_
 refine qz [(3, .own 1 0 (([] : List (Occ)) ++ occsL (t.kids.take k)).length)] ?_ ?_
 refine qU 2 [(2, .own 1 0 (([] : List (Occ)) ++ occsL (t.kids.take k)).length)] ?_ ?_
 refine wRet (by kernel_rfl) ?_
 refine leafP (l := [.own 1 0 (([] : List (Occ)) ++ occsL (t.kids.take k)).length]) (.inr rfl) (by kernel_rfl) ?_
 rotate_left
 iterate 4 kernel_rfl
 refine qt (x := ((t.n) != 0)) (bne_iff_ne.2 hb7) ?_ ?_
 refine qo ?_ ?_
 refine qr 7 ?_ ?_
 refine qY (o_appmap (o := 1) (len := ((([] : List (Occ)) ++ occsL (t.kids.take k)).length)) (l := (([] : List (Occ)) ++ occsL (t.kids.take k))) (xs := [(Occ.mk (t.n) true t.names)]) (enc := Occ.v) (sz := 3) (fr := 0) (x := (.full [.agg [.int .i64 (t.n), .bool true, .imm (t.names.map AVal.str)]])) (by kernel_rfl) ty77 ty80 ty77 rfl (by kernel_rfl) rfl (by first | rfl | simp) (by kernel_rfl) ⟨by decide, by kernel_rfl⟩ (fun _ => rfl) (by first | (simp; done) | (have := occsL_takelen t k; have := sz_kid t k (by omega); have := occs_len (t.kids.getD k Ty.zero); simp only [List.length_append, List.length_cons, List.length_nil]; omega) | (have := occsL_takelen t k; simp only [List.length_append, List.length_cons, List.length_nil]; omega)) (by first | (simp; done) | (have := occsL_takelen t k; have := sz_kid t k (by omega); have := occs_len (t.kids.getD k Ty.zero); simp only [List.length_append, List.length_cons, List.length_nil]; omega) | (have := occsL_takelen t k; simp only [List.length_append, List.length_cons, List.length_nil]; omega))) ?_ ?_ ?_
 refine qR 1 [(3, .own 1 0 ((([] : List (Occ)) ++ occsL (t.kids.take k)) ++ [(Occ.mk (t.n) true t.names)]).length)] [t.bx, .arr 3 (((([] : List (Occ)) ++ occsL (t.kids.take k)) ++ [(Occ.mk (t.n) true t.names)]).map Occ.v) 0] ?_ ?_
 refine qU 2 [(2, .own 1 0 ((([] : List (Occ)) ++ occsL (t.kids.take k)) ++ [(Occ.mk (t.n) true t.names)]).length)] ?_ ?_
 refine wRet (by kernel_rfl) ?_
 refine leafP (l := [.own 1 0 ((([] : List (Occ)) ++ occsL (t.kids.take k)) ++ [(Occ.mk (t.n) true t.names)]).length]) (.inr rfl) (by kernel_rfl) ?_
 rotate_left
 iterate 9 kernel_rfl
 refine qm [31, 32] (beq_eq_false_iff_ne.2 hb6) ?_ ?_
 refine qR 4 [(1, .ptr 0 0), (3, .own 1 0 (([] : List (Occ)) ++ occsL (t.kids.take k)).length), (36, .bool false)] [t.bx, .arr 3 ((([] : List (Occ)) ++ occsL (t.kids.take k)).map Occ.v) 0] ?_ ?_
 refine wIfF (by kernel_rfl) (by kernel_rfl) ?_
 refine qK ?_ ?_
 refine qz [(3, .own 1 0 (([] : List (Occ)) ++ occsL (t.kids.take k)).length)] ?_ ?_
 refine qU 2 [(2, .own 1 0 (([] : List (Occ)) ++ occsL (t.kids.take k)).length)] ?_ ?_
 refine wRet (by kernel_rfl) ?_
 refine leafP (l := [.own 1 0 (([] : List (Occ)) ++ occsL (t.kids.take k)).length]) (.inr rfl) (by kernel_rfl) ?_
 rotate_left
 iterate 27 kernel_rfl
 all_goals
  first | (exfalso; omega) | (have hk2 : t.kids.take k = t.kids := List.take_of_length_le (by omega); rw [occs_eq, hk2]; simp [occV, occR, awrap, AVal.frz, belL_app, *]; done)
noncomputable def c58 : Code := bodyOf Tryz.f58
theorem whole_spec (t : Ty) (hs : t.sz < 100000000) : CallsP cx 58 [Ty.v t] (.bool (whl t)) := by
 induction hN : t.sz using Nat.strongRecOn generalizing t with | _ N ih =>
 have ihW : ∀ t' : Ty, t'.sz < t.sz → CallsP cx 58 [t'.v] (.bool (whl t')) := fun t' h1 => ih _ (by rw [← hN]; exact h1) t' (Nat.lt_trans h1 hs) rfl
 have hz1 := sz_names t
 have hz2 := sz_kids t
 have hz3 := sz_eq t
 refine func_intro (cx := cx) 24 0 [(ResultVar.tmp 2)] Tryz.func58 rfl rfl rfl rfl rfl (by simp) ?_
 show wpA cx 24 0 (at_ c58 []) _ _ _
 refine qZ [(0, Ty.v t)] [] ?_ ?_
 refine qW 2 [(1, .ptr 0 0)] [t.bx] ?_ ?_
 refine qV 1 ?_ ?_
 refine vcallP (args := [.agg [.int .i64 (t.kind), .str t.name, .int .i64 (t.n), .imm (t.names.map AVal.str), .imm (t.kids.map Ty.enc)]]) (by kernel_rfl) (by kernel_rfl) (by kernel_rfl) (by kernel_rfl) (rformed_spec t (by first | omega | exact sz_kid t k (by omega))) (by simp [Ty.v, frzL_app, Occ.v]) (by simp [Ty.v]) (by simp [Ty.v, ownsL_app]) ?_
 refine qR 1 [(1, .ptr 0 0), (3, .bool (fmd t))] [t.bx] ?_ ?_
 refine qSeq ?_ ?_
 refine qU 1 [(1, .ptr 0 0), (3, .bool (fmd t)), (4, .int .i64 0)] ?_ ?_
 refine qB 0 ?_ ?_ ?_
 refine wLoop (σ := Nat) (fun k => [(1, .ptr 0 0), (3, .bool (fmd t && whlL (t.kids.take k))), (4, .int .i64 ((k : Nat) : Int))]) (fun k => [.box [.int .i64 (t.kind), .str t.name, .int .i64 (t.n), .imm (t.names.map AVal.str), .imm (t.kids.map Ty.enc)]]) (fun k => k ≤ t.kids.length) (fun k => t.kids.length - k) 0 (by kernel_rfl) (by exact Nat.zero_le _) ⟨⟨(by kernel_rfl), (Eq.trans (b := .bool (fmd t)) (by kernel_rfl) (by simp [whlL])), (by kernel_rfl), trivial⟩, by simp [BelL, AVal.bel], by simp, (by kernel_rfl), by simp [AObj.belO]⟩ ?_
 rintro k hk
 refine qSeq ?_ ?_
 refine qV 3 ?_ ?_
 refine qy (o_lenmap (l := t.kids) (enc := Ty.enc) (by kernel_rfl) ty23) ?_ ?_ ?_
 refine qr 2 ?_ ?_
 by_cases hb1 : ((k : Nat) : Int) < ((t.kids.length : Nat) : Int)
 refine qm [11, 12] (decide_eq_true hb1) ?_ ?_
 refine qR 2 [(1, .ptr 0 0), (3, .bool (fmd t && whlL (t.kids.take k))), (4, nI k), (13, .bool (fmd t && whlL (t.kids.take k))), (14, .bool (fmd t && whlL (t.kids.take k)))] [t.bx] ?_ ?_
 by_cases hb2 : (fmd t && whlL (t.kids.take k)) = true
 refine qt (hb2) ?_ ?_
 refine qK ?_ ?_
 refine qz [(1, .ptr 0 0), (4, nI k), (13, .bool (fmd t && whlL (t.kids.take k)))] ?_ ?_
 refine qSeq ?_ ?_
 refine qB 1 ?_ ?_ ?_
 refine qo ?_ ?_
 refine qr 3 ?_ ?_
 refine qy ((o_ixmap (k := .i64) (l := t.kids) (enc := Ty.enc) (i := ((k : Nat) : Int)) Ty.zero (by kernel_rfl) ty23 ty25 ty_size (by first | omega | exact sz_kid t k (by omega)) (by first | omega | exact sz_kid t k (by omega))).trans (congrArg (fun cs => some (AVal.pimm cs 0, _)) (ty_cells (t.kids.getD k Ty.zero)))) ?_ ?_ ?_
 refine qr 1 ?_ ?_
 refine vcallP (args := [.agg [.int .i64 ((t.kids.getD k Ty.zero).kind), .str (t.kids.getD k Ty.zero).name, .int .i64 ((t.kids.getD k Ty.zero).n), .imm ((t.kids.getD k Ty.zero).names.map AVal.str), .imm ((t.kids.getD k Ty.zero).kids.map Ty.enc)]]) (by kernel_rfl) (by kernel_rfl) (by kernel_rfl) (by kernel_rfl) (ihW (t.kids.getD k Ty.zero) (by first | omega | exact sz_kid t k (by omega))) (by simp [Ty.v, frzL_app, Occ.v]) (by simp [Ty.v]) (by simp [Ty.v, ownsL_app]) ?_
 refine qr 1 ?_ ?_
 refine qe ?_ ?_
 refine AIn_normal ?_
 refine AThen_normal ?_
 refine qZ [(1, .ptr 0 0), (3, .bool (whl (t.kids.getD k Ty.zero))), (4, nI k), (13, .bool (fmd t && whlL (t.kids.take k)))] [t.bx] ?_ ?_
 refine qo ?_ ?_
 refine qr 1 ?_ ?_
 refine qy (o_add (a := ((k : Nat) : Int)) (b := 1) (by kernel_rfl) (by first | omega | exact sz_kid t k (by omega)) (by first | omega | exact sz_kid t k (by omega))) ?_ ?_ ?_
 refine qr 1 ?_ ?_
 refine qe ?_ ?_
 refine AThen_normal ⟨k + 1, ?_, ?_, ⟨⟨(by kernel_rfl), (Eq.trans (b := .bool (whl (t.kids.getD k Ty.zero))) (by kernel_rfl) (by rw [whlL_take _ _ (by omega), ← Bool.and_assoc, (by assumption : (fmd t && whlL (t.kids.take k)) = true)]; rfl)), (by kernel_rfl), trivial⟩, by simp [BelL, AVal.bel], by simp, (by kernel_rfl), by simp [AObj.belO]⟩⟩
 · omega
 · omega
 iterate 20 kernel_rfl
 refine qf (Bool.eq_false_iff.2 hb2) ?_ ?_
 refine wExit 0 (by kernel_rfl) (by kernel_rfl) ?_
 refine AThen_exit ?_
 refine AThen_exit ?_
 refine AIn_exit ?_
 refine AThen_normal ?_
 refine qz [(3, .bool (fmd t && whlL (t.kids.take k)))] ?_ ?_
 refine qV 2 ?_ ?_
 refine qT ?_ ?_
 refine leafB (b := (fmd t && whlL (t.kids.take k))) (.inr rfl) (by kernel_rfl) ?_
 rotate_left
 iterate 6 kernel_rfl
 refine qm [11, 12] (decide_eq_false hb1) ?_ ?_
 refine qR 2 [(1, .ptr 0 0), (3, .bool (fmd t && whlL (t.kids.take k))), (4, nI k), (13, .tup []), (14, .bool false)] [t.bx] ?_ ?_
 refine wIfF (by kernel_rfl) (by kernel_rfl) ?_
 refine wExit 0 (by kernel_rfl) (by kernel_rfl) ?_
 refine AThen_exit ?_
 refine AThen_exit ?_
 refine AIn_exit ?_
 refine AThen_normal ?_
 refine qz [(3, .bool (fmd t && whlL (t.kids.take k)))] ?_ ?_
 refine qV 2 ?_ ?_
 refine qT ?_ ?_
 refine leafB (b := (fmd t && whlL (t.kids.take k))) (.inr rfl) (by kernel_rfl) ?_
 rotate_left
 iterate 18 kernel_rfl
 all_goals
  rw [whl_eq]
  first | (rw [List.take_of_length_le (by omega)]; done) | (have hx := Bool.eq_false_iff.2 (by assumption : ¬ (fmd t && whlL (t.kids.take k)) = true); rw [hx]; cases hf : fmd t with | false => rfl | true => (rw [hf] at hx; rw [whlL_stop t.kids k hx]; rfl))
def occBad (l : List Occ) (i k : Nat) : Bool := ((l.getD i Occ.zero).n == (l.getD k Occ.zero).n) && ((l.getD i Occ.zero).row != (l.getD k Occ.zero).row || !((l.getD i Occ.zero).names == (l.getD k Occ.zero).names))
theorem ob_n {l : List Occ} {i k : Nat} (h : ¬ (l.getD i Occ.zero).n = (l.getD k Occ.zero).n) : occBad l i k = false := by rw [occBad, beq_eq_false_iff_ne.2 h]; rfl
theorem ob_r {l : List Occ} {i k : Nat} (h : (l.getD i Occ.zero).n = (l.getD k Occ.zero).n) (h2 : (!((l.getD i Occ.zero).row == (l.getD k Occ.zero).row)) = true) : occBad l i k = true := by rw [occBad, beq_iff_eq.2 h, bne, h2]; rfl
theorem ob_m {l : List Occ} {i k : Nat} (h : (l.getD i Occ.zero).n = (l.getD k Occ.zero).n) (h2 : ¬ ((l.getD i Occ.zero).names == (l.getD k Occ.zero).names) = true) : occBad l i k = true := by rw [occBad, beq_iff_eq.2 h, Bool.eq_false_iff.2 h2]; simp
theorem ob_f {l : List Occ} {i k : Nat} (h : (l.getD i Occ.zero).n = (l.getD k Occ.zero).n) (h1 : ¬ (!((l.getD i Occ.zero).row == (l.getD k Occ.zero).row)) = true) (h2 : ((l.getD i Occ.zero).names == (l.getD k Occ.zero).names) = true) : occBad l i k = false := by rw [occBad, bne, Bool.eq_false_iff.2 h1, h2]; simp
def occOk (l : List Occ) : Bool := (List.range l.length).all fun i => (List.range i).all fun k => !(occBad l i k)
def rvalidB (t : Ty) : Bool := whl t && occOk (occs t)
theorem occOk_true {l : List Occ} (h : ∀ i, i < l.length → ∀ k, k < i → occBad l i k = false) : occOk l = true := by
  unfold occOk; simp only [List.all_eq_true, List.mem_range, Bool.not_eq_true']; exact h
theorem occOk_false {l : List Occ} {i k : Nat} (hi : i < l.length) (hk : k < i) (h : occBad l i k = true) : occOk l = false := by
  rw [Bool.eq_false_iff]; intro hc; unfold occOk at hc; simp only [List.all_eq_true, List.mem_range, Bool.not_eq_true'] at hc
  rw [hc i hi k hk] at h; cases h
noncomputable def c15 : Code := bodyOf Tryz.f15
theorem rvalid_spec (t : Ty) (hs : t.sz < 100000000) : CallsP cx 15 [Ty.v t] (.bool (rvalidB t)) := by
 have hz4 := occs_len t
 have hoa := occ_at t
 refine func_intro (cx := cx) 66 0 [(ResultVar.tmp 2)] Tryz.func15 rfl rfl rfl rfl rfl (by simp) ?_
 show wpA cx 66 0 (at_ c15 []) _ _ _
 refine qZ [(0, Ty.v t)] [] ?_ ?_
 refine qW 2 [(1, .ptr 0 0)] [t.bx] ?_ ?_
 refine qV 1 ?_ ?_
 refine vcallP (args := [.agg [.int .i64 (t.kind), .str t.name, .int .i64 (t.n), .imm (t.names.map AVal.str), .imm (t.kids.map Ty.enc)]]) (by kernel_rfl) (by kernel_rfl) (by kernel_rfl) (by kernel_rfl) (whole_spec t (by first | omega | exact Nat.lt_of_le_of_lt (hoa _) (by omega))) (by simp [Ty.v, frzL_app, Occ.v]) (by simp [Ty.v]) (by simp [Ty.v, ownsL_app]) ?_
 refine qR 1 [(1, .ptr 0 0), (3, .bool (whl t))] [t.bx] ?_ ?_
 refine qV 1 ?_ ?_
 refine vcallP (args := [.agg [.int .i64 (t.kind), .str t.name, .int .i64 (t.n), .imm (t.names.map AVal.str), .imm (t.kids.map Ty.enc)]]) (by kernel_rfl) (by kernel_rfl) (by kernel_rfl) (by kernel_rfl) (occs_spec t (by first | omega | exact Nat.lt_of_le_of_lt (hoa _) (by omega))) (by simp [Ty.v, frzL_app, Occ.v]) (by simp [Ty.v]) (by simp [Ty.v, ownsL_app]) ?_
 refine qR 1 [(3, .bool (whl t)), (4, .imm ((occs t).map Occ.v))] [t.bx] ?_ ?_
 refine qSeq ?_ ?_
 refine qU 1 [(3, .bool (whl t)), (4, .imm ((occs t).map Occ.v)), (5, .int .i64 0)] ?_ ?_
 refine qB 0 ?_ ?_ ?_
 refine wLoop (σ := Nat) (fun i => [(3, .bool (whl t)), (4, .imm ((occs t).map Occ.v)), (5, .int .i64 ((i : Nat) : Int))]) (fun i => [.box [.int .i64 (t.kind), .str t.name, .int .i64 (t.n), .imm (t.names.map AVal.str), .imm (t.kids.map Ty.enc)]]) (fun i => i ≤ (occs t).length ∧ ∀ j, j < i → ∀ k, k < j → occBad (occs t) j k = false) (fun i => (occs t).length - i) 0 (by kernel_rfl) (by simp) ⟨⟨(by kernel_rfl), (by kernel_rfl), (by kernel_rfl), trivial⟩, by simp [BelL, AVal.bel], by simp, (by kernel_rfl), by simp [AObj.belO]⟩ ?_
 rintro i ⟨hi, ha⟩
 refine qSeq ?_ ?_
 refine qV 2 ?_ ?_
 refine qy (o_lenmap (l := (occs t)) (enc := Occ.v) (by kernel_rfl) ty77) ?_ ?_ ?_
 refine qr 2 ?_ ?_
 by_cases hb1 : ((i : Nat) : Int) < (((occs t).length : Nat) : Int)
 refine qm [15, 16] (decide_eq_true hb1) ?_ ?_
 refine qR 2 [(3, .bool (whl t)), (4, .imm ((occs t).map Occ.v)), (5, nI i), (17, .bool (whl t)), (18, .bool (whl t))] [t.bx] ?_ ?_
 by_cases hb2 : (whl t) = true
 refine qt (hb2) ?_ ?_
 refine qK ?_ ?_
 refine qz [(3, .bool (whl t)), (4, .imm ((occs t).map Occ.v)), (5, nI i), (17, .bool (whl t))] ?_ ?_
 refine qSeq ?_ ?_
 refine qB 1 ?_ ?_ ?_
 refine qU 1 [(3, .bool (whl t)), (4, .imm ((occs t).map Occ.v)), (5, nI i), (6, .int .i64 0), (17, .bool (whl t))] ?_ ?_
 refine qB 2 ?_ ?_ ?_
 refine wLoop (σ := Nat) (fun k => [(3, .bool (whl t)), (4, .imm ((occs t).map Occ.v)), (5, .int .i64 ((i : Nat) : Int)), (6, .int .i64 ((k : Nat) : Int)), (17, .bool (whl t))]) (fun k => [.box [.int .i64 (t.kind), .str t.name, .int .i64 (t.n), .imm (t.names.map AVal.str), .imm (t.kids.map Ty.enc)]]) (fun k => k ≤ i ∧ ∀ q, q < k → occBad (occs t) i q = false) (fun k => i - k) 0 (by kernel_rfl) (by simp) ⟨⟨(by kernel_rfl), (by kernel_rfl), (by kernel_rfl), (by kernel_rfl), (by kernel_rfl), trivial⟩, by simp [BelL, AVal.bel], by simp, (by kernel_rfl), by simp [AObj.belO]⟩ ?_
 rintro k ⟨hk, hb⟩
 refine qSeq ?_ ?_
 refine qW 3 [(3, .bool (whl t)), (4, .imm ((occs t).map Occ.v)), (5, nI i), (6, nI k), (17, .bool (whl t)), (23, .bool (decide (((k : Nat) : Int) < ((i : Nat) : Int))))] [t.bx] ?_ ?_
 by_cases hb3 : ((k : Nat) : Int) < ((i : Nat) : Int)
 refine qt (decide_eq_true hb3) ?_ ?_
 refine qK ?_ ?_
 refine qz [(3, .bool (whl t)), (4, .imm ((occs t).map Occ.v)), (5, nI i), (6, nI k), (17, .bool (whl t))] ?_ ?_
 refine qSeq ?_ ?_
 refine qB 3 ?_ ?_ ?_
 refine qSeq ?_ ?_
 refine wDrw cxM (by kernel_rfl) extThen (dstart ?_)
 refine qu 2 ?_ ?_
 refine qd (o_ixmap (k := .i64) (l := (occs t)) (enc := Occ.v) (i := ((i : Nat) : Int)) Occ.zero (by kernel_rfl) ty77 ty80 (fun _ => rfl) (by first | omega | exact Nat.lt_of_le_of_lt (hoa _) (by omega)) (by first | omega | exact Nat.lt_of_le_of_lt (hoa _) (by omega))) ?_ ?_ ?_ ?_
 refine qu 4 ?_ ?_
 refine qd (o_ixmap (k := .i64) (l := (occs t)) (enc := Occ.v) (i := ((k : Nat) : Int)) Occ.zero (by kernel_rfl) ty77 ty80 (fun _ => rfl) (by first | omega | exact Nat.lt_of_le_of_lt (hoa _) (by omega)) (by first | omega | exact Nat.lt_of_le_of_lt (hoa _) (by omega))) ?_ ?_ ?_ ?_
 refine qu 2 ?_ ?_
 refine dcallP (args := [.imm (((occs t).getD i Occ.zero).names.map AVal.str), .imm (((occs t).getD k Occ.zero).names.map AVal.str)]) (by kernel_rfl) (by kernel_rfl) (by kernel_rfl) (by kernel_rfl) (by kernel_rfl) (sameTexts_spec (((occs t).getD i Occ.zero).names) (((occs t).getD k Occ.zero).names) (by first | omega | exact Nat.lt_of_le_of_lt (hoa _) (by omega))) (by intro _; simp [Ty.v, frzL_app, Occ.v]) (by simp [Ty.v]) (by simp [Ty.v, ownsL_app]) ?_
 refine qu 1 ?_ ?_
 refine dend (by kernel_rfl) ⟨(by kernel_rfl), ?_⟩
 refine AThen_normal ?_
 refine qZ [(3, .bool (whl t)), (4, .imm ((occs t).map Occ.v)), (5, nI i), (6, nI k), (7, .bool ((((occs t).getD i Occ.zero).names) == (((occs t).getD k Occ.zero).names))), (17, .bool (whl t))] [t.bx] ?_ ?_
 refine qSeq ?_ ?_
 refine wDrw cxM (by kernel_rfl) extThen (dstart ?_)
 refine qu 2 ?_ ?_
 refine qd (o_ixmap (k := .i64) (l := (occs t)) (enc := Occ.v) (i := ((i : Nat) : Int)) Occ.zero (by kernel_rfl) ty77 ty80 (fun _ => rfl) (by first | omega | exact Nat.lt_of_le_of_lt (hoa _) (by omega)) (by first | omega | exact Nat.lt_of_le_of_lt (hoa _) (by omega))) ?_ ?_ ?_ ?_
 refine qu 4 ?_ ?_
 refine qd (o_ixmap (k := .i64) (l := (occs t)) (enc := Occ.v) (i := ((k : Nat) : Int)) Occ.zero (by kernel_rfl) ty77 ty80 (fun _ => rfl) (by first | omega | exact Nat.lt_of_le_of_lt (hoa _) (by omega)) (by first | omega | exact Nat.lt_of_le_of_lt (hoa _) (by omega))) ?_ ?_ ?_ ?_
 refine qu 4 ?_ ?_
 by_cases hb4 : (((occs t).getD i Occ.zero).n) = (((occs t).getD k Occ.zero).n)
 refine dset 47 (.bool ((((occs t).getD i Occ.zero).n) == (((occs t).getD k Occ.zero).n))) (.bool true) (extD extThen) (by kernel_rfl) (congrArg AVal.bool (beq_iff_eq.2 hb4)) ?_
 refine dset 48 (.bool ((((occs t).getD i Occ.zero).n) == (((occs t).getD k Occ.zero).n))) (.bool true) (extD extThen) (by kernel_rfl) (congrArg AVal.bool (beq_iff_eq.2 hb4)) ?_
 refine qu 2 ?_ ?_
 refine qd (o_ixmap (k := .i64) (l := (occs t)) (enc := Occ.v) (i := ((i : Nat) : Int)) Occ.zero (by kernel_rfl) ty77 ty80 (fun _ => rfl) (by first | omega | exact Nat.lt_of_le_of_lt (hoa _) (by omega)) (by first | omega | exact Nat.lt_of_le_of_lt (hoa _) (by omega))) ?_ ?_ ?_ ?_
 refine qu 4 ?_ ?_
 refine qd (o_ixmap (k := .i64) (l := (occs t)) (enc := Occ.v) (i := ((k : Nat) : Int)) Occ.zero (by kernel_rfl) ty77 ty80 (fun _ => rfl) (by first | omega | exact Nat.lt_of_le_of_lt (hoa _) (by omega)) (by first | omega | exact Nat.lt_of_le_of_lt (hoa _) (by omega))) ?_ ?_ ?_ ?_
 refine qu 4 ?_ ?_
 by_cases hb5 : (!((((occs t).getD i Occ.zero).row) == (((occs t).getD k Occ.zero).row))) = true
 refine dset 59 (.bool (!((((occs t).getD i Occ.zero).row) == (((occs t).getD k Occ.zero).row)))) (.bool true) (extD extThen) (by kernel_rfl) (congrArg AVal.bool (hb5)) ?_
 refine dset 60 (.bool (!((((occs t).getD i Occ.zero).row) == (((occs t).getD k Occ.zero).row)))) (.bool true) (extD extThen) (by kernel_rfl) (congrArg AVal.bool (hb5)) ?_
 refine qu 4 ?_ ?_
 refine dend (by kernel_rfl) ⟨(by kernel_rfl), ?_⟩
 refine AThen_normal ?_
 refine qZ [(3, .bool (whl t)), (4, .imm ((occs t).map Occ.v)), (5, nI i), (6, nI k), (17, .bool (whl t)), (49, .imm ((occs t).map Occ.v)), (50, nI i), (51, .pimm [.int .i64 (((occs t).getD i Occ.zero).n), .bool (((occs t).getD i Occ.zero).row), .imm (((occs t).getD i Occ.zero).names.map AVal.str)] 0), (52, .pimm [.int .i64 (((occs t).getD i Occ.zero).n), .bool (((occs t).getD i Occ.zero).row), .imm (((occs t).getD i Occ.zero).names.map AVal.str)] 1), (53, .bool (((occs t).getD i Occ.zero).row)), (54, .imm ((occs t).map Occ.v)), (55, nI k), (56, .pimm [.int .i64 (((occs t).getD k Occ.zero).n), .bool (((occs t).getD k Occ.zero).row), .imm (((occs t).getD k Occ.zero).names.map AVal.str)] 0), (57, .pimm [.int .i64 (((occs t).getD k Occ.zero).n), .bool (((occs t).getD k Occ.zero).row), .imm (((occs t).getD k Occ.zero).names.map AVal.str)] 1), (58, .bool (((occs t).getD k Occ.zero).row)), (59, .bool true), (60, .bool true), (61, .tup []), (62, .tup []), (63, .bool true), (64, .bool true)] [t.bx] ?_ ?_
 refine wIfT (by kernel_rfl) (by kernel_rfl) ?_
 refine qV 1 ?_ ?_
 refine qT ?_ ?_
 apply iR
 apply aR
 apply aR
 apply iR
 apply iR
 apply aR
 apply aR
 apply iR
 apply aR
 refine leafB (b := false) (.inr rfl) (by kernel_rfl) ?_
 rotate_left
 iterate 4 kernel_rfl
 refine dset 59 (.bool (!((((occs t).getD i Occ.zero).row) == (((occs t).getD k Occ.zero).row)))) (.bool false) (extD extThen) (by kernel_rfl) (congrArg AVal.bool (Bool.eq_false_iff.2 hb5)) ?_
 refine dset 60 (.bool (!((((occs t).getD i Occ.zero).row) == (((occs t).getD k Occ.zero).row)))) (.bool false) (extD extThen) (by kernel_rfl) (congrArg AVal.bool (Bool.eq_false_iff.2 hb5)) ?_
 refine qu 4 ?_ ?_
 refine dend (by kernel_rfl) ⟨(by kernel_rfl), ?_⟩
 refine AThen_normal ?_
 refine qZ [(3, .bool (whl t)), (4, .imm ((occs t).map Occ.v)), (5, nI i), (6, nI k), (17, .bool (whl t)), (49, .imm ((occs t).map Occ.v)), (50, nI i), (51, .pimm [.int .i64 (((occs t).getD i Occ.zero).n), .bool (((occs t).getD i Occ.zero).row), .imm (((occs t).getD i Occ.zero).names.map AVal.str)] 0), (52, .pimm [.int .i64 (((occs t).getD i Occ.zero).n), .bool (((occs t).getD i Occ.zero).row), .imm (((occs t).getD i Occ.zero).names.map AVal.str)] 1), (53, .bool (((occs t).getD i Occ.zero).row)), (54, .imm ((occs t).map Occ.v)), (55, nI k), (56, .pimm [.int .i64 (((occs t).getD k Occ.zero).n), .bool (((occs t).getD k Occ.zero).row), .imm (((occs t).getD k Occ.zero).names.map AVal.str)] 0), (57, .pimm [.int .i64 (((occs t).getD k Occ.zero).n), .bool (((occs t).getD k Occ.zero).row), .imm (((occs t).getD k Occ.zero).names.map AVal.str)] 1), (58, .bool (((occs t).getD k Occ.zero).row)), (59, .bool false), (60, .bool false), (61, .bool ((((occs t).getD i Occ.zero).names) == (((occs t).getD k Occ.zero).names))), (62, .bool (!((((occs t).getD i Occ.zero).names) == (((occs t).getD k Occ.zero).names)))), (63, .bool (!((((occs t).getD i Occ.zero).names) == (((occs t).getD k Occ.zero).names)))), (64, .bool (!((((occs t).getD i Occ.zero).names) == (((occs t).getD k Occ.zero).names))))] [t.bx] ?_ ?_
 by_cases hb6 : ((((occs t).getD i Occ.zero).names) == (((occs t).getD k Occ.zero).names)) = true
 refine qf (x := (!((((occs t).getD i Occ.zero).names) == (((occs t).getD k Occ.zero).names)))) (congrArg not (hb6)) ?_ ?_
 refine qk ?_ ?_
 refine AIn_normal ?_
 refine AThen_normal ?_
 refine qz [(3, .bool (whl t)), (4, .imm ((occs t).map Occ.v)), (5, nI i), (6, nI k), (17, .bool (whl t)), (49, .imm ((occs t).map Occ.v)), (50, nI i), (51, .pimm [.int .i64 (((occs t).getD i Occ.zero).n), .bool (((occs t).getD i Occ.zero).row), .imm (((occs t).getD i Occ.zero).names.map AVal.str)] 0), (52, .pimm [.int .i64 (((occs t).getD i Occ.zero).n), .bool (((occs t).getD i Occ.zero).row), .imm (((occs t).getD i Occ.zero).names.map AVal.str)] 1), (53, .bool (((occs t).getD i Occ.zero).row)), (54, .imm ((occs t).map Occ.v)), (55, nI k), (56, .pimm [.int .i64 (((occs t).getD k Occ.zero).n), .bool (((occs t).getD k Occ.zero).row), .imm (((occs t).getD k Occ.zero).names.map AVal.str)] 0), (57, .pimm [.int .i64 (((occs t).getD k Occ.zero).n), .bool (((occs t).getD k Occ.zero).row), .imm (((occs t).getD k Occ.zero).names.map AVal.str)] 1), (58, .bool (((occs t).getD k Occ.zero).row)), (59, .bool false), (60, .bool false), (61, .bool ((((occs t).getD i Occ.zero).names) == (((occs t).getD k Occ.zero).names))), (62, .bool (!((((occs t).getD i Occ.zero).names) == (((occs t).getD k Occ.zero).names)))), (63, .bool (!((((occs t).getD i Occ.zero).names) == (((occs t).getD k Occ.zero).names))))] ?_ ?_
 refine qo ?_ ?_
 refine qr 1 ?_ ?_
 refine qy (o_add (a := ((k : Nat) : Int)) (b := 1) (by kernel_rfl) (by first | omega | exact Nat.lt_of_le_of_lt (hoa _) (by omega)) (by first | omega | exact Nat.lt_of_le_of_lt (hoa _) (by omega))) ?_ ?_ ?_
 refine qr 1 ?_ ?_
 refine qe ?_ ?_
 refine AThen_normal ⟨k + 1, ?_, ?_, ⟨⟨(by kernel_rfl), (by kernel_rfl), (by kernel_rfl), (by kernel_rfl), (by kernel_rfl), trivial⟩, by simp [BelL, AVal.bel], by simp, (by kernel_rfl), by simp [AObj.belO]⟩⟩
 · omega
 · refine ⟨by omega, fun q hq => ?_⟩
   rcases Nat.lt_succ_iff_lt_or_eq.1 hq with h | h
   · exact hb q h
   · subst h; first | exact ob_n (by assumption) | exact ob_r (by assumption) (by assumption) | exact ob_m (by assumption) (by assumption) | exact ob_f (by assumption) (by assumption) (by assumption)
 iterate 9 kernel_rfl
 refine qt (x := (!((((occs t).getD i Occ.zero).names) == (((occs t).getD k Occ.zero).names)))) (congrArg not (Bool.eq_false_iff.2 hb6)) ?_ ?_
 refine qV 1 ?_ ?_
 refine qT ?_ ?_
 apply iR
 apply aR
 apply aR
 apply iR
 apply iR
 apply aR
 apply aR
 apply iR
 apply aR
 refine leafB (b := false) (.inr rfl) (by kernel_rfl) ?_
 rotate_left
 iterate 14 kernel_rfl
 refine dset 47 (.bool ((((occs t).getD i Occ.zero).n) == (((occs t).getD k Occ.zero).n))) (.bool false) (extD extThen) (by kernel_rfl) (congrArg AVal.bool (beq_eq_false_iff_ne.2 hb4)) ?_
 refine dset 48 (.bool ((((occs t).getD i Occ.zero).n) == (((occs t).getD k Occ.zero).n))) (.bool false) (extD extThen) (by kernel_rfl) (congrArg AVal.bool (beq_eq_false_iff_ne.2 hb4)) ?_
 refine qu 16 ?_ ?_
 refine dend (by kernel_rfl) ⟨(by kernel_rfl), ?_⟩
 refine AThen_normal ?_
 refine qZ [(3, .bool (whl t)), (4, .imm ((occs t).map Occ.v)), (5, nI i), (6, nI k), (17, .bool (whl t)), (49, .tup []), (50, .tup []), (51, .tup []), (52, .tup []), (53, .tup []), (54, .tup []), (55, .tup []), (56, .tup []), (57, .tup []), (58, .tup []), (59, .tup []), (60, .tup []), (61, .tup []), (62, .tup []), (63, .tup []), (64, .bool false)] [t.bx] ?_ ?_
 refine wIfF (by kernel_rfl) (by kernel_rfl) ?_
 refine qk ?_ ?_
 refine AIn_normal ?_
 refine AThen_normal ?_
 refine qz [(3, .bool (whl t)), (4, .imm ((occs t).map Occ.v)), (5, nI i), (6, nI k), (17, .bool (whl t)), (49, .tup []), (50, .tup []), (51, .tup []), (52, .tup []), (53, .tup []), (54, .tup []), (55, .tup []), (56, .tup []), (57, .tup []), (58, .tup []), (59, .tup []), (60, .tup []), (61, .tup []), (62, .tup []), (63, .tup [])] ?_ ?_
 refine qo ?_ ?_
 refine qr 1 ?_ ?_
 refine qy (o_add (a := ((k : Nat) : Int)) (b := 1) (by kernel_rfl) (by first | omega | exact Nat.lt_of_le_of_lt (hoa _) (by omega)) (by first | omega | exact Nat.lt_of_le_of_lt (hoa _) (by omega))) ?_ ?_ ?_
 refine qr 1 ?_ ?_
 refine qe ?_ ?_
 refine AThen_normal ⟨k + 1, ?_, ?_, ⟨⟨(by kernel_rfl), (by kernel_rfl), (by kernel_rfl), (by kernel_rfl), (by kernel_rfl), trivial⟩, by simp [BelL, AVal.bel], by simp, (by kernel_rfl), by simp [AObj.belO]⟩⟩
 · omega
 · refine ⟨by omega, fun q hq => ?_⟩
   rcases Nat.lt_succ_iff_lt_or_eq.1 hq with h | h
   · exact hb q h
   · subst h; first | exact ob_n (by assumption) | exact ob_r (by assumption) (by assumption) | exact ob_m (by assumption) (by assumption) | exact ob_f (by assumption) (by assumption) (by assumption)
 iterate 38 kernel_rfl
 refine qf (decide_eq_false hb3) ?_ ?_
 refine wExit 2 (by kernel_rfl) (by kernel_rfl) ?_
 refine AThen_exit ?_
 refine AThen_exit ?_
 refine AIn_exit ?_
 refine AIn_normal ?_
 refine AThen_normal ?_
 refine qz [(3, .bool (whl t)), (4, .imm ((occs t).map Occ.v)), (5, nI i), (17, .bool (whl t))] ?_ ?_
 refine qo ?_ ?_
 refine qr 1 ?_ ?_
 refine qy (o_add (a := ((i : Nat) : Int)) (b := 1) (by kernel_rfl) (by first | omega | exact Nat.lt_of_le_of_lt (hoa _) (by omega)) (by first | omega | exact Nat.lt_of_le_of_lt (hoa _) (by omega))) ?_ ?_ ?_
 refine qr 1 ?_ ?_
 refine qe ?_ ?_
 refine AThen_normal ⟨i + 1, ?_, ?_, ⟨⟨(by kernel_rfl), (by kernel_rfl), (by kernel_rfl), trivial⟩, by simp [BelL, AVal.bel], by simp, (by kernel_rfl), by simp [AObj.belO]⟩⟩
 · omega
 · refine ⟨by omega, fun j hj => ?_⟩
   rcases Nat.lt_succ_iff_lt_or_eq.1 hj with h | h
   · exact ha j h
   · subst h; exact fun q hq => hb q (by omega)
 iterate 19 kernel_rfl
 refine qf (Bool.eq_false_iff.2 hb2) ?_ ?_
 refine wExit 0 (by kernel_rfl) (by kernel_rfl) ?_
 refine AThen_exit ?_
 refine AThen_exit ?_
 refine AIn_exit ?_
 refine AThen_normal ?_
 refine qz [(3, .bool (whl t))] ?_ ?_
 refine qV 2 ?_ ?_
 refine qT ?_ ?_
 refine leafB (b := (whl t)) (.inr rfl) (by kernel_rfl) ?_
 rotate_left
 iterate 6 kernel_rfl
 refine qm [15, 16] (decide_eq_false hb1) ?_ ?_
 refine qR 2 [(3, .bool (whl t)), (4, .imm ((occs t).map Occ.v)), (5, nI i), (17, .tup []), (18, .bool false)] [t.bx] ?_ ?_
 refine wIfF (by kernel_rfl) (by kernel_rfl) ?_
 refine wExit 0 (by kernel_rfl) (by kernel_rfl) ?_
 refine AThen_exit ?_
 refine AThen_exit ?_
 refine AIn_exit ?_
 refine AThen_normal ?_
 refine qz [(3, .bool (whl t))] ?_ ?_
 refine qV 2 ?_ ?_
 refine qT ?_ ?_
 refine leafB (b := (whl t)) (.inr rfl) (by kernel_rfl) ?_
 rotate_left
 iterate 20 kernel_rfl
 all_goals
  rw [rvalidB]
  first | (rw [occOk_false (i := i) (k := k) (by omega) (by omega) (by first | exact ob_n (by assumption) | exact ob_r (by assumption) (by assumption) | exact ob_m (by assumption) (by assumption) | exact ob_f (by assumption) (by assumption) (by assumption)), Bool.and_false]; done) | (rw [occOk_true (fun j hj => ha j (by omega)), Bool.and_true]; done) | (rw [Bool.eq_false_iff.2 (by assumption : ¬ whl t = true)]; rfl)
end Go.Proofs.YtdikgijfekfaoaaGreatDoor
