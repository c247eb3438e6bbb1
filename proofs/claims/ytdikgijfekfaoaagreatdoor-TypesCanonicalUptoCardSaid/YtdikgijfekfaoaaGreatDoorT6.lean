/- Valid of the reference. No condition. -/
import Derived.Test.YtdikgijfekfaoaaGreatDoorT5
import Derived.Test.YtdikgijfekfaoaaGreatDoorAbsc
set_option linter.all false
set_option linter.unusedSimpArgs false
set_option linter.unusedVariables false
namespace Go.Proofs.YtdikgijfekfaoaaGreatDoor
open Go.Proofs.YtdikgijfekfaoaaGreatDoor.Abs
set_option maxRecDepth 20000
set_option maxHeartbeats 4000000
structure Occ where
  n : Int
  row : Bool
  names : List (List UInt8)
def Occ.zero : Occ := ⟨0, false, []⟩
def Occ.v (o : Occ) : AVal := .agg [.int .i64 o.n, .bool o.row, .imm (o.names.map .str)]
@[simp] theorem frz_occ (h : AHeap) (o : Occ) : o.v.frz h = o.v := by simp [Occ.v]
@[simp] theorem bel_occ (k : Nat) (o : Occ) : o.v.bel k = true := by simp [Occ.v]
@[simp] theorem owns_occ (o : Occ) : o.v.owns = [] := by simp [Occ.v]
@[simp] theorem frzL_occs (h : AHeap) (l : List Occ) : frzL h (l.map Occ.v) = l.map Occ.v := frzL_map_same h (fun o => frz_occ h o) l
@[simp] theorem belL_occs (k : Nat) (l : List Occ) : belL k (l.map Occ.v) = true := belL_map k (fun o => bel_occ k o) l
@[simp] theorem ownsL_occs (l : List Occ) : ownsL (l.map Occ.v) = [] := ownsL_map (fun o => owns_occ o) l
theorem frzL_app (h : AHeap) (a b : List AVal) : frzL h (a ++ b) = frzL h a ++ frzL h b := by rw [frzL_map, frzL_map, frzL_map, List.map_append]
theorem belL_app (k : Nat) : ∀ (a b : List AVal), belL k (a ++ b) = (belL k a && belL k b)
  | [], b => by simp [belL]
  | x :: a, b => by simp only [List.cons_append, belL, belL_app k a b, Bool.and_assoc]
theorem ownsL_app : ∀ (a b : List AVal), ownsL (a ++ b) = ownsL a ++ ownsL b
  | [], b => rfl
  | x :: a, b => by simp only [List.cons_append, ownsL, ownsL_app a b, List.append_assoc]
mutual
def occs : Ty → List Occ
  | .mk k _ n l ks => ((if k = 6 then [⟨n, false, []⟩] else []) ++ occsL ks) ++ (if k = 5 ∧ n ≠ 0 then [⟨n, true, l⟩] else [])
def occsL : List Ty → List Occ
  | [] => []
  | t :: l => occs t ++ occsL l
end
def occV (t : Ty) : List Occ := if t.kind = 6 then [⟨t.n, false, []⟩] else []
def occR (t : Ty) : List Occ := if t.kind = 5 ∧ t.n ≠ 0 then [⟨t.n, true, t.names⟩] else []
theorem occs_eq (t : Ty) : occs t = (occV t ++ occsL t.kids) ++ occR t := by cases t; simp only [occs, occV, occR, Ty.kind, Ty.n, Ty.names, Ty.kids]; rfl
theorem occsL_snoc (t : Ty) : ∀ l, occsL (l ++ [t]) = occsL l ++ occs t
  | [] => by simp [occsL]
  | x :: l => by simp only [List.cons_append, occsL, occsL_snoc t l, List.append_assoc]
theorem occsL_take (l : List Ty) (k : Nat) (h : k < l.length) : occsL (l.take (k + 1)) = occsL (l.take k) ++ occs (l.getD k Ty.zero) := by rw [take_snocT l k h, occsL_snoc]
mutual
theorem occs_len : ∀ t : Ty, (occs t).length ≤ t.sz
  | .mk k x n l ks => by
    have := occsL_len ks
    simp only [occs, List.length_append, Ty.sz]
    by_cases h6 : k = 6
    · rw [if_pos h6, if_neg (by omega)]; simp; omega
    · rw [if_neg h6]; split <;> simp <;> omega
theorem occsL_len : ∀ l : List Ty, (occsL l).length ≤ Ty.szL l
  | [] => by simp [occsL]
  | t :: l => by have := occs_len t; have := occsL_len l; simp only [occsL, List.length_append, Ty.szL]; omega
end
theorem occsL_takelen (t : Ty) (k : Nat) : (occsL (t.kids.take k)).length ≤ Ty.szL t.kids := Nat.le_trans (occsL_len _) (szL_take _ _)
noncomputable def c59 : Code := bodyOf Tryz.f59
theorem occs_spec (t : Ty) (hs : t.sz < 100000000) : CallsP cx 59 [Ty.v t] (.imm ((occs t).map Occ.v)) := by
 induction hN : t.sz using Nat.strongRecOn generalizing t with | _ N ih =>
 have ihO : ∀ t' : Ty, t'.sz < t.sz → CallsP cx 59 [t'.v] (.imm ((occs t').map Occ.v)) := fun t' h1 => ih _ (by rw [← hN]; exact h1) t' (Nat.lt_trans h1 hs) rfl
 have hz1 := sz_names t
 have hz2 := sz_kids t
 have hz3 := sz_eq t
 refine func_intro (cx := cx) 46 0 [(ResultVar.tmp 2)] Tryz.func59 rfl rfl rfl rfl rfl (by simp) ?_
 show wpA cx 46 0 (at_ c59 []) _ _ _
 refine qZ [(0, Ty.v t)] [] ?_ ?_
 refine qW 2 [(1, .ptr 0 0)] [t.bx] ?_ ?_
 refine qU 1 [(1, .ptr 0 0), (3, .full [])] ?_ ?_
 refine wOwn 3 3 (by decide) (by kernel_rfl) ?_
 refine qZ [(1, .ptr 0 0), (3, .own 1 0 0)] [t.bx, .arr 3 (([] : List (Occ)).map Occ.v) 0] ?_ ?_
 refine qSeq ?_ ?_
 refine qU 3 [(1, .ptr 0 0), (3, .own 1 0 0), (7, .bool ((t.kind) == 6))] ?_ ?_
 by_cases hb1 : (t.kind) = 6
 refine qt (beq_iff_eq.2 hb1) ?_ ?_
 refine qo ?_ ?_
 refine qr 5 ?_ ?_
 refine qY (o_appmapx (o := 1) (len := 0) (l := ([] : List (Occ))) (xs := [.agg [.int .i64 (t.n), .bool false, .full []]]) (enc := Occ.v) (sz := 3) (fr := 0) (x := (.full [.agg [.int .i64 (t.n), .bool false, .full []]])) (by kernel_rfl) ty77 ty80 ty77 rfl (by kernel_rfl) rfl (by first | rfl | simp) (by kernel_rfl) ⟨by decide, by kernel_rfl⟩ (by kernel_rfl) (by first | (simp; done) | (have := occsL_takelen t k; have := sz_kid t k (by omega); have := occs_len (t.kids.getD k Ty.zero); simp only [List.length_append, List.length_cons, List.length_nil]; omega) | (have := occsL_takelen t k; simp only [List.length_append, List.length_cons, List.length_nil]; omega)) (by first | (simp; done) | (have := occsL_takelen t k; have := sz_kid t k (by omega); have := occs_len (t.kids.getD k Ty.zero); simp only [List.length_append, List.length_cons, List.length_nil]; omega) | (have := occsL_takelen t k; simp only [List.length_append, List.length_cons, List.length_nil]; omega))) ?_ ?_ ?_
 refine qR 1 [(1, .ptr 0 0), (3, .own 1 0 (([] : List (Occ)).length + 1))] [t.bx, .arr 3 (([] : List (Occ)).map Occ.v ++ [.agg [.int .i64 (t.n), .bool false, .full []]]) 0] ?_ ?_
 refine wFrzO 1 (sz := 3) (fr := 0) (es := (([] : List (Occ)).map Occ.v ++ [.agg [.int .i64 (t.n), .bool false, .full []]])) ((([] : List (Occ)) ++ [(Occ.mk (t.n) false [])]).map Occ.v) (by kernel_rfl) (by simp [Ty.v, ownsL_app]) (by simp [Ty.v, frzL_app, Occ.v]) ?_
 refine wset 3 (.own 1 0 (([] : List (Occ)).length + 1)) (.own 1 0 (([] : List (Occ)) ++ [(Occ.mk (t.n) false [])]).length) (by kernel_rfl) (by simp) ?_
 refine qZ [(1, .ptr 0 0), (3, .own 1 0 (([] : List (Occ)) ++ [(Occ.mk (t.n) false [])]).length)] [t.bx, .arr 3 ((([] : List (Occ)) ++ [(Occ.mk (t.n) false [])]).map Occ.v) 0] ?_ ?_
 refine qSeq ?_ ?_
 refine qU 1 [(1, .ptr 0 0), (3, .own 1 0 (([] : List (Occ)) ++ [(Occ.mk (t.n) false [])]).length), (4, .int .i64 0)] ?_ ?_
 refine qB 0 ?_ ?_ ?_
 refine wLoop (σ := Nat) (fun k => [(1, .ptr 0 0), (3, .own 1 0 ((([] : List (Occ)) ++ [(Occ.mk (t.n) false [])]) ++ occsL (t.kids.take k)).length), (4, .int .i64 ((k : Nat) : Int))]) (fun k => [.box [.int .i64 (t.kind), .str t.name, .int .i64 (t.n), .imm (t.names.map AVal.str), .imm (t.kids.map Ty.enc)], .arr 3 (((([] : List (Occ)) ++ [(Occ.mk (t.n) false [])]) ++ occsL (t.kids.take k)).map Occ.v) 0]) (fun k => k ≤ t.kids.length) (fun k => t.kids.length - k) 0 (by kernel_rfl) (by exact Nat.zero_le _) ⟨⟨(by kernel_rfl), (Eq.trans (b := .own 1 0 (([] : List (Occ)) ++ [(Occ.mk (t.n) false [])]).length) (by kernel_rfl) (by simp [occsL])), (by kernel_rfl), trivial⟩, by simp [BelL, AVal.bel], by simp, (Eq.trans (b := [.box [.int .i64 (t.kind), .str t.name, .int .i64 (t.n), .imm (t.names.map AVal.str), .imm (t.kids.map Ty.enc)], .arr 3 ((([] : List (Occ)) ++ [(Occ.mk (t.n) false [])]).map Occ.v) 0]) (by kernel_rfl) (by simp [occsL])), by simp [AObj.belO, -List.map_append]⟩ ?_
 rintro k hk
 refine qSeq ?_ ?_
 refine qV 3 ?_ ?_
 refine qy (o_lenmap (l := t.kids) (enc := Ty.enc) (by kernel_rfl) ty23) ?_ ?_ ?_
 refine qR 1 [(1, .ptr 0 0), (3, .own 1 0 ((([] : List (Occ)) ++ [(Occ.mk (t.n) false [])]) ++ occsL (t.kids.take k)).length), (4, nI k), (18, .bool (decide (((k : Nat) : Int) < ((t.kids.length : Nat) : Int))))] [t.bx, .arr 3 (((([] : List (Occ)) ++ [(Occ.mk (t.n) false [])]) ++ occsL (t.kids.take k)).map Occ.v) 0] ?_ ?_
 by_cases hb2 : ((k : Nat) : Int) < ((t.kids.length : Nat) : Int)
 refine qt (decide_eq_true hb2) ?_ ?_
 refine qK ?_ ?_
 refine qz [(1, .ptr 0 0), (3, .own 1 0 ((([] : List (Occ)) ++ [(Occ.mk (t.n) false [])]) ++ occsL (t.kids.take k)).length), (4, nI k)] ?_ ?_
 refine qSeq ?_ ?_
 refine qB 1 ?_ ?_ ?_
 refine qo ?_ ?_
 refine qr 4 ?_ ?_
 refine qy ((o_ixmap (k := .i64) (l := t.kids) (enc := Ty.enc) (i := ((k : Nat) : Int)) Ty.zero (by kernel_rfl) ty23 ty25 ty_size (by first | omega | exact sz_kid t k (by omega)) (by first | omega | exact sz_kid t k (by omega))).trans (congrArg (fun cs => some (AVal.pimm cs 0, _)) (ty_cells (t.kids.getD k Ty.zero)))) ?_ ?_ ?_
 refine qr 1 ?_ ?_
 refine vcallP (args := [.agg [.int .i64 ((t.kids.getD k Ty.zero).kind), .str (t.kids.getD k Ty.zero).name, .int .i64 ((t.kids.getD k Ty.zero).n), .imm ((t.kids.getD k Ty.zero).names.map AVal.str), .imm ((t.kids.getD k Ty.zero).kids.map Ty.enc)]]) (by kernel_rfl) (by kernel_rfl) (by kernel_rfl) (by kernel_rfl) (ihO (t.kids.getD k Ty.zero) (by first | omega | exact sz_kid t k (by omega))) (by simp [Ty.v, frzL_app, Occ.v]) (by simp [Ty.v]) (by simp [Ty.v, ownsL_app]) ?_
 refine qY (o_appmap (o := 1) (len := (((([] : List (Occ)) ++ [(Occ.mk (t.n) false [])]) ++ occsL (t.kids.take k)).length)) (l := ((([] : List (Occ)) ++ [(Occ.mk (t.n) false [])]) ++ occsL (t.kids.take k))) (xs := (occs (t.kids.getD k Ty.zero))) (enc := Occ.v) (sz := 3) (fr := 0) (x := (.imm ((occs (t.kids.getD k Ty.zero)).map Occ.v))) (by kernel_rfl) ty77 ty80 ty77 rfl (by kernel_rfl) rfl (by first | rfl | simp) (by kernel_rfl) ⟨by decide, by kernel_rfl⟩ (fun _ => rfl) (by first | (simp; done) | (have := occsL_takelen t k; have := sz_kid t k (by omega); have := occs_len (t.kids.getD k Ty.zero); simp only [List.length_append, List.length_cons, List.length_nil]; omega) | (have := occsL_takelen t k; simp only [List.length_append, List.length_cons, List.length_nil]; omega)) (by first | (simp; done) | (have := occsL_takelen t k; have := sz_kid t k (by omega); have := occs_len (t.kids.getD k Ty.zero); simp only [List.length_append, List.length_cons, List.length_nil]; omega) | (have := occsL_takelen t k; simp only [List.length_append, List.length_cons, List.length_nil]; omega))) ?_ ?_ ?_
 refine qr 1 ?_ ?_
 refine qe ?_ ?_
 refine AIn_normal ?_
 refine AThen_normal ?_
 refine qZ [(1, .ptr 0 0), (3, .own 1 0 (((([] : List (Occ)) ++ [(Occ.mk (t.n) false [])]) ++ occsL (t.kids.take k)) ++ (occs (t.kids.getD k Ty.zero))).length), (4, nI k)] [t.bx, .arr 3 ((((([] : List (Occ)) ++ [(Occ.mk (t.n) false [])]) ++ occsL (t.kids.take k)) ++ (occs (t.kids.getD k Ty.zero))).map Occ.v) 0] ?_ ?_
 refine qo ?_ ?_
 refine qr 1 ?_ ?_
 refine qy (o_add (a := ((k : Nat) : Int)) (b := 1) (by kernel_rfl) (by first | omega | exact sz_kid t k (by omega)) (by first | omega | exact sz_kid t k (by omega))) ?_ ?_ ?_
 refine qr 1 ?_ ?_
 refine qe ?_ ?_
 refine AThen_normal ⟨k + 1, ?_, ?_, ⟨⟨(by kernel_rfl), (Eq.trans (b := .own 1 0 (((([] : List (Occ)) ++ [(Occ.mk (t.n) false [])]) ++ occsL (t.kids.take k)) ++ (occs (t.kids.getD k Ty.zero))).length) (by kernel_rfl) (by rw [occsL_take _ _ (by omega), List.append_assoc])), (by kernel_rfl), trivial⟩, by simp [BelL, AVal.bel], by simp, (Eq.trans (b := [.box [.int .i64 (t.kind), .str t.name, .int .i64 (t.n), .imm (t.names.map AVal.str), .imm (t.kids.map Ty.enc)], .arr 3 ((((([] : List (Occ)) ++ [(Occ.mk (t.n) false [])]) ++ occsL (t.kids.take k)) ++ (occs (t.kids.getD k Ty.zero))).map Occ.v) 0]) (by kernel_rfl) (by rw [occsL_take _ _ (by omega), List.append_assoc])), by simp [AObj.belO, -List.map_append]⟩⟩
 · omega
 · omega
 iterate 22 kernel_rfl
 refine qf (decide_eq_false hb2) ?_ ?_
 refine wExit 0 (by kernel_rfl) (by kernel_rfl) ?_
 refine AThen_exit ?_
 refine AThen_exit ?_
 refine AIn_exit ?_
 refine AThen_normal ?_
 refine qz [(1, .ptr 0 0), (3, .own 1 0 ((([] : List (Occ)) ++ [(Occ.mk (t.n) false [])]) ++ occsL (t.kids.take k)).length)] ?_ ?_
 refine qSeq ?_ ?_
 refine qV 4 ?_ ?_
 by_cases hb3 : (t.kind) = 5
 refine qm [31, 32] (beq_iff_eq.2 hb3) ?_ ?_
 refine qR 4 [(1, .ptr 0 0), (3, .own 1 0 ((([] : List (Occ)) ++ [(Occ.mk (t.n) false [])]) ++ occsL (t.kids.take k)).length), (36, .bool ((t.n) != 0))] [t.bx, .arr 3 (((([] : List (Occ)) ++ [(Occ.mk (t.n) false [])]) ++ occsL (t.kids.take k)).map Occ.v) 0] ?_ ?_
 by_cases hb4 : (t.n) = 0
 refine qf (x := ((t.n) != 0)) (bne_eq_false_iff_eq.2 hb4) ?_ ?_
 refine qK ?_ ?_
 refine qz [(3, .own 1 0 ((([] : List (Occ)) ++ [(Occ.mk (t.n) false [])]) ++ occsL (t.kids.take k)).length)] ?_ ?_
 refine qU 2 [(2, .own 1 0 ((([] : List (Occ)) ++ [(Occ.mk (t.n) false [])]) ++ occsL (t.kids.take k)).length)] ?_ ?_
 refine wRet (by kernel_rfl) ?_
 refine leafP (l := [.own 1 0 ((([] : List (Occ)) ++ [(Occ.mk (t.n) false [])]) ++ occsL (t.kids.take k)).length]) (.inr rfl) (by kernel_rfl) ?_
 rotate_left
 iterate 4 kernel_rfl
 refine qt (x := ((t.n) != 0)) (bne_iff_ne.2 hb4) ?_ ?_
 refine qo ?_ ?_
 refine qr 7 ?_ ?_
 refine qY (o_appmap (o := 1) (len := (((([] : List (Occ)) ++ [(Occ.mk (t.n) false [])]) ++ occsL (t.kids.take k)).length)) (l := ((([] : List (Occ)) ++ [(Occ.mk (t.n) false [])]) ++ occsL (t.kids.take k))) (xs := [(Occ.mk (t.n) true t.names)]) (enc := Occ.v) (sz := 3) (fr := 0) (x := (.full [.agg [.int .i64 (t.n), .bool true, .imm (t.names.map AVal.str)]])) (by kernel_rfl) ty77 ty80 ty77 rfl (by kernel_rfl) rfl (by first | rfl | simp) (by kernel_rfl) ⟨by decide, by kernel_rfl⟩ (fun _ => rfl) (by first | (simp; done) | (have := occsL_takelen t k; have := sz_kid t k (by omega); have := occs_len (t.kids.getD k Ty.zero); simp only [List.length_append, List.length_cons, List.length_nil]; omega) | (have := occsL_takelen t k; simp only [List.length_append, List.length_cons, List.length_nil]; omega)) (by first | (simp; done) | (have := occsL_takelen t k; have := sz_kid t k (by omega); have := occs_len (t.kids.getD k Ty.zero); simp only [List.length_append, List.length_cons, List.length_nil]; omega) | (have := occsL_takelen t k; simp only [List.length_append, List.length_cons, List.length_nil]; omega))) ?_ ?_ ?_
 refine qR 1 [(3, .own 1 0 (((([] : List (Occ)) ++ [(Occ.mk (t.n) false [])]) ++ occsL (t.kids.take k)) ++ [(Occ.mk (t.n) true t.names)]).length)] [t.bx, .arr 3 ((((([] : List (Occ)) ++ [(Occ.mk (t.n) false [])]) ++ occsL (t.kids.take k)) ++ [(Occ.mk (t.n) true t.names)]).map Occ.v) 0] ?_ ?_
 refine qU 2 [(2, .own 1 0 (((([] : List (Occ)) ++ [(Occ.mk (t.n) false [])]) ++ occsL (t.kids.take k)) ++ [(Occ.mk (t.n) true t.names)]).length)] ?_ ?_
 refine wRet (by kernel_rfl) ?_
 refine leafP (l := [.own 1 0 (((([] : List (Occ)) ++ [(Occ.mk (t.n) false [])]) ++ occsL (t.kids.take k)) ++ [(Occ.mk (t.n) true t.names)]).length]) (.inr rfl) (by kernel_rfl) ?_
 rotate_left
 iterate 9 kernel_rfl
 refine qm [31, 32] (beq_eq_false_iff_ne.2 hb3) ?_ ?_
 refine qR 4 [(1, .ptr 0 0), (3, .own 1 0 ((([] : List (Occ)) ++ [(Occ.mk (t.n) false [])]) ++ occsL (t.kids.take k)).length), (36, .bool false)] [t.bx, .arr 3 (((([] : List (Occ)) ++ [(Occ.mk (t.n) false [])]) ++ occsL (t.kids.take k)).map Occ.v) 0] ?_ ?_
 refine wIfF (by kernel_rfl) (by kernel_rfl) ?_
 refine qK ?_ ?_
 refine qz [(3, .own 1 0 ((([] : List (Occ)) ++ [(Occ.mk (t.n) false [])]) ++ occsL (t.kids.take k)).length)] ?_ ?_
 refine qU 2 [(2, .own 1 0 ((([] : List (Occ)) ++ [(Occ.mk (t.n) false [])]) ++ occsL (t.kids.take k)).length)] ?_ ?_
 refine wRet (by kernel_rfl) ?_
 refine leafP (l := [.own 1 0 ((([] : List (Occ)) ++ [(Occ.mk (t.n) false [])]) ++ occsL (t.kids.take k)).length]) (.inr rfl) (by kernel_rfl) ?_
 rotate_left
 iterate 25 kernel_rfl
 refine qf (beq_eq_false_iff_ne.2 hb1) ?_ ?_
 refine qK ?_ ?_
 refine qz [(1, .ptr 0 0), (3, .own 1 0 0)] ?_ ?_
 refine qSeq ?_ ?_
 refine qU 1 [(1, .ptr 0 0), (3, .own 1 0 0), (4, .int .i64 0)] ?_ ?_
 refine qB 0 ?_ ?_ ?_
 refine wLoop (σ := Nat) (fun k => [(1, .ptr 0 0), (3, .own 1 0 (([] : List (Occ)) ++ occsL (t.kids.take k)).length), (4, .int .i64 ((k : Nat) : Int))]) (fun k => [.box [.int .i64 (t.kind), .str t.name, .int .i64 (t.n), .imm (t.names.map AVal.str), .imm (t.kids.map Ty.enc)], .arr 3 ((([] : List (Occ)) ++ occsL (t.kids.take k)).map Occ.v) 0]) (fun k => k ≤ t.kids.length) (fun k => t.kids.length - k) 0 (by kernel_rfl) (by exact Nat.zero_le _) ⟨⟨(by kernel_rfl), (Eq.trans (b := .own 1 0 0) (by kernel_rfl) (by simp [occsL])), (by kernel_rfl), trivial⟩, by simp [BelL, AVal.bel], by simp, (Eq.trans (b := [.box [.int .i64 (t.kind), .str t.name, .int .i64 (t.n), .imm (t.names.map AVal.str), .imm (t.kids.map Ty.enc)], .arr 3 (([] : List (Occ)).map Occ.v) 0]) (by kernel_rfl) (by simp [occsL])), by simp [AObj.belO, -List.map_append]⟩ ?_
 rintro k hk
 refine qSeq ?_ ?_
 refine qV 3 ?_ ?_
 refine qy (o_lenmap (l := t.kids) (enc := Ty.enc) (by kernel_rfl) ty23) ?_ ?_ ?_
 refine qR 1 [(1, .ptr 0 0), (3, .own 1 0 (([] : List (Occ)) ++ occsL (t.kids.take k)).length), (4, nI k), (18, .bool (decide (((k : Nat) : Int) < ((t.kids.length : Nat) : Int))))] [t.bx, .arr 3 ((([] : List (Occ)) ++ occsL (t.kids.take k)).map Occ.v) 0] ?_ ?_
 by_cases hb5 : ((k : Nat) : Int) < ((t.kids.length : Nat) : Int)
 refine qt (decide_eq_true hb5) ?_ ?_
 refine qK ?_ ?_
 refine qz [(1, .ptr 0 0), (3, .own 1 0 (([] : List (Occ)) ++ occsL (t.kids.take k)).length), (4, nI k)] ?_ ?_
 refine qSeq ?_ ?_
 refine qB 1 ?_ ?_ ?_
 refine qo ?_ ?_
 refine qr 4 ?_ ?_
 refine qy ((o_ixmap (k := .i64) (l := t.kids) (enc := Ty.enc) (i := ((k : Nat) : Int)) Ty.zero (by kernel_rfl) ty23 ty25 ty_size (by first | omega | exact sz_kid t k (by omega)) (by first | omega | exact sz_kid t k (by omega))).trans (congrArg (fun cs => some (AVal.pimm cs 0, _)) (ty_cells (t.kids.getD k Ty.zero)))) ?_ ?_ ?_
 refine qr 1 ?_ ?_
 refine vcallP (args := [.agg [.int .i64 ((t.kids.getD k Ty.zero).kind), .str (t.kids.getD k Ty.zero).name, .int .i64 ((t.kids.getD k Ty.zero).n), .imm ((t.kids.getD k Ty.zero).names.map AVal.str), .imm ((t.kids.getD k Ty.zero).kids.map Ty.enc)]]) (by kernel_rfl) (by kernel_rfl) (by kernel_rfl) (by kernel_rfl) (ihO (t.kids.getD k Ty.zero) (by first | omega | exact sz_kid t k (by omega))) (by simp [Ty.v, frzL_app, Occ.v]) (by simp [Ty.v]) (by simp [Ty.v, ownsL_app]) ?_
 refine qY (o_appmap (o := 1) (len := ((([] : List (Occ)) ++ occsL (t.kids.take k)).length)) (l := (([] : List (Occ)) ++ occsL (t.kids.take k))) (xs := (occs (t.kids.getD k Ty.zero))) (enc := Occ.v) (sz := 3) (fr := 0) (x := (.imm ((occs (t.kids.getD k Ty.zero)).map Occ.v))) (by kernel_rfl) ty77 ty80 ty77 rfl (by kernel_rfl) rfl (by first | rfl | simp) (by kernel_rfl) ⟨by decide, by kernel_rfl⟩ (fun _ => rfl) (by first | (simp; done) | (have := occsL_takelen t k; have := sz_kid t k (by omega); have := occs_len (t.kids.getD k Ty.zero); simp only [List.length_append, List.length_cons, List.length_nil]; omega) | (have := occsL_takelen t k; simp only [List.length_append, List.length_cons, List.length_nil]; omega)) (by first | (simp; done) | (have := occsL_takelen t k; have := sz_kid t k (by omega); have := occs_len (t.kids.getD k Ty.zero); simp only [List.length_append, List.length_cons, List.length_nil]; omega) | (have := occsL_takelen t k; simp only [List.length_append, List.length_cons, List.length_nil]; omega))) ?_ ?_ ?_
 refine qr 1 ?_ ?_
 refine qe ?_ ?_
 refine AIn_normal ?_
 refine AThen_normal ?_
 refine qZ [(1, .ptr 0 0), (3, .own 1 0 ((([] : List (Occ)) ++ occsL (t.kids.take k)) ++ (occs (t.kids.getD k Ty.zero))).length), (4, nI k)] [t.bx, .arr 3 (((([] : List (Occ)) ++ occsL (t.kids.take k)) ++ (occs (t.kids.getD k Ty.zero))).map Occ.v) 0] ?_ ?_
 refine qo ?_ ?_
 refine qr 1 ?_ ?_
 refine qy (o_add (a := ((k : Nat) : Int)) (b := 1) (by kernel_rfl) (by first | omega | exact sz_kid t k (by omega)) (by first | omega | exact sz_kid t k (by omega))) ?_ ?_ ?_
 refine qr 1 ?_ ?_
 refine qe ?_ ?_
 refine AThen_normal ⟨k + 1, ?_, ?_, ⟨⟨(by kernel_rfl), (Eq.trans (b := .own 1 0 ((([] : List (Occ)) ++ occsL (t.kids.take k)) ++ (occs (t.kids.getD k Ty.zero))).length) (by kernel_rfl) (by rw [occsL_take _ _ (by omega), List.append_assoc])), (by kernel_rfl), trivial⟩, by simp [BelL, AVal.bel], by simp, (Eq.trans (b := [.box [.int .i64 (t.kind), .str t.name, .int .i64 (t.n), .imm (t.names.map AVal.str), .imm (t.kids.map Ty.enc)], .arr 3 (((([] : List (Occ)) ++ occsL (t.kids.take k)) ++ (occs (t.kids.getD k Ty.zero))).map Occ.v) 0]) (by kernel_rfl) (by rw [occsL_take _ _ (by omega), List.append_assoc])), by simp [AObj.belO, -List.map_append]⟩⟩
 · omega
 · omega
 iterate 22 kernel_rfl
 refine qf (decide_eq_false hb5) ?_ ?_
 refine wExit 0 (by kernel_rfl) (by kernel_rfl) ?_
 refine AThen_exit ?_
 refine AThen_exit ?_
 refine AIn_exit ?_
 refine AThen_normal ?_
 refine qz [(1, .ptr 0 0), (3, .own 1 0 (([] : List (Occ)) ++ occsL (t.kids.take k)).length)] ?_ ?_
 refine qSeq ?_ ?_
 refine qV 4 ?_ ?_
 by_cases hb6 : (t.kind) = 5
 refine qm [31, 32] (beq_iff_eq.2 hb6) ?_ ?_
 refine qR 4 [(1, .ptr 0 0), (3, .own 1 0 (([] : List (Occ)) ++ occsL (t.kids.take k)).length), (36, .bool ((t.n) != 0))] [t.bx, .arr 3 ((([] : List (Occ)) ++ occsL (t.kids.take k)).map Occ.v) 0] ?_ ?_
 by_cases hb7 : (t.n) = 0
 refine qf (x := ((t.n) != 0)) (bne_eq_false_iff_eq.2 hb7) ?_ ?_
 refine qK ?_ ?_
 refine qz [(3, .own 1 0 (([] : List (Occ)) ++ occsL (t.kids.take k)).length)] ?_ ?_
 refine qU 2 [(2, .own 1 0 (([] : List (Occ)) ++ occsL (t.kids.take k)).length)] ?_ ?_
 refine wRet (by kernel_rfl) ?_
 refine leafP (l := [.own 1 0 (([] : List (Occ)) ++ occsL (t.kids.take k)).length]) (.inr rfl) (by kernel_rfl) ?_
 rotate_left
 iterate 4 kernel_rfl
 refine qt (x := ((t.n) != 0)) (bne_iff_ne.2 hb7) ?_ ?_
 refine qo ?_ ?_
 refine qr 7 ?_ ?_
 refine qY (o_appmap (o := 1) (len := ((([] : List (Occ)) ++ occsL (t.kids.take k)).length)) (l := (([] : List (Occ)) ++ occsL (t.kids.take k))) (xs := [(Occ.mk (t.n) true t.names)]) (enc := Occ.v) (sz := 3) (fr := 0) (x := (.full [.agg [.int .i64 (t.n), .bool true, .imm (t.names.map AVal.str)]])) (by kernel_rfl) ty77 ty80 ty77 rfl (by kernel_rfl) rfl (by first | rfl | simp) (by kernel_rfl) ⟨by decide, by kernel_rfl⟩ (fun _ => rfl) (by first | (simp; done) | (have := occsL_takelen t k; have := sz_kid t k (by omega); have := occs_len (t.kids.getD k Ty.zero); simp only [List.length_append, List.length_cons, List.length_nil]; omega) | (have := occsL_takelen t k; simp only [List.length_append, List.length_cons, List.length_nil]; omega)) (by first | (simp; done) | (have := occsL_takelen t k; have := sz_kid t k (by omega); have := occs_len (t.kids.getD k Ty.zero); simp only [List.length_append, List.length_cons, List.length_nil]; omega) | (have := occsL_takelen t k; simp only [List.length_append, List.length_cons, List.length_nil]; omega))) ?_ ?_ ?_
 refine qR 1 [(3, .own 1 0 ((([] : List (Occ)) ++ occsL (t.kids.take k)) ++ [(Occ.mk (t.n) true t.names)]).length)] [t.bx, .arr 3 (((([] : List (Occ)) ++ occsL (t.kids.take k)) ++ [(Occ.mk (t.n) true t.names)]).map Occ.v) 0] ?_ ?_
 refine qU 2 [(2, .own 1 0 ((([] : List (Occ)) ++ occsL (t.kids.take k)) ++ [(Occ.mk (t.n) true t.names)]).length)] ?_ ?_
 refine wRet (by kernel_rfl) ?_
 refine leafP (l := [.own 1 0 ((([] : List (Occ)) ++ occsL (t.kids.take k)) ++ [(Occ.mk (t.n) true t.names)]).length]) (.inr rfl) (by kernel_rfl) ?_
 rotate_left
 iterate 9 kernel_rfl
 refine qm [31, 32] (beq_eq_false_iff_ne.2 hb6) ?_ ?_
 refine qR 4 [(1, .ptr 0 0), (3, .own 1 0 (([] : List (Occ)) ++ occsL (t.kids.take k)).length), (36, .bool false)] [t.bx, .arr 3 ((([] : List (Occ)) ++ occsL (t.kids.take k)).map Occ.v) 0] ?_ ?_
 refine wIfF (by kernel_rfl) (by kernel_rfl) ?_
 refine qK ?_ ?_
 refine qz [(3, .own 1 0 (([] : List (Occ)) ++ occsL (t.kids.take k)).length)] ?_ ?_
 refine qU 2 [(2, .own 1 0 (([] : List (Occ)) ++ occsL (t.kids.take k)).length)] ?_ ?_
 refine wRet (by kernel_rfl) ?_
 refine leafP (l := [.own 1 0 (([] : List (Occ)) ++ occsL (t.kids.take k)).length]) (.inr rfl) (by kernel_rfl) ?_
 rotate_left
 iterate 27 kernel_rfl
 all_goals
  first | (exfalso; omega) | (have hk2 : t.kids.take k = t.kids := List.take_of_length_le (by omega); rw [occs_eq, hk2]; simp [occV, occR, awrap, AVal.frz, belL_app, *]; done)
end Go.Proofs.YtdikgijfekfaoaaGreatDoor
