/- numbers, clone and renumber of package types. Condition: sizes that can be had. -/
import Derived.Test.YtdikgijfekfaoaaGreatDoorW1
import Derived.Test.YtdikgijfekfaoaaGreatDoorH1
import Derived.Test.YtdikgijfekfaoaaGreatDoorAbsc
set_option linter.all false
set_option linter.unusedSimpArgs false
set_option linter.unusedVariables false
namespace Go.Proofs.YtdikgijfekfaoaaGreatDoor
open Go.Proofs.YtdikgijfekfaoaaGreatDoor.Abs
set_option maxRecDepth 20000
set_option maxHeartbeats 4000000
theorem cloneS (l : List (List UInt8)) (hl : l.length < 1000000000) : CallsA cx 84 [.imm (l.map .str)] [] (fun v h => v = .own 0 0 l.length ∧ h = [.arr 1 (l.map .str) 0]) := by
  have := clone84 (l.map .str) [] (rowOk_map (fun _ => rfl) l) (by simp [fits]; omega) rfl (by simp)
  simpa using this
theorem cloneK (l : List Ty) (hl : l.length < 1000000000) : CallsA cx 109 [.imm (l.map Ty.enc)] [] (fun v h => v = .own 0 0 l.length ∧ h = [.arr 5 (l.map Ty.enc) 0]) := by
  have := clone109 (l.map Ty.enc) [] (rowOk_map (fun q => by rw [Ty.enc_v]; rfl) l) (by simp [fits]; omega) rfl (by simp)
  simpa using this
theorem set_same (l : List Ty) (k : Nat) : l.set k (l.getD k Ty.zero) = l := by
  by_cases h : k < l.length
  · rw [List.getD_eq_getElem?_getD, List.getElem?_eq_getElem h]; exact List.set_getElem_self h
  · exact List.set_eq_of_length_le (by omega)
theorem clone_P' {t : Ty} (h : CallsA cx 67 [t.v] [] (fun v h => v = recV t ∧ h = recH t)) : CallsP cx 67 [t.v] t.v := CallsP_post h (by rintro _ _ ⟨rfl, rfl⟩; exact recV_frz t) (by simp)
noncomputable def c67 : Code := bodyOf Tryz.f67
theorem clone_raw (t : Ty) (hs : t.sz < 100000000) : CallsA cx 67 [Ty.v t] [] (fun v h => v = recV t ∧ h = recH t) := by
 induction hN : t.sz using Nat.strongRecOn generalizing t with | _ N ih =>
 have ihC : ∀ x : Ty, x.sz < t.sz → CallsP cx 67 [x.v] x.v := fun x h1 => clone_P' (ih _ (by rw [← hN]; exact h1) x (Nat.lt_trans h1 hs) rfl)
 have hz1 := sz_names t
 have hz2 := sz_kids t
 refine func_raw (cx := cx) 30 0 [(ResultVar.cell 2 25)] Tryz.func67 rfl rfl rfl rfl rfl (by simp) ?_
 show wpA cx 30 0 (at_ c67 []) _ _ _
 refine qZ [(0, Ty.v t)] [] ?_ ?_
 refine qW 2 [(1, .ptr 0 0), (2, .ptr 1 0)] [t.bx, .box [.int .i64 0, .str [], .int .i64 0, .full [], .full []]] ?_ ?_
 refine qSeq ?_ ?_
 refine wDrw cxM (by kernel_rfl) extThen (dstart ?_)
 refine qu 2 ?_ ?_
 refine dgrow1 (args := [.imm (t.names.map AVal.str)]) (args' := [.imm (t.names.map AVal.str)]) (V' := .own 2 0 t.names.length) (F := [.box [.int .i64 (t.kind), .str t.name, .int .i64 (t.n), .imm (t.names.map AVal.str), .imm (t.kids.map Ty.enc)], .box [.int .i64 0, .str [], .int .i64 0, .full [], .full []]]) (G' := [.arr 1 (t.names.map AVal.str) 0]) (L := [2]) (by kernel_rfl) (by kernel_rfl) (by kernel_rfl) (by kernel_rfl) (by kernel_rfl) (cloneS t.names (by omega)) [.box [.int .i64 (t.kind), .str t.name, .int .i64 (t.n), .imm (t.names.map AVal.str), .imm (t.kids.map Ty.enc)], .box [.int .i64 0, .str [], .int .i64 0, .full [], .full []]] (by kernel_rfl) (by simp [AVal.frz, frzL, AVal.ren, renL, renH, AObj.ren, lendR, frzH, ownsL, AVal.owns]) (by simp [AVal.frz, frzL, AVal.ren, renL, renH, AObj.ren, lendR, frzH, ownsL, AVal.owns]) (by simp) (by simp [AVal.frz, frzL, AVal.ren, renL, renH, AObj.ren, lendR, frzH, ownsL, AVal.owns]) (by simp [AVal.frz, frzL, AVal.ren, renL, renH, AObj.ren, lendR, frzH, ownsL, AVal.owns]) (by simp [AVal.frz, frzL, AVal.ren, renL, renH, AObj.ren, lendR, frzH, ownsL, AVal.owns]) (by first | (simp [growL, ownsL, AVal.owns]; done) | (simp [growL, ownsL, AVal.owns]; decide)) ?_
 refine qu 2 ?_ ?_
 refine dgrow1 (args := [.imm (t.kids.map Ty.enc)]) (args' := [.imm (t.kids.map Ty.enc)]) (V' := .own 3 0 t.kids.length) (F := [.box [.int .i64 (t.kind), .str t.name, .int .i64 (t.n), .imm (t.names.map AVal.str), .imm (t.kids.map Ty.enc)], .box [.int .i64 0, .str [], .int .i64 0, .full [], .full []], .arr 1 (t.names.map AVal.str) 0]) (G' := [.arr 5 (t.kids.map Ty.enc) 0]) (L := [3]) (by kernel_rfl) (by kernel_rfl) (by kernel_rfl) (by kernel_rfl) (by kernel_rfl) (cloneK t.kids (by omega)) [.box [.int .i64 (t.kind), .str t.name, .int .i64 (t.n), .imm (t.names.map AVal.str), .imm (t.kids.map Ty.enc)], .box [.int .i64 0, .str [], .int .i64 0, .full [], .full []], .arr 1 (t.names.map AVal.str) 0] (by kernel_rfl) (by simp [AVal.frz, frzL, AVal.ren, renL, renH, AObj.ren, lendR, frzH, ownsL, AVal.owns]) (by simp [AVal.frz, frzL, AVal.ren, renL, renH, AObj.ren, lendR, frzH, ownsL, AVal.owns]) (by simp) (by simp [AVal.frz, frzL, AVal.ren, renL, renH, AObj.ren, lendR, frzH, ownsL, AVal.owns]) (by simp [AVal.frz, frzL, AVal.ren, renL, renH, AObj.ren, lendR, frzH, ownsL, AVal.owns]) (by simp [AVal.frz, frzL, AVal.ren, renL, renH, AObj.ren, lendR, frzH, ownsL, AVal.owns]) (by first | (simp [growL, ownsL, AVal.owns]; done) | (simp [growL, ownsL, AVal.owns]; decide)) ?_
 refine qu 4 ?_ ?_
 refine dend (by kernel_rfl) ⟨(by kernel_rfl), ?_⟩
 refine AThen_normal ?_
 refine qZ [(1, .ptr 0 0), (2, .ptr 1 0)] [.box [.int .i64 (t.kind), .str t.name, .int .i64 (t.n), .own 2 0 t.names.length, .own 3 0 t.kids.length], .box [.int .i64 0, .str [], .int .i64 0, .full [], .full []], .arr 1 (t.names.map AVal.str) 0, .arr 5 (t.kids.map Ty.enc) 0] ?_ ?_
 refine wFrzC 0 3 2 (cs := [.int .i64 (t.kind), .str t.name, .int .i64 (t.n), .own 2 0 t.names.length, .own 3 0 t.kids.length]) (es := (t.names.map AVal.str)) (off := 0) (len := t.names.length) (sz := 1) (fr := 0) [.int .i64 (t.kind), .str t.name, .int .i64 (t.n), .imm (t.names.map AVal.str), .own 3 0 t.kids.length] (t.names.map AVal.str) (by decide) (by kernel_rfl) (by kernel_rfl) (by kernel_rfl) (by simp) (by kernel_rfl) (by kernel_rfl) ?_
 refine qZ [(1, .ptr 0 0), (2, .ptr 1 0)] [.box [.int .i64 (t.kind), .str t.name, .int .i64 (t.n), .imm (t.names.map AVal.str), .own 3 0 t.kids.length], .box [.int .i64 0, .str [], .int .i64 0, .full [], .full []], .arr 1 (t.names.map AVal.str) (t.names.map AVal.str).length, .arr 5 (t.kids.map Ty.enc) 0] ?_ ?_
 refine qSeq ?_ ?_
 refine qV 2 ?_ ?_
 refine qy (o_lenown (o := 3) (off := 0) (len := t.kids.length) (sz := 5) (es := (t.kids.map Ty.enc)) (fr := 0) (by kernel_rfl) ty23 (by kernel_rfl) (by simp)) ?_ ?_ ?_
 refine qR 1 [(1, .ptr 0 0), (2, .ptr 1 0), (14, nI t.kids.length), (15, .int .i64 0)] [.box [.int .i64 (t.kind), .str t.name, .int .i64 (t.n), .imm (t.names.map AVal.str), .own 3 0 t.kids.length], .box [.int .i64 0, .str [], .int .i64 0, .full [], .full []], .arr 1 (t.names.map AVal.str) (t.names.map AVal.str).length, .arr 5 (t.kids.map Ty.enc) 0] ?_ ?_
 refine qB 0 ?_ ?_ ?_
 refine wLoop (σ := Nat) (fun k => [(1, .ptr 0 0), (2, .ptr 1 0), (14, .int .i64 ((t.kids.length : Nat) : Int)), (15, .int .i64 ((k : Nat) : Int))]) (fun k => [.box [.int .i64 (t.kind), .str t.name, .int .i64 (t.n), .imm (t.names.map AVal.str), .own 3 0 t.kids.length], .box [.int .i64 0, .str [], .int .i64 0, .full [], .full []], .arr 1 (t.names.map AVal.str) (t.names.map AVal.str).length, .arr 5 (t.kids.map Ty.enc) 0]) (fun k => k ≤ t.kids.length) (fun k => t.kids.length - k) 0 (by kernel_rfl) (by exact Nat.zero_le _) ⟨⟨(by kernel_rfl), (by kernel_rfl), (by kernel_rfl), (by kernel_rfl), trivial⟩, by simp [BelL, AVal.bel], by simp, (by kernel_rfl), by simp [AObj.belO]⟩ ?_
 rintro k hk
 refine qW 1 [(1, .ptr 0 0), (2, .ptr 1 0), (14, nI t.kids.length), (15, nI k), (16, .bool (decide (((k : Nat) : Int) < ((t.kids.length : Nat) : Int))))] [.box [.int .i64 (t.kind), .str t.name, .int .i64 (t.n), .imm (t.names.map AVal.str), .own 3 0 t.kids.length], .box [.int .i64 0, .str [], .int .i64 0, .full [], .full []], .arr 1 (t.names.map AVal.str) (t.names.map AVal.str).length, .arr 5 (t.kids.map Ty.enc) 0] ?_ ?_
 refine qSeq ?_ ?_
 by_cases hb1 : ((k : Nat) : Int) < ((t.kids.length : Nat) : Int)
 refine qt (decide_eq_true hb1) ?_ ?_
 refine qK ?_ ?_
 refine qz [(1, .ptr 0 0), (2, .ptr 1 0), (14, nI t.kids.length), (15, nI k)] ?_ ?_
 refine qSeq ?_ ?_
 refine qB 1 ?_ ?_ ?_
 refine qU 2 [(1, .ptr 0 0), (2, .ptr 1 0), (3, nI k), (14, nI t.kids.length), (15, nI k)] ?_ ?_
 refine wDrw cxM (by kernel_rfl) (extIn extThen) (dstart ?_)
 refine qu 6 ?_ ?_
 refine qd (o_ixown (k := .i64) (i := ((k : Nat) : Int)) (o := 3) (off := 0) (len := t.kids.length) (sz := 5) (fr := 0) (es := (t.kids.map Ty.enc)) (by kernel_rfl) ty23 ty25 (by kernel_rfl) rfl (by simp) (by first | omega | exact sz_kid t _ (by omega)) (by first | omega | exact sz_kid t _ (by omega))) ?_ ?_ ?_ ?_
 refine qd (o_ldown (t := 25) (o := 3) (idx := (0 + k)) (off := 0) (k := ((t.kids.map Ty.enc).length)) (sz := 5) (fr := 0) (es := (t.kids.map Ty.enc)) (x := Ty.enc (t.kids.getD (0 + k) Ty.zero)) (v := .agg [.int .i64 ((t.kids.getD (0 + k) Ty.zero).kind), .str (t.kids.getD (0 + k) Ty.zero).name, .int .i64 ((t.kids.getD (0 + k) Ty.zero).n), .imm ((t.kids.getD (0 + k) Ty.zero).names.map AVal.str), .imm ((t.kids.getD (0 + k) Ty.zero).kids.map Ty.enc)]) (by kernel_rfl) (by kernel_rfl) (by simp) (get_map _ _ _ _ (by first | omega | exact sz_kid t _ (by omega))) (by rw [ty_cells]; exact (by kernel_rfl))) ?_ ?_ ?_ ?_
 refine dcallP (args := [.agg [.int .i64 ((t.kids.getD (0 + k) Ty.zero).kind), .str (t.kids.getD (0 + k) Ty.zero).name, .int .i64 ((t.kids.getD (0 + k) Ty.zero).n), .imm ((t.kids.getD (0 + k) Ty.zero).names.map AVal.str), .imm ((t.kids.getD (0 + k) Ty.zero).kids.map Ty.enc)]]) (by kernel_rfl) (by kernel_rfl) (by kernel_rfl) (by kernel_rfl) (by kernel_rfl) (ihC (t.kids.getD (0 + k) Ty.zero) (by first | omega | exact sz_kid t _ (by omega))) (by intro _; simp [Ty.v, frzL_app, Occ.v]) (by simp [Ty.v]) (by simp [Ty.v, ownsL_app]) ?_
 refine qd (o_ixown (k := .i64) (i := ((k : Nat) : Int)) (o := 3) (off := 0) (len := t.kids.length) (sz := 5) (fr := 0) (es := (t.kids.map Ty.enc)) (by kernel_rfl) ty23 ty25 (by kernel_rfl) rfl (by simp) (by first | omega | exact sz_kid t _ (by omega)) (by first | omega | exact sz_kid t _ (by omega))) ?_ ?_ ?_ ?_
 refine qD (o_stmap (o := 3) (k := ((t.kids.map Ty.enc).length)) (x := Ty.v (t.kids.getD (0 + k) Ty.zero)) (enc := Ty.enc) (l := t.kids) (X := (t.kids.getD (0 + k) Ty.zero)) (d := Ty.zero) (idx := (0 + k)) (sz := 5) (by kernel_rfl) (Ty.enc_v (t.kids.getD (0 + k) Ty.zero)).symm (by kernel_rfl) (by simp) (by first | omega | exact sz_kid t _ (by omega)) ty25 ty_ok2 ty_with) ?_ ?_ ?_ ?_
 refine dend (by kernel_rfl) ⟨(by kernel_rfl), ?_⟩
 refine AIn_normal ?_
 refine AThen_normal ?_
 refine qZ [(1, .ptr 0 0), (2, .ptr 1 0), (14, nI t.kids.length), (15, nI k)] [.box [.int .i64 (t.kind), .str t.name, .int .i64 (t.n), .imm (t.names.map AVal.str), .own 3 0 t.kids.length], .box [.int .i64 0, .str [], .int .i64 0, .full [], .full []], .arr 1 (t.names.map AVal.str) (t.names.map AVal.str).length, .arr 5 ((t.kids.set (0 + k) (t.kids.getD (0 + k) Ty.zero)).map Ty.enc) 0] ?_ ?_
 refine qo ?_ ?_
 refine qy (o_add (a := ((k : Nat) : Int)) (b := 1) (by kernel_rfl) (by first | omega | exact sz_kid t _ (by omega)) (by first | omega | exact sz_kid t _ (by omega))) ?_ ?_ ?_
 refine qr 1 ?_ ?_
 refine qe ?_ ?_
 refine AThen_normal ⟨k + 1, ?_, ?_, ⟨⟨(by kernel_rfl), (by kernel_rfl), (by kernel_rfl), (by kernel_rfl), trivial⟩, by simp [BelL, AVal.bel], by simp, (Eq.trans (b := [.box [.int .i64 (t.kind), .str t.name, .int .i64 (t.n), .imm (t.names.map AVal.str), .own 3 0 t.kids.length], .box [.int .i64 0, .str [], .int .i64 0, .full [], .full []], .arr 1 (t.names.map AVal.str) (t.names.map AVal.str).length, .arr 5 ((t.kids.set (0 + k) (t.kids.getD (0 + k) Ty.zero)).map Ty.enc) 0]) (by kernel_rfl) (by rw [set_same])), by simp [AObj.belO]⟩⟩
 · omega
 · omega
 iterate 26 kernel_rfl
 refine qf (decide_eq_false hb1) ?_ ?_
 refine wExit 0 (by kernel_rfl) (by kernel_rfl) ?_
 refine AThen_exit ?_
 refine AThen_exit ?_
 refine AIn_exit ?_
 refine AThen_normal ?_
 refine qz [(1, .ptr 0 0), (2, .ptr 1 0)] ?_ ?_
 refine qW 2 [(2, .ptr 1 0)] [.box [.int .i64 (t.kind), .str t.name, .int .i64 (t.n), .imm (t.names.map AVal.str), .own 3 0 t.kids.length], .box [.int .i64 (t.kind), .str t.name, .int .i64 (t.n), .imm (t.names.map AVal.str), .own 3 0 t.kids.length], .arr 1 (t.names.map AVal.str) (t.names.map AVal.str).length, .arr 5 (t.kids.map Ty.enc) 0] ?_ ?_
 refine wRen [3, 1] [(2, .ptr 1 0)] [.arr 5 (t.kids.map Ty.enc) 0, .box [.int .i64 (t.kind), .str t.name, .int .i64 (t.n), .imm (t.names.map AVal.str), .own 0 0 t.kids.length]] (by decide) (by simp [-List.map_append, -List.map_take, -List.map_drop, -List.append_assoc, AVal.refs, refsL, AObj.refs, AObj.isIter, objOk, Abs.renT, keepH, renO, AObj.ren, AVal.ren, renL, List.idxOf_cons]) (by simp [-List.map_append, -List.map_take, -List.map_drop, -List.append_assoc, AVal.refs, refsL, AObj.refs, AObj.isIter, objOk, Abs.renT, keepH, renO, AObj.ren, AVal.ren, renL, List.idxOf_cons]) (by simp [-List.map_append, -List.map_take, -List.map_drop, -List.append_assoc, AVal.refs, refsL, AObj.refs, AObj.isIter, objOk, Abs.renT, keepH, renO, AObj.ren, AVal.ren, renL, List.idxOf_cons]) (by simp [-List.map_append, -List.map_take, -List.map_drop, -List.append_assoc, AVal.refs, refsL, AObj.refs, AObj.isIter, objOk, Abs.renT, keepH, renO, AObj.ren, AVal.ren, renL, List.idxOf_cons]) ?_
 refine qZ [(2, .ptr 1 0)] [.arr 5 (t.kids.map Ty.enc) 0, .box [.int .i64 (t.kind), .str t.name, .int .i64 (t.n), .imm (t.names.map AVal.str), .own 0 0 t.kids.length]] ?_ ?_
 refine wRet (by kernel_rfl) ?_
 refine leafR (l := [.agg [.int .i64 (t.kind), .str t.name, .int .i64 (t.n), .imm (t.names.map AVal.str), .own 0 0 t.kids.length]]) 1 [.arr 5 (t.kids.map Ty.enc) 0] (.inr rfl) (by kernel_rfl) (Nat.zero_le _) (by kernel_rfl) (by simp [awrap, -List.map_append, -List.map_take, -List.map_drop, -List.append_assoc]) (by simp [AObj.belO, -List.map_append, -List.map_take, -List.map_drop, -List.append_assoc]) ?_
 · exact ⟨rfl, rfl⟩
 iterate 21 kernel_rfl
theorem clone_spec (t : Ty) (hs : t.sz < 100000000) : CallsP cx 67 [t.v] t.v := clone_P' (clone_raw t hs)

mutual
def renT (f : Int → Int) : Ty → Ty
  | .mk k x n l ks => .mk k x (if isV k n = true then f n else n) l (renTL f ks)
def renTL (f : Int → Int) : List Ty → List Ty
  | [] => []
  | t :: l => renT f t :: renTL f l
end
/-- Kids of which the first k are renumbered. -/
def rkL (f : Int → Int) (ks : List Ty) (k : Nat) : List Ty := (ks.take k).map (renT f) ++ ks.drop k
@[simp] theorem rkL_len (f : Int → Int) (ks : List Ty) (k : Nat) : (rkL f ks k).length = ks.length := by simp [rkL]; omega
abbrev At := List (Int × Int)
@[simp] theorem encM_at (k : Nat) (l : At) : ((encM (AVal.int .i64) (AVal.int .i64) l).all fun e => e.1.bel k && e.2.bel k) = true := by
  simp [encM, List.all_eq_true]
end Go.Proofs.YtdikgijfekfaoaaGreatDoor
