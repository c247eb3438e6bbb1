/- Put of the reference. No condition. -/
import Derived.Test.YtdikgijfekfaoaaGreatDoorT8
import Derived.Test.YtdikgijfekfaoaaGreatDoorAbsc
set_option linter.all false
set_option linter.unusedSimpArgs false
set_option linter.unusedVariables false
namespace Go.Proofs.YtdikgijfekfaoaaGreatDoor
open Go.Proofs.YtdikgijfekfaoaaGreatDoor.Abs
set_option maxRecDepth 20000
set_option maxHeartbeats 4000000
mutual
theorem bel_refs : ∀ x : AVal, x.bel 0 = true → x.refs = []
  | .agg cs, h => by simp only [AVal.refs]; exact belL_refs cs (by simpa [AVal.bel] using h)
  | .tup cs, h => by simp only [AVal.refs]; exact belL_refs cs (by simpa [AVal.bel] using h)
  | .pimm cs _, h => by simp only [AVal.refs]; exact belL_refs cs (by simpa [AVal.bel] using h)
  | .imm l, h => by simp only [AVal.refs]; exact belL_refs l (by simpa [AVal.bel] using h)
  | .full l, h => by simp only [AVal.refs]; exact belL_refs l (by simpa [AVal.bel] using h)
  | .fn f xs ys, h => by
    simp only [AVal.bel, Bool.and_eq_true] at h
    simp only [AVal.refs, belL_refs xs h.1, belL_refs ys h.2, List.append_nil]
  | .iface t v, h => by simp only [AVal.refs]; exact bel_refs v (by simpa [AVal.bel] using h)
  | .ptr o _, h => by simp [AVal.bel] at h
  | .pown o _ _ _, h => by simp [AVal.bel] at h
  | .own o _ _, h => by simp [AVal.bel] at h
  | .map o, h => by simp [AVal.bel] at h
  | .itr o, h => by simp [AVal.bel] at h
  | .any, _ => rfl
  | .bool _, _ => rfl
  | .int _ _, _ => rfl
  | .str _, _ => rfl
  | .nilp, _ => rfl
  | .nilm, _ => rfl
  | .nilfn, _ => rfl
  | .nili, _ => rfl
theorem belL_refs : ∀ l : List AVal, belL 0 l = true → refsL l = []
  | [], _ => rfl
  | x :: l, h => by
    simp only [belL, Bool.and_eq_true] at h
    simp only [refsL, bel_refs x h.1, belL_refs l h.2, List.append_nil]
end
@[simp] theorem refs_strs (l : List (List UInt8)) : refsL (l.map .str) = [] := belL_refs _ (by simp)
@[simp] theorem refs_tys (l : List Ty) : refsL (l.map Ty.enc) = [] := belL_refs _ (by simp)
@[simp] theorem refs_ints (l : List Int) : refsL (l.map (.int .i64)) = [] := belL_refs _ (by simp)
@[simp] theorem ren_strs (r : Nat → Nat) (l : List (List UInt8)) : renL r (l.map .str) = l.map .str := belL_ren _ _ (by simp)
@[simp] theorem ren_tys (r : Nat → Nat) (l : List Ty) : renL r (l.map Ty.enc) = l.map Ty.enc := belL_ren _ _ (by simp)
@[simp] theorem ren_ints (r : Nat → Nat) (l : List Int) : renL r (l.map (.int .i64)) = l.map (.int .i64) := belL_ren _ _ (by simp)
def putAt (l : List (List UInt8)) (s : List UInt8) : Nat := (l.takeWhile (fun x => sLess x s)).length
def putN (t : Ty) (s : List UInt8) : List (List UInt8) := t.names.take (putAt t.names s) ++ [s] ++ t.names.drop (putAt t.names s)
def putK (t : Ty) (s : List UInt8) (x : Ty) : List Ty := t.kids.take (putAt t.names s) ++ [x] ++ t.kids.drop (putAt t.names s)
def putT (t : Ty) (s : List UInt8) (x : Ty) : Ty := .mk 5 [] t.n (putN t s) (putK t s x)
/-- A record with its own list of kids. -/
def recV (t : Ty) : AVal := .agg [.int .i64 t.kind, .str t.name, .int .i64 t.n, .imm (t.names.map .str), .own 0 0 t.kids.length]
def recH (t : Ty) : AHeap := [.arr 5 (t.kids.map Ty.enc) 0]
theorem recV_put (t : Ty) (s : List UInt8) (x : Ty) : recV (putT t s x) = .agg [.int .i64 5, .str [], .int .i64 t.n, .imm ((putN t s).map .str), .own 0 0 (putK t s x).length] := rfl
theorem recH_put (t : Ty) (s : List UInt8) (x : Ty) : recH (putT t s x) = [.arr 5 ((putK t s x).map Ty.enc) 0] := rfl
theorem putAt_stop : ∀ (l : List (List UInt8)) (s : List UInt8) (k : Nat), (∀ i, i < k → sLess (l.getD i []) s = true) → k ≤ l.length → (k < l.length → sLess (l.getD k []) s = false) → putAt l s = k
  | [], s, k, h, hk, _ => by simp at hk; subst hk; rfl
  | x :: l, s, 0, h, hk, hs => by
    have := hs (by simp)
    simp at this
    simp [putAt, List.takeWhile, this]
  | x :: l, s, k + 1, h, hk, hs => by
    have h0 := h 0 (by omega)
    simp at h0
    have := putAt_stop l s k (fun i hi => by have := h (i + 1) (by omega); simpa using this) (by simpa using hk) (fun hlt => by have := hs (by simpa using hlt); simpa using this)
    simp [putAt, List.takeWhile, h0] at this ⊢
    exact this
noncomputable def c53 : Code := bodyOf Tryz.f53
theorem put_raw (t x : Ty) (s : List UInt8) (hs : t.sz < 100000000) (hx : x.sz < 100000000) (hnk : t.names.length = t.kids.length) : CallsA cx 53 [Ty.v t, .str s, Ty.v x] [] (fun v h => v = recV (putT t s x) ∧ h = recH (putT t s x)) := by
 have hz1 := sz_names t
 have hz2 := sz_kids t
 refine func_raw (cx := cx) 61 0 [(ResultVar.cell 6 25)] Tryz.func53 rfl rfl rfl rfl rfl (by simp) ?_
 show wpA cx 61 0 (at_ c53 []) _ _ _
 refine qZ [(0, Ty.v t), (1, .str s), (2, Ty.v x)] [] ?_ ?_
 refine qW 3 [(1, .str s), (3, .ptr 0 0), (5, .ptr 1 0), (6, .ptr 2 0)] [t.bx, x.bx, .box [.int .i64 0, .str [], .int .i64 0, .full [], .full []]] ?_ ?_
 refine qU 1 [(1, .str s), (3, .ptr 0 0), (5, .ptr 1 0), (6, .ptr 2 0), (7, .int .i64 0)] ?_ ?_
 refine qSeq ?_ ?_
 refine qB 0 ?_ ?_ ?_
 refine wLoop (σ := Nat) (fun k => [(1, .str s), (3, .ptr 0 0), (5, .ptr 1 0), (6, .ptr 2 0), (7, .int .i64 ((k : Nat) : Int))]) (fun k => [.box [.int .i64 (t.kind), .str t.name, .int .i64 (t.n), .imm (t.names.map AVal.str), .imm (t.kids.map Ty.enc)], .box [.int .i64 (x.kind), .str x.name, .int .i64 (x.n), .imm (x.names.map AVal.str), .imm (x.kids.map Ty.enc)], .box [.int .i64 0, .str [], .int .i64 0, .full [], .full []]]) (fun k => k ≤ t.names.length ∧ ∀ i, i < k → sLess (t.names.getD i []) s = true) (fun k => t.names.length - k) 0 (by kernel_rfl) (by simp) ⟨⟨(by kernel_rfl), (by kernel_rfl), (by kernel_rfl), (by kernel_rfl), (by kernel_rfl), trivial⟩, by simp [BelL, AVal.bel], by simp, (by kernel_rfl), by simp [AObj.belO]⟩ ?_
 rintro k ⟨hk, ha⟩
 refine qSeq ?_ ?_
 refine qV 3 ?_ ?_
 refine qy (o_lenmap (l := t.names) (enc := AVal.str) (by kernel_rfl) ty22) ?_ ?_ ?_
 refine qr 2 ?_ ?_
 by_cases hb1 : ((k : Nat) : Int) < ((t.names.length : Nat) : Int)
 refine qm [13, 14] (decide_eq_true hb1) ?_ ?_
 refine qr 3 ?_ ?_
 refine qy (o_ixmap (k := .i64) (l := t.names) (enc := AVal.str) (i := ((k : Nat) : Int)) [] (by kernel_rfl) ty22 ty9 (fun _ => rfl) (by omega) (by omega)) ?_ ?_ ?_
 refine qR 4 [(1, .str s), (3, .ptr 0 0), (5, .ptr 1 0), (6, .ptr 2 0), (7, nI k), (15, .ptr 0 3), (16, .imm (t.names.map AVal.str)), (17, nI k), (18, .pimm [.str (t.names.getD k [])] 0), (19, .str (t.names.getD k [])), (20, .str s), (21, .bool (sLess (t.names.getD k []) s)), (22, .bool (sLess (t.names.getD k []) s))] [t.bx, x.bx, .box [.int .i64 0, .str [], .int .i64 0, .full [], .full []]] ?_ ?_
 by_cases hb2 : (sLess (t.names.getD k []) s) = true
 refine qt (hb2) ?_ ?_
 refine qK ?_ ?_
 refine qz [(1, .str s), (3, .ptr 0 0), (5, .ptr 1 0), (6, .ptr 2 0), (7, nI k), (15, .ptr 0 3), (16, .imm (t.names.map AVal.str)), (17, nI k), (18, .pimm [.str (t.names.getD k [])] 0), (19, .str (t.names.getD k [])), (20, .str s), (21, .bool (sLess (t.names.getD k []) s))] ?_ ?_
 refine qB 1 ?_ ?_ ?_
 refine qo ?_ ?_
 refine qr 1 ?_ ?_
 refine qy (o_add (a := ((k : Nat) : Int)) (b := 1) (by kernel_rfl) (by omega) (by omega)) ?_ ?_ ?_
 refine qr 1 ?_ ?_
 refine qe ?_ ?_
 refine AIn_normal ?_
 refine AThen_normal ⟨k + 1, ?_, ?_, ⟨⟨(by kernel_rfl), (by kernel_rfl), (by kernel_rfl), (by kernel_rfl), (by kernel_rfl), trivial⟩, by simp [BelL, AVal.bel], by simp, (by kernel_rfl), by simp [AObj.belO]⟩⟩
 · omega
 · refine ⟨by omega, fun i hi => ?_⟩
   rcases Nat.lt_succ_iff_lt_or_eq.1 hi with h | h
   · exact ha i h
   · subst h; assumption
 iterate 11 kernel_rfl
 refine qf (Bool.eq_false_iff.2 hb2) ?_ ?_
 refine wExit 0 (by kernel_rfl) (by kernel_rfl) ?_
 refine AThen_exit ?_
 refine AThen_exit ?_
 refine AIn_exit ?_
 refine AThen_normal ?_
 refine qz [(1, .str s), (3, .ptr 0 0), (5, .ptr 1 0), (6, .ptr 2 0), (7, nI k)] ?_ ?_
 refine qW 5 [(1, .str s), (3, .ptr 0 0), (5, .ptr 1 0), (6, .ptr 2 0), (7, nI k), (8, .ptr 3 0)] [t.bx, x.bx, .box [.int .i64 0, .str [], .int .i64 0, .full [], .full []], .box [.int .i64 5, .str [], .int .i64 (t.n), .full [], .full []]] ?_ ?_
 refine wOwnB 3 3 1 (cs := [.int .i64 5, .str [], .int .i64 (t.n), .full [], .full []]) [.int .i64 5, .str [], .int .i64 (t.n), .own 4 0 0, .full []] (by decide) (by kernel_rfl) (by kernel_rfl) (by kernel_rfl) ?_
 refine wOwnB 3 4 5 (cs := [.int .i64 5, .str [], .int .i64 (t.n), .own 4 0 0, .full []]) [.int .i64 5, .str [], .int .i64 (t.n), .own 4 0 0, .own 5 0 0] (by decide) (by kernel_rfl) (by kernel_rfl) (by kernel_rfl) ?_
 refine qZ [(1, .str s), (3, .ptr 0 0), (5, .ptr 1 0), (6, .ptr 2 0), (7, nI k), (8, .ptr 3 0)] [t.bx, x.bx, .box [.int .i64 0, .str [], .int .i64 0, .full [], .full []], .box [.int .i64 5, .str [], .int .i64 (t.n), .own 4 0 0, .own 5 0 0], .arr 1 (([] : List (List UInt8)).map AVal.str) 0, .arr 5 (([] : List (Ty)).map Ty.enc) 0] ?_ ?_
 refine qSeq ?_ ?_
 refine wDrw cxM (by kernel_rfl) extThen (dstart ?_)
 refine qu 5 ?_ ?_
 refine qd (o_slcmap (lo := none) (hi := (some (.int .i64 ((k : Nat) : Int)))) (l := t.names) (enc := AVal.str) (x := 0) (y := ((k : Nat) : Int)) (by kernel_rfl) ty22 ty9 (fun _ => rfl) (by kernel_rfl) (by kernel_rfl) (by omega) (by omega) (by omega)) ?_ ?_ ?_ ?_
 refine qD (o_appmap (o := 4) (len := 0) (l := ([] : List (List UInt8))) (xs := ((t.names.take k).drop 0)) (enc := AVal.str) (sz := 1) (fr := 0) (x := (.imm (((t.names.take k).drop 0).map AVal.str))) (by kernel_rfl) ty22 ty9 ty22 rfl (by kernel_rfl) rfl (by first | rfl | simp) (by kernel_rfl) ⟨by decide, by kernel_rfl⟩ (fun _ => rfl) (by simp only [List.length_append, List.length_take, List.length_drop, List.length_cons, List.length_nil]; omega) (by simp only [List.length_append, List.length_take, List.length_drop, List.length_cons, List.length_nil]; omega)) ?_ ?_ ?_ ?_
 refine qu 2 ?_ ?_
 refine qD (o_appmap (o := 4) (len := ((([] : List (List UInt8)) ++ ((t.names.take k).drop 0)).length)) (l := (([] : List (List UInt8)) ++ ((t.names.take k).drop 0))) (xs := [s]) (enc := AVal.str) (sz := 1) (fr := 0) (x := (.full [.str s])) (by kernel_rfl) ty22 ty9 ty22 rfl (by kernel_rfl) rfl (by first | rfl | simp) (by kernel_rfl) ⟨by decide, by kernel_rfl⟩ (fun _ => rfl) (by simp only [List.length_append, List.length_take, List.length_drop, List.length_cons, List.length_nil]; omega) (by simp only [List.length_append, List.length_take, List.length_drop, List.length_cons, List.length_nil]; omega)) ?_ ?_ ?_ ?_
 refine qu 3 ?_ ?_
 refine qd (o_slcmap (lo := (some (.int .i64 ((k : Nat) : Int)))) (hi := none) (l := t.names) (enc := AVal.str) (x := ((k : Nat) : Int)) (y := ((t.names.length : Nat) : Int)) (by kernel_rfl) ty22 ty9 (fun _ => rfl) (by kernel_rfl) (by kernel_rfl) (by omega) (by omega) (by omega)) ?_ ?_ ?_ ?_
 refine qD (o_appmap (o := 4) (len := (((([] : List (List UInt8)) ++ ((t.names.take k).drop 0)) ++ [s]).length)) (l := ((([] : List (List UInt8)) ++ ((t.names.take k).drop 0)) ++ [s])) (xs := ((t.names.take t.names.length).drop k)) (enc := AVal.str) (sz := 1) (fr := 0) (x := (.imm (((t.names.take t.names.length).drop k).map AVal.str))) (by kernel_rfl) ty22 ty9 ty22 rfl (by kernel_rfl) rfl (by first | rfl | simp) (by kernel_rfl) ⟨by decide, by kernel_rfl⟩ (fun _ => rfl) (by simp only [List.length_append, List.length_take, List.length_drop, List.length_cons, List.length_nil]; omega) (by simp only [List.length_append, List.length_take, List.length_drop, List.length_cons, List.length_nil]; omega)) ?_ ?_ ?_ ?_
 refine qu 2 ?_ ?_
 refine dend (by kernel_rfl) ⟨(by kernel_rfl), ?_⟩
 refine AThen_normal ?_
 refine qZ [(3, .ptr 0 0), (5, .ptr 1 0), (6, .ptr 2 0), (7, nI k), (8, .ptr 3 0)] [t.bx, x.bx, .box [.int .i64 0, .str [], .int .i64 0, .full [], .full []], .box [.int .i64 5, .str [], .int .i64 (t.n), .own 4 0 (((([] : List (List UInt8)) ++ ((t.names.take k).drop 0)) ++ [s]) ++ ((t.names.take t.names.length).drop k)).length, .own 5 0 0], .arr 1 ((((([] : List (List UInt8)) ++ ((t.names.take k).drop 0)) ++ [s]) ++ ((t.names.take t.names.length).drop k)).map AVal.str) 0, .arr 5 (([] : List (Ty)).map Ty.enc) 0] ?_ ?_
 refine qSeq ?_ ?_
 refine wDrw cxM (by kernel_rfl) extThen (dstart ?_)
 refine qu 5 ?_ ?_
 refine qd (o_slcmap (lo := none) (hi := (some (.int .i64 ((k : Nat) : Int)))) (l := t.kids) (enc := Ty.enc) (x := 0) (y := ((k : Nat) : Int)) (by kernel_rfl) ty23 ty25 ty_size (by kernel_rfl) (by kernel_rfl) (by omega) (by omega) (by omega)) ?_ ?_ ?_ ?_
 refine qD (o_appmap (o := 5) (len := 0) (l := ([] : List (Ty))) (xs := ((t.kids.take k).drop 0)) (enc := Ty.enc) (sz := 5) (fr := 0) (x := (.imm (((t.kids.take k).drop 0).map Ty.enc))) (by kernel_rfl) ty23 ty25 ty23 rfl (by kernel_rfl) rfl (by first | rfl | simp) (by kernel_rfl) ⟨by decide, by kernel_rfl⟩ ty_ok (by simp only [List.length_append, List.length_take, List.length_drop, List.length_cons, List.length_nil]; omega) (by simp only [List.length_append, List.length_take, List.length_drop, List.length_cons, List.length_nil]; omega)) ?_ ?_ ?_ ?_
 refine qu 2 ?_ ?_
 refine qD (o_appmap (o := 5) (len := ((([] : List (Ty)) ++ ((t.kids.take k).drop 0)).length)) (l := (([] : List (Ty)) ++ ((t.kids.take k).drop 0))) (xs := [x]) (enc := Ty.enc) (sz := 5) (fr := 0) (x := (.full [.agg [.int .i64 (x.kind), .str x.name, .int .i64 (x.n), .imm (x.names.map AVal.str), .imm (x.kids.map Ty.enc)]])) (by kernel_rfl) ty23 ty25 ty23 rfl (by kernel_rfl) rfl (by first | rfl | simp) (Eq.trans (b := some [Ty.v x]) (by kernel_rfl) (by simp [Ty.enc_v])) ⟨by decide, by kernel_rfl⟩ ty_ok (by simp only [List.length_append, List.length_take, List.length_drop, List.length_cons, List.length_nil]; omega) (by simp only [List.length_append, List.length_take, List.length_drop, List.length_cons, List.length_nil]; omega)) ?_ ?_ ?_ ?_
 refine qu 3 ?_ ?_
 refine qd (o_slcmap (lo := (some (.int .i64 ((k : Nat) : Int)))) (hi := none) (l := t.kids) (enc := Ty.enc) (x := ((k : Nat) : Int)) (y := ((t.kids.length : Nat) : Int)) (by kernel_rfl) ty23 ty25 ty_size (by kernel_rfl) (by kernel_rfl) (by omega) (by omega) (by omega)) ?_ ?_ ?_ ?_
 refine qD (o_appmap (o := 5) (len := (((([] : List (Ty)) ++ ((t.kids.take k).drop 0)) ++ [x]).length)) (l := ((([] : List (Ty)) ++ ((t.kids.take k).drop 0)) ++ [x])) (xs := ((t.kids.take t.kids.length).drop k)) (enc := Ty.enc) (sz := 5) (fr := 0) (x := (.imm (((t.kids.take t.kids.length).drop k).map Ty.enc))) (by kernel_rfl) ty23 ty25 ty23 rfl (by kernel_rfl) rfl (by first | rfl | simp) (by kernel_rfl) ⟨by decide, by kernel_rfl⟩ ty_ok (by simp only [List.length_append, List.length_take, List.length_drop, List.length_cons, List.length_nil]; omega) (by simp only [List.length_append, List.length_take, List.length_drop, List.length_cons, List.length_nil]; omega)) ?_ ?_ ?_ ?_
 refine qu 2 ?_ ?_
 refine dend (by kernel_rfl) ⟨(by kernel_rfl), ?_⟩
 refine AThen_normal ?_
 refine qZ [(6, .ptr 2 0), (8, .ptr 3 0)] [t.bx, x.bx, .box [.int .i64 0, .str [], .int .i64 0, .full [], .full []], .box [.int .i64 5, .str [], .int .i64 (t.n), .own 4 0 (((([] : List (List UInt8)) ++ ((t.names.take k).drop 0)) ++ [s]) ++ ((t.names.take t.names.length).drop k)).length, .own 5 0 (((([] : List (Ty)) ++ ((t.kids.take k).drop 0)) ++ [x]) ++ ((t.kids.take t.kids.length).drop k)).length], .arr 1 ((((([] : List (List UInt8)) ++ ((t.names.take k).drop 0)) ++ [s]) ++ ((t.names.take t.names.length).drop k)).map AVal.str) 0, .arr 5 ((((([] : List (Ty)) ++ ((t.kids.take k).drop 0)) ++ [x]) ++ ((t.kids.take t.kids.length).drop k)).map Ty.enc) 0] ?_ ?_
 refine wFrzC 3 3 4 (cs := [.int .i64 5, .str [], .int .i64 (t.n), .own 4 0 (((([] : List (List UInt8)) ++ ((t.names.take k).drop 0)) ++ [s]) ++ ((t.names.take t.names.length).drop k)).length, .own 5 0 (((([] : List (Ty)) ++ ((t.kids.take k).drop 0)) ++ [x]) ++ ((t.kids.take t.kids.length).drop k)).length]) (es := ((((([] : List (List UInt8)) ++ ((t.names.take k).drop 0)) ++ [s]) ++ ((t.names.take t.names.length).drop k)).map AVal.str)) (off := 0) (len := ((((([] : List (List UInt8)) ++ ((t.names.take k).drop 0)) ++ [s]) ++ ((t.names.take t.names.length).drop k)).length)) (sz := 1) (fr := 0) [.int .i64 5, .str [], .int .i64 (t.n), .imm ((((([] : List (List UInt8)) ++ ((t.names.take k).drop 0)) ++ [s]) ++ ((t.names.take t.names.length).drop k)).map AVal.str), .own 5 0 (((([] : List (Ty)) ++ ((t.kids.take k).drop 0)) ++ [x]) ++ ((t.kids.take t.kids.length).drop k)).length] ((((([] : List (List UInt8)) ++ ((t.names.take k).drop 0)) ++ [s]) ++ ((t.names.take t.names.length).drop k)).map AVal.str) (by decide) (by kernel_rfl) (by kernel_rfl) (by kernel_rfl) (by simp) (by kernel_rfl) (by kernel_rfl) ?_
 refine qZ [(6, .ptr 2 0), (8, .ptr 3 0)] [t.bx, x.bx, .box [.int .i64 0, .str [], .int .i64 0, .full [], .full []], .box [.int .i64 5, .str [], .int .i64 (t.n), .imm ((((([] : List (List UInt8)) ++ ((t.names.take k).drop 0)) ++ [s]) ++ ((t.names.take t.names.length).drop k)).map AVal.str), .own 5 0 (((([] : List (Ty)) ++ ((t.kids.take k).drop 0)) ++ [x]) ++ ((t.kids.take t.kids.length).drop k)).length], .arr 1 ((((([] : List (List UInt8)) ++ ((t.names.take k).drop 0)) ++ [s]) ++ ((t.names.take t.names.length).drop k)).map AVal.str) ((((([] : List (List UInt8)) ++ ((t.names.take k).drop 0)) ++ [s]) ++ ((t.names.take t.names.length).drop k)).map AVal.str).length, .arr 5 ((((([] : List (Ty)) ++ ((t.kids.take k).drop 0)) ++ [x]) ++ ((t.kids.take t.kids.length).drop k)).map Ty.enc) 0] ?_ ?_
 refine qW 2 [(6, .ptr 2 0)] [t.bx, x.bx, .box [.int .i64 5, .str [], .int .i64 (t.n), .imm ((((([] : List (List UInt8)) ++ ((t.names.take k).drop 0)) ++ [s]) ++ ((t.names.take t.names.length).drop k)).map AVal.str), .own 5 0 (((([] : List (Ty)) ++ ((t.kids.take k).drop 0)) ++ [x]) ++ ((t.kids.take t.kids.length).drop k)).length], .box [.int .i64 5, .str [], .int .i64 (t.n), .imm ((((([] : List (List UInt8)) ++ ((t.names.take k).drop 0)) ++ [s]) ++ ((t.names.take t.names.length).drop k)).map AVal.str), .own 5 0 (((([] : List (Ty)) ++ ((t.kids.take k).drop 0)) ++ [x]) ++ ((t.kids.take t.kids.length).drop k)).length], .arr 1 ((((([] : List (List UInt8)) ++ ((t.names.take k).drop 0)) ++ [s]) ++ ((t.names.take t.names.length).drop k)).map AVal.str) ((((([] : List (List UInt8)) ++ ((t.names.take k).drop 0)) ++ [s]) ++ ((t.names.take t.names.length).drop k)).map AVal.str).length, .arr 5 ((((([] : List (Ty)) ++ ((t.kids.take k).drop 0)) ++ [x]) ++ ((t.kids.take t.kids.length).drop k)).map Ty.enc) 0] ?_ ?_
 refine wRen [5, 2] [(6, .ptr 1 0)] [.arr 5 ((((([] : List (Ty)) ++ ((t.kids.take k).drop 0)) ++ [x]) ++ ((t.kids.take t.kids.length).drop k)).map Ty.enc) 0, .box [.int .i64 5, .str [], .int .i64 (t.n), .imm ((((([] : List (List UInt8)) ++ ((t.names.take k).drop 0)) ++ [s]) ++ ((t.names.take t.names.length).drop k)).map AVal.str), .own 0 0 (((([] : List (Ty)) ++ ((t.kids.take k).drop 0)) ++ [x]) ++ ((t.kids.take t.kids.length).drop k)).length]] (by decide) (by simp [-List.map_append, -List.map_take, -List.map_drop, -List.append_assoc, AVal.refs, refsL, AObj.refs, AObj.isIter, objOk, Abs.renT, keepH, renO, AObj.ren, AVal.ren, renL, List.idxOf_cons]) (by simp [-List.map_append, -List.map_take, -List.map_drop, -List.append_assoc, AVal.refs, refsL, AObj.refs, AObj.isIter, objOk, Abs.renT, keepH, renO, AObj.ren, AVal.ren, renL, List.idxOf_cons]) (by simp [-List.map_append, -List.map_take, -List.map_drop, -List.append_assoc, AVal.refs, refsL, AObj.refs, AObj.isIter, objOk, Abs.renT, keepH, renO, AObj.ren, AVal.ren, renL, List.idxOf_cons]) (by simp [-List.map_append, -List.map_take, -List.map_drop, -List.append_assoc, AVal.refs, refsL, AObj.refs, AObj.isIter, objOk, Abs.renT, keepH, renO, AObj.ren, AVal.ren, renL, List.idxOf_cons]) ?_
 refine qZ [(6, .ptr 1 0)] [.arr 5 ((((([] : List (Ty)) ++ ((t.kids.take k).drop 0)) ++ [x]) ++ ((t.kids.take t.kids.length).drop k)).map Ty.enc) 0, .box [.int .i64 5, .str [], .int .i64 (t.n), .imm ((((([] : List (List UInt8)) ++ ((t.names.take k).drop 0)) ++ [s]) ++ ((t.names.take t.names.length).drop k)).map AVal.str), .own 0 0 (((([] : List (Ty)) ++ ((t.kids.take k).drop 0)) ++ [x]) ++ ((t.kids.take t.kids.length).drop k)).length]] ?_ ?_
 refine wRet (by kernel_rfl) ?_
 refine leafR (l := [.agg [.int .i64 5, .str [], .int .i64 (t.n), .imm ((((([] : List (List UInt8)) ++ ((t.names.take k).drop 0)) ++ [s]) ++ ((t.names.take t.names.length).drop k)).map AVal.str), .own 0 0 (((([] : List (Ty)) ++ ((t.kids.take k).drop 0)) ++ [x]) ++ ((t.kids.take t.kids.length).drop k)).length]]) 1 [.arr 5 ((((([] : List (Ty)) ++ ((t.kids.take k).drop 0)) ++ [x]) ++ ((t.kids.take t.kids.length).drop k)).map Ty.enc) 0] (.inr rfl) (by kernel_rfl) (Nat.zero_le _) (by kernel_rfl) (by simp [awrap, -List.map_append, -List.map_take, -List.map_drop, -List.append_assoc]) (by simp [AObj.belO, -List.map_append, -List.map_take, -List.map_drop, -List.append_assoc]) ?_
 rotate_left
 iterate 54 kernel_rfl
 refine qm [13, 14] (decide_eq_false hb1) ?_ ?_
 refine qR 8 [(1, .str s), (3, .ptr 0 0), (5, .ptr 1 0), (6, .ptr 2 0), (7, nI k), (15, .tup []), (16, .tup []), (17, .tup []), (18, .tup []), (19, .tup []), (20, .tup []), (21, .tup []), (22, .bool false)] [t.bx, x.bx, .box [.int .i64 0, .str [], .int .i64 0, .full [], .full []]] ?_ ?_
 refine wIfF (by kernel_rfl) (by kernel_rfl) ?_
 refine wExit 0 (by kernel_rfl) (by kernel_rfl) ?_
 refine AThen_exit ?_
 refine AThen_exit ?_
 refine AIn_exit ?_
 refine AThen_normal ?_
 refine qz [(1, .str s), (3, .ptr 0 0), (5, .ptr 1 0), (6, .ptr 2 0), (7, nI k)] ?_ ?_
 refine qW 5 [(1, .str s), (3, .ptr 0 0), (5, .ptr 1 0), (6, .ptr 2 0), (7, nI k), (8, .ptr 3 0)] [t.bx, x.bx, .box [.int .i64 0, .str [], .int .i64 0, .full [], .full []], .box [.int .i64 5, .str [], .int .i64 (t.n), .full [], .full []]] ?_ ?_
 refine wOwnB 3 3 1 (cs := [.int .i64 5, .str [], .int .i64 (t.n), .full [], .full []]) [.int .i64 5, .str [], .int .i64 (t.n), .own 4 0 0, .full []] (by decide) (by kernel_rfl) (by kernel_rfl) (by kernel_rfl) ?_
 refine wOwnB 3 4 5 (cs := [.int .i64 5, .str [], .int .i64 (t.n), .own 4 0 0, .full []]) [.int .i64 5, .str [], .int .i64 (t.n), .own 4 0 0, .own 5 0 0] (by decide) (by kernel_rfl) (by kernel_rfl) (by kernel_rfl) ?_
 refine qZ [(1, .str s), (3, .ptr 0 0), (5, .ptr 1 0), (6, .ptr 2 0), (7, nI k), (8, .ptr 3 0)] [t.bx, x.bx, .box [.int .i64 0, .str [], .int .i64 0, .full [], .full []], .box [.int .i64 5, .str [], .int .i64 (t.n), .own 4 0 0, .own 5 0 0], .arr 1 (([] : List (List UInt8)).map AVal.str) 0, .arr 5 (([] : List (Ty)).map Ty.enc) 0] ?_ ?_
 refine qSeq ?_ ?_
 refine wDrw cxM (by kernel_rfl) extThen (dstart ?_)
 refine qu 5 ?_ ?_
 refine qd (o_slcmap (lo := none) (hi := (some (.int .i64 ((k : Nat) : Int)))) (l := t.names) (enc := AVal.str) (x := 0) (y := ((k : Nat) : Int)) (by kernel_rfl) ty22 ty9 (fun _ => rfl) (by kernel_rfl) (by kernel_rfl) (by omega) (by omega) (by omega)) ?_ ?_ ?_ ?_
 refine qD (o_appmap (o := 4) (len := 0) (l := ([] : List (List UInt8))) (xs := ((t.names.take k).drop 0)) (enc := AVal.str) (sz := 1) (fr := 0) (x := (.imm (((t.names.take k).drop 0).map AVal.str))) (by kernel_rfl) ty22 ty9 ty22 rfl (by kernel_rfl) rfl (by first | rfl | simp) (by kernel_rfl) ⟨by decide, by kernel_rfl⟩ (fun _ => rfl) (by simp only [List.length_append, List.length_take, List.length_drop, List.length_cons, List.length_nil]; omega) (by simp only [List.length_append, List.length_take, List.length_drop, List.length_cons, List.length_nil]; omega)) ?_ ?_ ?_ ?_
 refine qu 2 ?_ ?_
 refine qD (o_appmap (o := 4) (len := ((([] : List (List UInt8)) ++ ((t.names.take k).drop 0)).length)) (l := (([] : List (List UInt8)) ++ ((t.names.take k).drop 0))) (xs := [s]) (enc := AVal.str) (sz := 1) (fr := 0) (x := (.full [.str s])) (by kernel_rfl) ty22 ty9 ty22 rfl (by kernel_rfl) rfl (by first | rfl | simp) (by kernel_rfl) ⟨by decide, by kernel_rfl⟩ (fun _ => rfl) (by simp only [List.length_append, List.length_take, List.length_drop, List.length_cons, List.length_nil]; omega) (by simp only [List.length_append, List.length_take, List.length_drop, List.length_cons, List.length_nil]; omega)) ?_ ?_ ?_ ?_
 refine qu 3 ?_ ?_
 refine qd (o_slcmap (lo := (some (.int .i64 ((k : Nat) : Int)))) (hi := none) (l := t.names) (enc := AVal.str) (x := ((k : Nat) : Int)) (y := ((t.names.length : Nat) : Int)) (by kernel_rfl) ty22 ty9 (fun _ => rfl) (by kernel_rfl) (by kernel_rfl) (by omega) (by omega) (by omega)) ?_ ?_ ?_ ?_
 refine qD (o_appmap (o := 4) (len := (((([] : List (List UInt8)) ++ ((t.names.take k).drop 0)) ++ [s]).length)) (l := ((([] : List (List UInt8)) ++ ((t.names.take k).drop 0)) ++ [s])) (xs := ((t.names.take t.names.length).drop k)) (enc := AVal.str) (sz := 1) (fr := 0) (x := (.imm (((t.names.take t.names.length).drop k).map AVal.str))) (by kernel_rfl) ty22 ty9 ty22 rfl (by kernel_rfl) rfl (by first | rfl | simp) (by kernel_rfl) ⟨by decide, by kernel_rfl⟩ (fun _ => rfl) (by simp only [List.length_append, List.length_take, List.length_drop, List.length_cons, List.length_nil]; omega) (by simp only [List.length_append, List.length_take, List.length_drop, List.length_cons, List.length_nil]; omega)) ?_ ?_ ?_ ?_
 refine qu 2 ?_ ?_
 refine dend (by kernel_rfl) ⟨(by kernel_rfl), ?_⟩
 refine AThen_normal ?_
 refine qZ [(3, .ptr 0 0), (5, .ptr 1 0), (6, .ptr 2 0), (7, nI k), (8, .ptr 3 0)] [t.bx, x.bx, .box [.int .i64 0, .str [], .int .i64 0, .full [], .full []], .box [.int .i64 5, .str [], .int .i64 (t.n), .own 4 0 (((([] : List (List UInt8)) ++ ((t.names.take k).drop 0)) ++ [s]) ++ ((t.names.take t.names.length).drop k)).length, .own 5 0 0], .arr 1 ((((([] : List (List UInt8)) ++ ((t.names.take k).drop 0)) ++ [s]) ++ ((t.names.take t.names.length).drop k)).map AVal.str) 0, .arr 5 (([] : List (Ty)).map Ty.enc) 0] ?_ ?_
 refine qSeq ?_ ?_
 refine wDrw cxM (by kernel_rfl) extThen (dstart ?_)
 refine qu 5 ?_ ?_
 refine qd (o_slcmap (lo := none) (hi := (some (.int .i64 ((k : Nat) : Int)))) (l := t.kids) (enc := Ty.enc) (x := 0) (y := ((k : Nat) : Int)) (by kernel_rfl) ty23 ty25 ty_size (by kernel_rfl) (by kernel_rfl) (by omega) (by omega) (by omega)) ?_ ?_ ?_ ?_
 refine qD (o_appmap (o := 5) (len := 0) (l := ([] : List (Ty))) (xs := ((t.kids.take k).drop 0)) (enc := Ty.enc) (sz := 5) (fr := 0) (x := (.imm (((t.kids.take k).drop 0).map Ty.enc))) (by kernel_rfl) ty23 ty25 ty23 rfl (by kernel_rfl) rfl (by first | rfl | simp) (by kernel_rfl) ⟨by decide, by kernel_rfl⟩ ty_ok (by simp only [List.length_append, List.length_take, List.length_drop, List.length_cons, List.length_nil]; omega) (by simp only [List.length_append, List.length_take, List.length_drop, List.length_cons, List.length_nil]; omega)) ?_ ?_ ?_ ?_
 refine qu 2 ?_ ?_
 refine qD (o_appmap (o := 5) (len := ((([] : List (Ty)) ++ ((t.kids.take k).drop 0)).length)) (l := (([] : List (Ty)) ++ ((t.kids.take k).drop 0))) (xs := [x]) (enc := Ty.enc) (sz := 5) (fr := 0) (x := (.full [.agg [.int .i64 (x.kind), .str x.name, .int .i64 (x.n), .imm (x.names.map AVal.str), .imm (x.kids.map Ty.enc)]])) (by kernel_rfl) ty23 ty25 ty23 rfl (by kernel_rfl) rfl (by first | rfl | simp) (Eq.trans (b := some [Ty.v x]) (by kernel_rfl) (by simp [Ty.enc_v])) ⟨by decide, by kernel_rfl⟩ ty_ok (by simp only [List.length_append, List.length_take, List.length_drop, List.length_cons, List.length_nil]; omega) (by simp only [List.length_append, List.length_take, List.length_drop, List.length_cons, List.length_nil]; omega)) ?_ ?_ ?_ ?_
 refine qu 3 ?_ ?_
 refine qd (o_slcmap (lo := (some (.int .i64 ((k : Nat) : Int)))) (hi := none) (l := t.kids) (enc := Ty.enc) (x := ((k : Nat) : Int)) (y := ((t.kids.length : Nat) : Int)) (by kernel_rfl) ty23 ty25 ty_size (by kernel_rfl) (by kernel_rfl) (by omega) (by omega) (by omega)) ?_ ?_ ?_ ?_
 refine qD (o_appmap (o := 5) (len := (((([] : List (Ty)) ++ ((t.kids.take k).drop 0)) ++ [x]).length)) (l := ((([] : List (Ty)) ++ ((t.kids.take k).drop 0)) ++ [x])) (xs := ((t.kids.take t.kids.length).drop k)) (enc := Ty.enc) (sz := 5) (fr := 0) (x := (.imm (((t.kids.take t.kids.length).drop k).map Ty.enc))) (by kernel_rfl) ty23 ty25 ty23 rfl (by kernel_rfl) rfl (by first | rfl | simp) (by kernel_rfl) ⟨by decide, by kernel_rfl⟩ ty_ok (by simp only [List.length_append, List.length_take, List.length_drop, List.length_cons, List.length_nil]; omega) (by simp only [List.length_append, List.length_take, List.length_drop, List.length_cons, List.length_nil]; omega)) ?_ ?_ ?_ ?_
 refine qu 2 ?_ ?_
 refine dend (by kernel_rfl) ⟨(by kernel_rfl), ?_⟩
 refine AThen_normal ?_
 refine qZ [(6, .ptr 2 0), (8, .ptr 3 0)] [t.bx, x.bx, .box [.int .i64 0, .str [], .int .i64 0, .full [], .full []], .box [.int .i64 5, .str [], .int .i64 (t.n), .own 4 0 (((([] : List (List UInt8)) ++ ((t.names.take k).drop 0)) ++ [s]) ++ ((t.names.take t.names.length).drop k)).length, .own 5 0 (((([] : List (Ty)) ++ ((t.kids.take k).drop 0)) ++ [x]) ++ ((t.kids.take t.kids.length).drop k)).length], .arr 1 ((((([] : List (List UInt8)) ++ ((t.names.take k).drop 0)) ++ [s]) ++ ((t.names.take t.names.length).drop k)).map AVal.str) 0, .arr 5 ((((([] : List (Ty)) ++ ((t.kids.take k).drop 0)) ++ [x]) ++ ((t.kids.take t.kids.length).drop k)).map Ty.enc) 0] ?_ ?_
 refine wFrzC 3 3 4 (cs := [.int .i64 5, .str [], .int .i64 (t.n), .own 4 0 (((([] : List (List UInt8)) ++ ((t.names.take k).drop 0)) ++ [s]) ++ ((t.names.take t.names.length).drop k)).length, .own 5 0 (((([] : List (Ty)) ++ ((t.kids.take k).drop 0)) ++ [x]) ++ ((t.kids.take t.kids.length).drop k)).length]) (es := ((((([] : List (List UInt8)) ++ ((t.names.take k).drop 0)) ++ [s]) ++ ((t.names.take t.names.length).drop k)).map AVal.str)) (off := 0) (len := ((((([] : List (List UInt8)) ++ ((t.names.take k).drop 0)) ++ [s]) ++ ((t.names.take t.names.length).drop k)).length)) (sz := 1) (fr := 0) [.int .i64 5, .str [], .int .i64 (t.n), .imm ((((([] : List (List UInt8)) ++ ((t.names.take k).drop 0)) ++ [s]) ++ ((t.names.take t.names.length).drop k)).map AVal.str), .own 5 0 (((([] : List (Ty)) ++ ((t.kids.take k).drop 0)) ++ [x]) ++ ((t.kids.take t.kids.length).drop k)).length] ((((([] : List (List UInt8)) ++ ((t.names.take k).drop 0)) ++ [s]) ++ ((t.names.take t.names.length).drop k)).map AVal.str) (by decide) (by kernel_rfl) (by kernel_rfl) (by kernel_rfl) (by simp) (by kernel_rfl) (by kernel_rfl) ?_
 refine qZ [(6, .ptr 2 0), (8, .ptr 3 0)] [t.bx, x.bx, .box [.int .i64 0, .str [], .int .i64 0, .full [], .full []], .box [.int .i64 5, .str [], .int .i64 (t.n), .imm ((((([] : List (List UInt8)) ++ ((t.names.take k).drop 0)) ++ [s]) ++ ((t.names.take t.names.length).drop k)).map AVal.str), .own 5 0 (((([] : List (Ty)) ++ ((t.kids.take k).drop 0)) ++ [x]) ++ ((t.kids.take t.kids.length).drop k)).length], .arr 1 ((((([] : List (List UInt8)) ++ ((t.names.take k).drop 0)) ++ [s]) ++ ((t.names.take t.names.length).drop k)).map AVal.str) ((((([] : List (List UInt8)) ++ ((t.names.take k).drop 0)) ++ [s]) ++ ((t.names.take t.names.length).drop k)).map AVal.str).length, .arr 5 ((((([] : List (Ty)) ++ ((t.kids.take k).drop 0)) ++ [x]) ++ ((t.kids.take t.kids.length).drop k)).map Ty.enc) 0] ?_ ?_
 refine qW 2 [(6, .ptr 2 0)] [t.bx, x.bx, .box [.int .i64 5, .str [], .int .i64 (t.n), .imm ((((([] : List (List UInt8)) ++ ((t.names.take k).drop 0)) ++ [s]) ++ ((t.names.take t.names.length).drop k)).map AVal.str), .own 5 0 (((([] : List (Ty)) ++ ((t.kids.take k).drop 0)) ++ [x]) ++ ((t.kids.take t.kids.length).drop k)).length], .box [.int .i64 5, .str [], .int .i64 (t.n), .imm ((((([] : List (List UInt8)) ++ ((t.names.take k).drop 0)) ++ [s]) ++ ((t.names.take t.names.length).drop k)).map AVal.str), .own 5 0 (((([] : List (Ty)) ++ ((t.kids.take k).drop 0)) ++ [x]) ++ ((t.kids.take t.kids.length).drop k)).length], .arr 1 ((((([] : List (List UInt8)) ++ ((t.names.take k).drop 0)) ++ [s]) ++ ((t.names.take t.names.length).drop k)).map AVal.str) ((((([] : List (List UInt8)) ++ ((t.names.take k).drop 0)) ++ [s]) ++ ((t.names.take t.names.length).drop k)).map AVal.str).length, .arr 5 ((((([] : List (Ty)) ++ ((t.kids.take k).drop 0)) ++ [x]) ++ ((t.kids.take t.kids.length).drop k)).map Ty.enc) 0] ?_ ?_
 refine wRen [5, 2] [(6, .ptr 1 0)] [.arr 5 ((((([] : List (Ty)) ++ ((t.kids.take k).drop 0)) ++ [x]) ++ ((t.kids.take t.kids.length).drop k)).map Ty.enc) 0, .box [.int .i64 5, .str [], .int .i64 (t.n), .imm ((((([] : List (List UInt8)) ++ ((t.names.take k).drop 0)) ++ [s]) ++ ((t.names.take t.names.length).drop k)).map AVal.str), .own 0 0 (((([] : List (Ty)) ++ ((t.kids.take k).drop 0)) ++ [x]) ++ ((t.kids.take t.kids.length).drop k)).length]] (by decide) (by simp [-List.map_append, -List.map_take, -List.map_drop, -List.append_assoc, AVal.refs, refsL, AObj.refs, AObj.isIter, objOk, Abs.renT, keepH, renO, AObj.ren, AVal.ren, renL, List.idxOf_cons]) (by simp [-List.map_append, -List.map_take, -List.map_drop, -List.append_assoc, AVal.refs, refsL, AObj.refs, AObj.isIter, objOk, Abs.renT, keepH, renO, AObj.ren, AVal.ren, renL, List.idxOf_cons]) (by simp [-List.map_append, -List.map_take, -List.map_drop, -List.append_assoc, AVal.refs, refsL, AObj.refs, AObj.isIter, objOk, Abs.renT, keepH, renO, AObj.ren, AVal.ren, renL, List.idxOf_cons]) (by simp [-List.map_append, -List.map_take, -List.map_drop, -List.append_assoc, AVal.refs, refsL, AObj.refs, AObj.isIter, objOk, Abs.renT, keepH, renO, AObj.ren, AVal.ren, renL, List.idxOf_cons]) ?_
 refine qZ [(6, .ptr 1 0)] [.arr 5 ((((([] : List (Ty)) ++ ((t.kids.take k).drop 0)) ++ [x]) ++ ((t.kids.take t.kids.length).drop k)).map Ty.enc) 0, .box [.int .i64 5, .str [], .int .i64 (t.n), .imm ((((([] : List (List UInt8)) ++ ((t.names.take k).drop 0)) ++ [s]) ++ ((t.names.take t.names.length).drop k)).map AVal.str), .own 0 0 (((([] : List (Ty)) ++ ((t.kids.take k).drop 0)) ++ [x]) ++ ((t.kids.take t.kids.length).drop k)).length]] ?_ ?_
 refine wRet (by kernel_rfl) ?_
 refine leafR (l := [.agg [.int .i64 5, .str [], .int .i64 (t.n), .imm ((((([] : List (List UInt8)) ++ ((t.names.take k).drop 0)) ++ [s]) ++ ((t.names.take t.names.length).drop k)).map AVal.str), .own 0 0 (((([] : List (Ty)) ++ ((t.kids.take k).drop 0)) ++ [x]) ++ ((t.kids.take t.kids.length).drop k)).length]]) 1 [.arr 5 ((((([] : List (Ty)) ++ ((t.kids.take k).drop 0)) ++ [x]) ++ ((t.kids.take t.kids.length).drop k)).map Ty.enc) 0] (.inr rfl) (by kernel_rfl) (Nat.zero_le _) (by kernel_rfl) (by simp [awrap, -List.map_append, -List.map_take, -List.map_drop, -List.append_assoc]) (by simp [AObj.belO, -List.map_append, -List.map_take, -List.map_drop, -List.append_assoc]) ?_
 rotate_left
 iterate 61 kernel_rfl
 all_goals
  have hput : putAt t.names s = k := putAt_stop _ _ _ ha (by omega) (fun hlt => by first | exact Bool.eq_false_iff.2 (by assumption) | (exfalso; omega))
  refine ⟨?_, ?_⟩
  · rw [recV_put]; simp [putN, putK, hput, awrap]
  · rw [recH_put]; simp [putN, putK, hput]
end Go.Proofs.YtdikgijfekfaoaaGreatDoor
