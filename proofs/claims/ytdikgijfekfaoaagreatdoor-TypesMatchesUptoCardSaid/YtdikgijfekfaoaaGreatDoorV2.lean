/- only and record of package types. Condition: sizes that can be had, names apart. -/
import Derived.Test.YtdikgijfekfaoaaGreatDoorV1
import Derived.Test.YtdikgijfekfaoaaGreatDoorH2
import Derived.Test.YtdikgijfekfaoaaGreatDoorAbse
set_option linter.all false
set_option linter.unusedSimpArgs false
set_option linter.unusedVariables false
namespace Go.Proofs.YtdikgijfekfaoaaGreatDoor
open Go.Proofs.YtdikgijfekfaoaaGreatDoor.Abs
set_option maxRecDepth 20000
set_option maxHeartbeats 4000000
abbrev Fd := List (List UInt8 × Ty)
@[simp] theorem encM_fd (k : Nat) (l : Fd) : ((encM AVal.str Ty.v l).all fun e => e.1.bel k && e.2.bel k) = true := by
  simp [encM, Ty.v, List.all_eq_true]
/-- The kids of a record by its sorted names, the first k. -/
def recK (l : Fd) (k : Nat) : List Ty := ((sSort (l.map Prod.fst)).take k).map fun s => (mget s l).getD Ty.zero
def recT (l : Fd) (n : Int) : Ty := .mk 5 [] n (sSort (l.map Prod.fst)) (recK l (sSort (l.map Prod.fst)).length)
theorem recK_succ {l : Fd} {k : Nat} {x : Ty} (hk : k < (sSort (l.map Prod.fst)).length) (h : mget ((sSort (l.map Prod.fst)).getD k []) l = some x) : recK l k ++ [x] = recK l (k + 1) := by
  unfold recK
  rw [List.take_succ_eq_append_getElem hk, List.map_append, List.map_singleton]
  rw [List.getD_eq_getElem?_getD, List.getElem?_eq_getElem hk, Option.getD_some] at h
  rw [h]; rfl
theorem recK_len (l : Fd) (k : Nat) (h : k ≤ (sSort (l.map Prod.fst)).length) : (recK l k).length = k := by simp [recK, List.length_take]; omega
theorem mget_in {s : List UInt8} : ∀ {l : Fd}, s ∈ l.map Prod.fst → ¬ mget s l = none
  | [], h => by simp at h
  | p :: l, h => by
    rw [mget]
    split
    · simp
    · rename_i hne
      simp only [List.map_cons, List.mem_cons] at h
      rcases h with h | h
      · exact absurd h hne
      · exact mget_in h
theorem sorted_no {l : Fd} {k : Nat} (hk : k < (sSort (l.map Prod.fst)).length) : ¬ mget ((sSort (l.map Prod.fst)).getD k []) l = none := by
  refine mget_in ?_
  rw [List.getD_eq_getElem?_getD, List.getElem?_eq_getElem hk]
  exact (sSort_perm _).subset (List.getElem_mem hk)
def fdOk (l : Fd) : Prop := (l.map Prod.fst).Nodup ∧ (∀ p ∈ l, p.1.length ≤ 1000000000) ∧ l.length < 100000000
theorem fd_len {l : Fd} (h : fdOk l) : (sSort (l.map Prod.fst)).length < 100000000 := by
  rw [(sSort_perm _).length_eq, List.length_map]; exact h.2.2
noncomputable def c114 : Code := bodyOf Tryz.f114
theorem keys_raw (t u : Ty) (l : Fd)  : CallsA cx 114 [.map 3] [.box [.int .i64 (t.kind), .str t.name, .int .i64 (t.n), .imm (t.names.map AVal.str), .imm (t.kids.map Ty.enc)], .box [.int .i64 (u.kind), .str u.name, .int .i64 (u.n), .imm (u.names.map AVal.str), .imm (u.kids.map Ty.enc)], .box [.int .i64 0, .str [], .int .i64 0, .full [], .full []], .map (encM AVal.str Ty.v l), .box [.int .i64 0, .str [], .int .i64 0, .full [], .full []]] (fun v h => v = .fn (.func 127) [] [.ptr 5 0] ∧ h = [.box [.int .i64 (t.kind), .str t.name, .int .i64 (t.n), .imm (t.names.map AVal.str), .imm (t.kids.map Ty.enc)], .box [.int .i64 (u.kind), .str u.name, .int .i64 (u.n), .imm (u.names.map AVal.str), .imm (u.kids.map Ty.enc)], .box [.int .i64 0, .str [], .int .i64 0, .full [], .full []], .map (encM AVal.str Ty.v l), .box [.int .i64 0, .str [], .int .i64 0, .full [], .full []], .box [.map 3]]) := by
 refine func_raw (cx := cx) 4 5 [(ResultVar.tmp 2)] Tryz.func114 rfl rfl rfl rfl rfl (by simp) ?_
 show wpA cx 4 5 (at_ c114 []) _ _ _
 refine qZ [(0, .map 3)] [t.bx, u.bx, .box [.int .i64 0, .str [], .int .i64 0, .full [], .full []], .map (encM AVal.str Ty.v l), .box [.int .i64 0, .str [], .int .i64 0, .full [], .full []]] ?_ ?_
 refine qW 2 [(1, .ptr 5 0)] [t.bx, u.bx, .box [.int .i64 0, .str [], .int .i64 0, .full [], .full []], .map (encM AVal.str Ty.v l), .box [.int .i64 0, .str [], .int .i64 0, .full [], .full []], .box [.map 3]] ?_ ?_
 refine qU 2 [(2, .fn (.func 127) [] [.ptr 5 0])] ?_ ?_
 refine wRet (by kernel_rfl) ?_
 refine leafR (l := [.fn (.func 127) [] [.ptr 5 0]]) 6 [.box [.int .i64 (t.kind), .str t.name, .int .i64 (t.n), .imm (t.names.map AVal.str), .imm (t.kids.map Ty.enc)], .box [.int .i64 (u.kind), .str u.name, .int .i64 (u.n), .imm (u.names.map AVal.str), .imm (u.kids.map Ty.enc)], .box [.int .i64 0, .str [], .int .i64 0, .full [], .full []], .map (encM AVal.str Ty.v l), .box [.int .i64 0, .str [], .int .i64 0, .full [], .full []], .box [.map 3]] (.inr rfl) (by kernel_rfl) (by decide) (by kernel_rfl) (by simp [awrap, -List.map_append, -List.map_take, -List.map_drop, -List.append_assoc]) (by simp [AObj.belO, -List.map_append, -List.map_take, -List.map_drop, -List.append_assoc]) ?_
 · exact ⟨rfl, rfl⟩
 iterate 3 kernel_rfl
theorem sorted_fd (t u : Ty) (l : Fd) (hl : fdOk l) : CallsA cx 113 [.fn (.func 127) [] [.ptr 5 0]] [.box [.int .i64 (t.kind), .str t.name, .int .i64 (t.n), .imm (t.names.map AVal.str), .imm (t.kids.map Ty.enc)], .box [.int .i64 (u.kind), .str u.name, .int .i64 (u.n), .imm (u.names.map AVal.str), .imm (u.kids.map Ty.enc)], .box [.int .i64 0, .str [], .int .i64 0, .full [], .full []], .map (encM AVal.str Ty.v l), .box [.int .i64 0, .str [], .int .i64 0, .full [], .full []], .box [.map 3]] (fun v h => v = .imm ((sSort (l.map Prod.fst)).map .str) ∧ h = [.box [.int .i64 (t.kind), .str t.name, .int .i64 (t.n), .imm (t.names.map AVal.str), .imm (t.kids.map Ty.enc)], .box [.int .i64 (u.kind), .str u.name, .int .i64 (u.n), .imm (u.names.map AVal.str), .imm (u.kids.map Ty.enc)], .box [.int .i64 0, .str [], .int .i64 0, .full [], .full []], .map (encM AVal.str Ty.v l), .box [.int .i64 0, .str [], .int .i64 0, .full [], .full []], .box [.map 3]]) := by
  have e : (l.map fun p => (p.1, p.2.v)).map (·.1) = l.map Prod.fst := by simp [Function.comp_def]
  have := sorted_spec keys127 (h := [.box [.int .i64 (t.kind), .str t.name, .int .i64 (t.n), .imm (t.names.map AVal.str), .imm (t.kids.map Ty.enc)], .box [.int .i64 (u.kind), .str u.name, .int .i64 (u.n), .imm (u.names.map AVal.str), .imm (u.kids.map Ty.enc)], .box [.int .i64 0, .str [], .int .i64 0, .full [], .full []], .map (encM AVal.str Ty.v l), .box [.int .i64 0, .str [], .int .i64 0, .full [], .full []], .box [.map 3]]) (m := 3) (o := 5) (kv := l.map fun p => (p.1, p.2.v)) rfl (by simp [encM, encKV, Function.comp_def]) (by rw [e]; exact hl.1)
    (fun p hp => by obtain ⟨q, hq, rfl⟩ := List.mem_map.1 hp; exact hl.2.1 q hq) (by rw [List.length_map]; have := hl.2.2; omega)
  rw [e] at this
  exact this
noncomputable def c83 : Code := bodyOf Tryz.f83
theorem record_spec (t u : Ty) (l : Fd) (n : Int) (hl : fdOk l) : CallsA cx 83 [.map 3, .int .i64 (n)] [.box [.int .i64 (t.kind), .str t.name, .int .i64 (t.n), .imm (t.names.map AVal.str), .imm (t.kids.map Ty.enc)], .box [.int .i64 (u.kind), .str u.name, .int .i64 (u.n), .imm (u.names.map AVal.str), .imm (u.kids.map Ty.enc)], .box [.int .i64 0, .str [], .int .i64 0, .full [], .full []], .map (encM AVal.str Ty.v l)] (fun v h => v = (Ty.v (recT l n)) ∧ h = [.box [.int .i64 (t.kind), .str t.name, .int .i64 (t.n), .imm (t.names.map AVal.str), .imm (t.kids.map Ty.enc)], .box [.int .i64 (u.kind), .str u.name, .int .i64 (u.n), .imm (u.names.map AVal.str), .imm (u.kids.map Ty.enc)], .box [.int .i64 0, .str [], .int .i64 0, .full [], .full []], .map (encM AVal.str Ty.v l)]) := by
 have hsl := fd_len hl
 refine func_intro (cx := cx) 30 4 [(ResultVar.cell 4 25)] Tryz.func83 rfl rfl rfl rfl rfl (by simp) ?_
 show wpA cx 30 4 (at_ c83 []) _ _ _
 refine qZ [(0, .map 3), (1, .int .i64 (n))] [t.bx, u.bx, .box [.int .i64 0, .str [], .int .i64 0, .full [], .full []], .map (encM AVal.str Ty.v l)] ?_ ?_
 refine qW 1 [(0, .map 3), (1, .int .i64 (n)), (4, .ptr 4 0)] [t.bx, u.bx, .box [.int .i64 0, .str [], .int .i64 0, .full [], .full []], .map (encM AVal.str Ty.v l), .box [.int .i64 0, .str [], .int .i64 0, .full [], .full []]] ?_ ?_
 refine qV 2 ?_ ?_
 refine vcallH (args := [.map 3]) (v := .fn (.func 127) [] [.ptr 5 0]) (h' := [.box [.int .i64 (t.kind), .str t.name, .int .i64 (t.n), .imm (t.names.map AVal.str), .imm (t.kids.map Ty.enc)], .box [.int .i64 (u.kind), .str u.name, .int .i64 (u.n), .imm (u.names.map AVal.str), .imm (u.kids.map Ty.enc)], .box [.int .i64 0, .str [], .int .i64 0, .full [], .full []], .map (encM AVal.str Ty.v l), .box [.int .i64 0, .str [], .int .i64 0, .full [], .full []], .box [.map 3]]) [.box [.int .i64 (t.kind), .str t.name, .int .i64 (t.n), .imm (t.names.map AVal.str), .imm (t.kids.map Ty.enc)], .box [.int .i64 (u.kind), .str u.name, .int .i64 (u.n), .imm (u.names.map AVal.str), .imm (u.kids.map Ty.enc)], .box [.int .i64 0, .str [], .int .i64 0, .full [], .full []], .map (encM AVal.str Ty.v l), .box [.int .i64 0, .str [], .int .i64 0, .full [], .full []]] (by kernel_rfl) (by kernel_rfl) (by kernel_rfl) (by kernel_rfl) (by kernel_rfl) (keys_raw t u l) ?_
 refine vcallH (args := [.fn (.func 127) [] [.ptr 5 0]]) (v := .imm ((sSort (l.map Prod.fst)).map AVal.str)) (h' := [.box [.int .i64 (t.kind), .str t.name, .int .i64 (t.n), .imm (t.names.map AVal.str), .imm (t.kids.map Ty.enc)], .box [.int .i64 (u.kind), .str u.name, .int .i64 (u.n), .imm (u.names.map AVal.str), .imm (u.kids.map Ty.enc)], .box [.int .i64 0, .str [], .int .i64 0, .full [], .full []], .map (encM AVal.str Ty.v l), .box [.int .i64 0, .str [], .int .i64 0, .full [], .full []], .box [.map 3]]) [.box [.int .i64 (t.kind), .str t.name, .int .i64 (t.n), .imm (t.names.map AVal.str), .imm (t.kids.map Ty.enc)], .box [.int .i64 (u.kind), .str u.name, .int .i64 (u.n), .imm (u.names.map AVal.str), .imm (u.kids.map Ty.enc)], .box [.int .i64 0, .str [], .int .i64 0, .full [], .full []], .map (encM AVal.str Ty.v l), .box [.int .i64 0, .str [], .int .i64 0, .full [], .full []], .box [.map 3]] (by kernel_rfl) (by kernel_rfl) (by kernel_rfl) (by kernel_rfl) (by kernel_rfl) (sorted_fd t u l hl) ?_
 refine qR 3 [(0, .map 3), (4, .ptr 4 0), (5, .ptr 6 0)] [t.bx, u.bx, .box [.int .i64 0, .str [], .int .i64 0, .full [], .full []], .map (encM AVal.str Ty.v l), .box [.int .i64 0, .str [], .int .i64 0, .full [], .full []], .box [.map 3], .box [.int .i64 5, .str [], .int .i64 (n), .imm ((sSort (l.map Prod.fst)).map AVal.str), .full []]] ?_ ?_
 refine wOwnB 6 4 5 (cs := [.int .i64 5, .str [], .int .i64 (n), .imm ((sSort (l.map Prod.fst)).map AVal.str), .full []]) [.int .i64 5, .str [], .int .i64 (n), .imm ((sSort (l.map Prod.fst)).map AVal.str), .own 7 0 0] (by decide) (by kernel_rfl) (by kernel_rfl) (by kernel_rfl) ?_
 refine qZ [(0, .map 3), (4, .ptr 4 0), (5, .ptr 6 0)] [t.bx, u.bx, .box [.int .i64 0, .str [], .int .i64 0, .full [], .full []], .map (encM AVal.str Ty.v l), .box [.int .i64 0, .str [], .int .i64 0, .full [], .full []], .box [.map 3], .box [.int .i64 5, .str [], .int .i64 (n), .imm ((sSort (l.map Prod.fst)).map AVal.str), .own 7 0 0], .arr 5 (([] : List (Ty)).map Ty.enc) 0] ?_ ?_
 refine qSeq ?_ ?_
 refine qV 2 ?_ ?_
 refine qy (o_lenmap (l := (sSort (l.map Prod.fst))) (enc := AVal.str) (by kernel_rfl) ty22) ?_ ?_ ?_
 refine qR 1 [(0, .map 3), (4, .ptr 4 0), (5, .ptr 6 0), (14, .imm ((sSort (l.map Prod.fst)).map AVal.str)), (15, nI ((sSort (l.map Prod.fst)).length)), (16, .int .i64 0)] [t.bx, u.bx, .box [.int .i64 0, .str [], .int .i64 0, .full [], .full []], .map (encM AVal.str Ty.v l), .box [.int .i64 0, .str [], .int .i64 0, .full [], .full []], .box [.map 3], .box [.int .i64 5, .str [], .int .i64 (n), .imm ((sSort (l.map Prod.fst)).map AVal.str), .own 7 0 0], .arr 5 (([] : List (Ty)).map Ty.enc) 0] ?_ ?_
 refine qB 0 ?_ ?_ ?_
 refine wLoop (σ := Nat) (fun k => [(0, .map 3), (4, .ptr 4 0), (5, .ptr 6 0), (14, .imm ((sSort (l.map Prod.fst)).map AVal.str)), (15, .int .i64 (((sSort (l.map Prod.fst)).length : Nat) : Int)), (16, .int .i64 ((k : Nat) : Int))]) (fun k => [.box [.int .i64 (t.kind), .str t.name, .int .i64 (t.n), .imm (t.names.map AVal.str), .imm (t.kids.map Ty.enc)], .box [.int .i64 (u.kind), .str u.name, .int .i64 (u.n), .imm (u.names.map AVal.str), .imm (u.kids.map Ty.enc)], .box [.int .i64 0, .str [], .int .i64 0, .full [], .full []], .map (encM AVal.str Ty.v l), .box [.int .i64 0, .str [], .int .i64 0, .full [], .full []], .box [.map 3], .box [.int .i64 5, .str [], .int .i64 (n), .imm ((sSort (l.map Prod.fst)).map AVal.str), .own 7 0 (recK l k).length], .arr 5 ((recK l k).map Ty.enc) 0]) (fun k => k ≤ (sSort (l.map Prod.fst)).length) (fun k => (sSort (l.map Prod.fst)).length - k) 0 (by kernel_rfl) (by exact Nat.zero_le _) ⟨⟨(by kernel_rfl), (by kernel_rfl), (by kernel_rfl), (by kernel_rfl), (by kernel_rfl), (by kernel_rfl), trivial⟩, by simp [BelL, AVal.bel], by simp, (by kernel_rfl), by simp [AObj.belO, belL_app, Ty.enc_v]⟩ ?_
 rintro k hk
 have hrl := recK_len l k hk
 refine qW 1 [(0, .map 3), (4, .ptr 4 0), (5, .ptr 6 0), (14, .imm ((sSort (l.map Prod.fst)).map AVal.str)), (15, nI ((sSort (l.map Prod.fst)).length)), (16, nI k), (17, .bool (decide (((k : Nat) : Int) < (((sSort (l.map Prod.fst)).length : Nat) : Int))))] [t.bx, u.bx, .box [.int .i64 0, .str [], .int .i64 0, .full [], .full []], .map (encM AVal.str Ty.v l), .box [.int .i64 0, .str [], .int .i64 0, .full [], .full []], .box [.map 3], .box [.int .i64 5, .str [], .int .i64 (n), .imm ((sSort (l.map Prod.fst)).map AVal.str), .own 7 0 (recK l k).length], .arr 5 ((recK l k).map Ty.enc) 0] ?_ ?_
 refine qSeq ?_ ?_
 by_cases hb1 : ((k : Nat) : Int) < (((sSort (l.map Prod.fst)).length : Nat) : Int)
 refine qt (decide_eq_true hb1) ?_ ?_
 refine qK ?_ ?_
 refine qz [(0, .map 3), (4, .ptr 4 0), (5, .ptr 6 0), (14, .imm ((sSort (l.map Prod.fst)).map AVal.str)), (15, nI ((sSort (l.map Prod.fst)).length)), (16, nI k)] ?_ ?_
 refine qSeq ?_ ?_
 refine qB 1 ?_ ?_ ?_
 refine qO ?_ ?_
 refine qy (o_ixmap (k := .i64) (l := (sSort (l.map Prod.fst))) (enc := AVal.str) (i := ((k : Nat) : Int)) [] (by kernel_rfl) ty22 ty9 (fun _ => rfl) (by omega) (by omega)) ?_ ?_ ?_
 refine qR 2 [(0, .map 3), (4, .ptr 4 0), (5, .ptr 6 0), (7, .str ((sSort (l.map Prod.fst)).getD k [])), (14, .imm ((sSort (l.map Prod.fst)).map AVal.str)), (15, nI ((sSort (l.map Prod.fst)).length)), (16, nI k)] [t.bx, u.bx, .box [.int .i64 0, .str [], .int .i64 0, .full [], .full []], .map (encM AVal.str Ty.v l), .box [.int .i64 0, .str [], .int .i64 0, .full [], .full []], .box [.map 3], .box [.int .i64 5, .str [], .int .i64 (n), .imm ((sSort (l.map Prod.fst)).map AVal.str), .own 7 0 (recK l k).length], .arr 5 ((recK l k).map Ty.enc) 0] ?_ ?_
 refine qo ?_ ?_
 refine qr 4 ?_ ?_
 rcases hm2 : mget ((sSort (l.map Prod.fst)).getD k []) l with _ | x2
 · exact absurd hm2 (sorted_no (by omega))
 refine qy (o_lookS (ok := false) (o := 3) (ek := AVal.str) (ev := Ty.v) (l := l) (k := ((sSort (l.map Prod.fst)).getD k [])) (x := x2) keyS hm2 (by kernel_rfl) ty106 ty9 rfl ty25 (by kernel_rfl)) ?_ ?_ ?_
 refine qr 1 ?_ ?_
 refine qY (o_appmap (o := 7) (len := ((recK l k).length)) (l := (recK l k)) (xs := [x2]) (enc := Ty.enc) (sz := 5) (fr := 0) (x := (.full [Ty.v x2])) (by kernel_rfl) ty23 ty25 ty23 rfl (by kernel_rfl) rfl (by first | rfl | simp) (Eq.trans (b := some [Ty.v x2]) (by kernel_rfl) (by simp [Ty.enc_v])) ⟨by decide, by kernel_rfl⟩ ty_ok (by simp only [List.length_append, List.length_cons, List.length_nil]; omega) (by simp only [List.length_append, List.length_cons, List.length_nil]; omega)) ?_ ?_ ?_
 refine qr 2 ?_ ?_
 refine qe ?_ ?_
 refine AIn_normal ?_
 refine AThen_normal ?_
 refine qZ [(0, .map 3), (4, .ptr 4 0), (5, .ptr 6 0), (14, .imm ((sSort (l.map Prod.fst)).map AVal.str)), (15, nI ((sSort (l.map Prod.fst)).length)), (16, nI k)] [t.bx, u.bx, .box [.int .i64 0, .str [], .int .i64 0, .full [], .full []], .map (encM AVal.str Ty.v l), .box [.int .i64 0, .str [], .int .i64 0, .full [], .full []], .box [.map 3], .box [.int .i64 5, .str [], .int .i64 (n), .imm ((sSort (l.map Prod.fst)).map AVal.str), .own 7 0 ((recK l k) ++ [x2]).length], .arr 5 (((recK l k) ++ [x2]).map Ty.enc) 0] ?_ ?_
 refine qo ?_ ?_
 refine qy (o_add (a := ((k : Nat) : Int)) (b := 1) (by kernel_rfl) (by omega) (by omega)) ?_ ?_ ?_
 refine qr 1 ?_ ?_
 refine qe ?_ ?_
 refine AThen_normal ⟨k + 1, ?_, ?_, ⟨⟨(by kernel_rfl), (by kernel_rfl), (by kernel_rfl), (by kernel_rfl), (by kernel_rfl), (by kernel_rfl), trivial⟩, by simp [BelL, AVal.bel], by simp, (Eq.trans (b := [.box [.int .i64 (t.kind), .str t.name, .int .i64 (t.n), .imm (t.names.map AVal.str), .imm (t.kids.map Ty.enc)], .box [.int .i64 (u.kind), .str u.name, .int .i64 (u.n), .imm (u.names.map AVal.str), .imm (u.kids.map Ty.enc)], .box [.int .i64 0, .str [], .int .i64 0, .full [], .full []], .map (encM AVal.str Ty.v l), .box [.int .i64 0, .str [], .int .i64 0, .full [], .full []], .box [.map 3], .box [.int .i64 5, .str [], .int .i64 (n), .imm ((sSort (l.map Prod.fst)).map AVal.str), .own 7 0 ((recK l k) ++ [x2]).length], .arr 5 (((recK l k) ++ [x2]).map Ty.enc) 0]) (by kernel_rfl) (by rw [recK_succ (by omega) (by assumption)])), by simp [AObj.belO, belL_app, Ty.enc_v]⟩⟩
 · omega
 · omega
 iterate 25 kernel_rfl
 refine qf (decide_eq_false hb1) ?_ ?_
 refine wExit 0 (by kernel_rfl) (by kernel_rfl) ?_
 refine AThen_exit ?_
 refine AThen_exit ?_
 refine AIn_exit ?_
 refine AThen_normal ?_
 refine qz [(4, .ptr 4 0), (5, .ptr 6 0)] ?_ ?_
 refine wFrzC 6 4 7 (cs := [.int .i64 5, .str [], .int .i64 (n), .imm ((sSort (l.map Prod.fst)).map AVal.str), .own 7 0 (recK l k).length]) (es := ((recK l k).map Ty.enc)) (off := 0) (len := ((recK l k).length)) (sz := 5) (fr := 0) [.int .i64 5, .str [], .int .i64 (n), .imm ((sSort (l.map Prod.fst)).map AVal.str), .imm ((recK l k).map Ty.enc)] ((recK l k).map Ty.enc) (by decide) (by kernel_rfl) (by kernel_rfl) (by kernel_rfl) (by simp) (by kernel_rfl) (by kernel_rfl) ?_
 refine qZ [(4, .ptr 4 0), (5, .ptr 6 0)] [t.bx, u.bx, .box [.int .i64 0, .str [], .int .i64 0, .full [], .full []], .map (encM AVal.str Ty.v l), .box [.int .i64 0, .str [], .int .i64 0, .full [], .full []], .box [.map 3], .box [.int .i64 5, .str [], .int .i64 (n), .imm ((sSort (l.map Prod.fst)).map AVal.str), .imm ((recK l k).map Ty.enc)], .arr 5 ((recK l k).map Ty.enc) ((recK l k).map Ty.enc).length] ?_ ?_
 refine qW 2 [(4, .ptr 4 0)] [t.bx, u.bx, .box [.int .i64 0, .str [], .int .i64 0, .full [], .full []], .map (encM AVal.str Ty.v l), .box [.int .i64 5, .str [], .int .i64 (n), .imm ((sSort (l.map Prod.fst)).map AVal.str), .imm ((recK l k).map Ty.enc)], .box [.map 3], .box [.int .i64 5, .str [], .int .i64 (n), .imm ((sSort (l.map Prod.fst)).map AVal.str), .imm ((recK l k).map Ty.enc)], .arr 5 ((recK l k).map Ty.enc) ((recK l k).map Ty.enc).length] ?_ ?_
 refine wRet (by kernel_rfl) ?_
 refine leafA (l := [.agg [.int .i64 5, .str [], .int .i64 (n), .imm ((sSort (l.map Prod.fst)).map AVal.str), .imm ((recK l k).map Ty.enc)]]) (.inr rfl) (by kernel_rfl) (by have hkk : k = (sSort (l.map Prod.fst)).length := (by omega); subst hkk; simp [Ty.v, AVal.frz, frzL, awrap, recT]) (by simp [awrap]) (by simp [awrap]) ?_ ?_
 refine Eq.trans (b := [.box [.int .i64 (t.kind), .str t.name, .int .i64 (t.n), .imm (t.names.map AVal.str), .imm (t.kids.map Ty.enc)], .box [.int .i64 (u.kind), .str u.name, .int .i64 (u.n), .imm (u.names.map AVal.str), .imm (u.kids.map Ty.enc)], .box [.int .i64 0, .str [], .int .i64 0, .full [], .full []], .map (encM AVal.str Ty.v l)]) (by kernel_rfl) ?_
 · rfl
 · simp [AObj.belO, hpV, Ty.v]
 iterate 18 kernel_rfl
/-- The fields of one record that another lacks, as they come into a map. -/
def onL (t u : Ty) : Nat → Fd
  | 0 => []
  | k + 1 => if u.names.contains (t.names.getD k []) = true then onL t u k else mset (t.names.getD k []) (t.kids.getD k Ty.zero) (onL t u k)
theorem onL_yes {t u : Ty} {k : Nat} (h : u.names.contains (t.names.getD k []) = true) : onL t u k = onL t u (k + 1) := by rw [onL, if_pos h]
theorem onL_no {t u : Ty} {k : Nat} (h : ¬ u.names.contains (t.names.getD k []) = true) : mset (t.names.getD k []) (t.kids.getD k Ty.zero) (onL t u k) = onL t u (k + 1) := by rw [onL, if_neg h]
theorem mset_keys (s : List UInt8) (x : Ty) : ∀ l : Fd, (mset s x l).map Prod.fst = if s ∈ l.map Prod.fst then l.map Prod.fst else l.map Prod.fst ++ [s]
  | [] => by simp [mset]
  | p :: l => by
    rw [mset]
    by_cases e : s = p.1
    · rw [if_pos e, List.map_cons, if_pos (by rw [List.map_cons]; exact List.mem_cons.2 (.inl e)), List.map_cons, e]
    · rw [if_neg e, List.map_cons, List.map_cons, mset_keys s x l]
      by_cases hm : s ∈ l.map Prod.fst
      · rw [if_pos hm, if_pos (List.mem_cons_of_mem _ hm)]
      · rw [if_neg hm, if_neg (by simp only [List.mem_cons, not_or]; exact ⟨e, hm⟩)]; rfl
theorem onL_keys (t u : Ty) : ∀ k, ((onL t u k).map Prod.fst).Nodup ∧ (onL t u k).length ≤ k ∧ ∀ s ∈ (onL t u k).map Prod.fst, ∃ i, i < k ∧ s = t.names.getD i []
  | 0 => by simp [onL]
  | k + 1 => by
    obtain ⟨h1, h2, h3⟩ := onL_keys t u k
    rw [onL]
    split
    · exact ⟨h1, by omega, fun s hs => by obtain ⟨i, hi, e⟩ := h3 s hs; exact ⟨i, by omega, e⟩⟩
    · have hl : (mset (t.names.getD k []) (t.kids.getD k Ty.zero) (onL t u k)).length ≤ k + 1 := by
        rw [← List.length_map (f := Prod.fst), mset_keys]
        split
        · rw [List.length_map]; omega
        · rw [List.length_append, List.length_map]; simp; omega
      refine ⟨?_, hl, ?_⟩
      · rw [mset_keys]
        split
        · exact h1
        · rename_i hm
          rw [List.nodup_append]
          exact ⟨h1, by simp, fun a ha b hb => by simp only [List.mem_singleton] at hb; subst hb; rintro rfl; exact hm ha⟩
      · intro s hs
        rw [mset_keys] at hs
        split at hs
        · obtain ⟨i, hi, e⟩ := h3 s hs; exact ⟨i, by omega, e⟩
        · rcases List.mem_append.1 hs with hs | hs
          · obtain ⟨i, hi, e⟩ := h3 s hs; exact ⟨i, by omega, e⟩
          · exact ⟨k, by omega, by simpa using hs⟩
theorem onL_ok (t u : Ty) (k : Nat) (hs : t.sz < 100000000) (hk : k ≤ t.names.length) : fdOk (onL t u k) := by
  obtain ⟨h1, h2, h3⟩ := onL_keys t u k
  have hn := sz_names t
  refine ⟨h1, fun p hp => ?_, by omega⟩
  obtain ⟨i, _, e⟩ := h3 p.1 (List.mem_map_of_mem hp)
  rw [e]
  have := sz_names_at t i
  omega
noncomputable def c100 : Code := bodyOf Tryz.f100
theorem only_spec (t u : Ty) (n : Int) (hs : t.sz < 100000000) (hu : u.sz < 100000000) (hnk : t.names.length = t.kids.length) : CallsP cx 100 [Ty.v t, Ty.v u, .int .i64 (n)] (Ty.v (recT (onL t u t.names.length) n)) := by
 have hz1 := sz_names t
 have hz2 := sz_kids t
 have hz3 := sz_names u
 refine func_intro (cx := cx) 35 0 [(ResultVar.cell 6 25)] Tryz.func100 rfl rfl rfl rfl rfl (by simp) ?_
 show wpA cx 35 0 (at_ c100 []) _ _ _
 refine qZ [(0, Ty.v t), (1, Ty.v u), (2, .int .i64 (n))] [] ?_ ?_
 refine qW 3 [(2, .int .i64 (n)), (3, .ptr 0 0), (4, .ptr 1 0), (6, .ptr 2 0)] [t.bx, u.bx, .box [.int .i64 0, .str [], .int .i64 0, .full [], .full []]] ?_ ?_
 refine qW 2 [(2, .int .i64 (n)), (3, .ptr 0 0), (4, .ptr 1 0), (6, .ptr 2 0), (7, .map 3)] [t.bx, u.bx, .box [.int .i64 0, .str [], .int .i64 0, .full [], .full []], .map (encM AVal.str Ty.v ([] : List (List UInt8 × Ty)))] ?_ ?_
 refine qSeq ?_ ?_
 refine qV 2 ?_ ?_
 refine qy (o_lenmap (l := t.names) (enc := AVal.str) (by kernel_rfl) ty22) ?_ ?_ ?_
 refine qR 1 [(2, .int .i64 (n)), (3, .ptr 0 0), (4, .ptr 1 0), (6, .ptr 2 0), (7, .map 3), (12, .imm (t.names.map AVal.str)), (13, nI t.names.length), (14, .int .i64 0)] [t.bx, u.bx, .box [.int .i64 0, .str [], .int .i64 0, .full [], .full []], .map (encM AVal.str Ty.v ([] : List (List UInt8 × Ty)))] ?_ ?_
 refine qB 0 ?_ ?_ ?_
 refine wLoop (σ := Nat) (fun k => [(2, .int .i64 (n)), (3, .ptr 0 0), (4, .ptr 1 0), (6, .ptr 2 0), (7, .map 3), (12, .imm (t.names.map AVal.str)), (13, .int .i64 ((t.names.length : Nat) : Int)), (14, .int .i64 ((k : Nat) : Int))]) (fun k => [.box [.int .i64 (t.kind), .str t.name, .int .i64 (t.n), .imm (t.names.map AVal.str), .imm (t.kids.map Ty.enc)], .box [.int .i64 (u.kind), .str u.name, .int .i64 (u.n), .imm (u.names.map AVal.str), .imm (u.kids.map Ty.enc)], .box [.int .i64 0, .str [], .int .i64 0, .full [], .full []], .map (encM AVal.str Ty.v (onL t u k))]) (fun k => k ≤ t.names.length) (fun k => t.names.length - k) 0 (by kernel_rfl) (by exact Nat.zero_le _) ⟨⟨(by kernel_rfl), (by kernel_rfl), (by kernel_rfl), (by kernel_rfl), (by kernel_rfl), (by kernel_rfl), (by kernel_rfl), (by kernel_rfl), trivial⟩, by simp [BelL, AVal.bel], by simp, (by kernel_rfl), by simp [AObj.belO]⟩ ?_
 rintro k hk
 refine qW 1 [(2, .int .i64 (n)), (3, .ptr 0 0), (4, .ptr 1 0), (6, .ptr 2 0), (7, .map 3), (12, .imm (t.names.map AVal.str)), (13, nI t.names.length), (14, nI k), (15, .bool (decide (((k : Nat) : Int) < ((t.names.length : Nat) : Int))))] [t.bx, u.bx, .box [.int .i64 0, .str [], .int .i64 0, .full [], .full []], .map (encM AVal.str Ty.v (onL t u k))] ?_ ?_
 refine qSeq ?_ ?_
 by_cases hb1 : ((k : Nat) : Int) < ((t.names.length : Nat) : Int)
 refine qt (decide_eq_true hb1) ?_ ?_
 refine qK ?_ ?_
 refine qz [(2, .int .i64 (n)), (3, .ptr 0 0), (4, .ptr 1 0), (6, .ptr 2 0), (7, .map 3), (12, .imm (t.names.map AVal.str)), (13, nI t.names.length), (14, nI k)] ?_ ?_
 refine qSeq ?_ ?_
 refine qB 1 ?_ ?_ ?_
 refine qV 1 ?_ ?_
 refine qy (o_ixmap (k := .i64) (l := t.names) (enc := AVal.str) (i := ((k : Nat) : Int)) [] (by kernel_rfl) ty22 ty9 (fun _ => rfl) (by omega) (by omega)) ?_ ?_ ?_
 refine qR 3 [(2, .int .i64 (n)), (3, .ptr 0 0), (4, .ptr 1 0), (6, .ptr 2 0), (7, .map 3), (8, nI k), (9, .str (t.names.getD k [])), (12, .imm (t.names.map AVal.str)), (13, nI t.names.length), (14, nI k)] [t.bx, u.bx, .box [.int .i64 0, .str [], .int .i64 0, .full [], .full []], .map (encM AVal.str Ty.v (onL t u k))] ?_ ?_
 refine qV 3 ?_ ?_
 refine vcallP (args := [.imm (u.names.map AVal.str), .str (t.names.getD k [])]) (by kernel_rfl) (by kernel_rfl) (by kernel_rfl) (by kernel_rfl) (slContains_spec u.names (t.names.getD k []) (by omega)) (by simp [Ty.v, frzL_app, Occ.v]) (by simp [Ty.v]) (by simp [Ty.v, ownsL_app]) ?_
 refine qR 1 [(2, .int .i64 (n)), (3, .ptr 0 0), (4, .ptr 1 0), (6, .ptr 2 0), (7, .map 3), (8, nI k), (9, .str (t.names.getD k [])), (12, .imm (t.names.map AVal.str)), (13, nI t.names.length), (14, nI k), (23, .bool (!(u.names.contains (t.names.getD k []))))] [t.bx, u.bx, .box [.int .i64 0, .str [], .int .i64 0, .full [], .full []], .map (encM AVal.str Ty.v (onL t u k))] ?_ ?_
 by_cases hb2 : (u.names.contains (t.names.getD k [])) = true
 refine qf (x := (!(u.names.contains (t.names.getD k [])))) (congrArg not (hb2)) ?_ ?_
 refine qk ?_ ?_
 refine AIn_normal ?_
 refine AThen_normal ?_
 refine qz [(2, .int .i64 (n)), (3, .ptr 0 0), (4, .ptr 1 0), (6, .ptr 2 0), (7, .map 3), (12, .imm (t.names.map AVal.str)), (13, nI t.names.length), (14, nI k)] ?_ ?_
 refine qo ?_ ?_
 refine qy (o_add (a := ((k : Nat) : Int)) (b := 1) (by kernel_rfl) (by omega) (by omega)) ?_ ?_ ?_
 refine qr 1 ?_ ?_
 refine qe ?_ ?_
 refine AThen_normal ⟨k + 1, ?_, ?_, ⟨⟨(by kernel_rfl), (by kernel_rfl), (by kernel_rfl), (by kernel_rfl), (by kernel_rfl), (by kernel_rfl), (by kernel_rfl), (by kernel_rfl), trivial⟩, by simp [BelL, AVal.bel], by simp, (Eq.trans (b := [.box [.int .i64 (t.kind), .str t.name, .int .i64 (t.n), .imm (t.names.map AVal.str), .imm (t.kids.map Ty.enc)], .box [.int .i64 (u.kind), .str u.name, .int .i64 (u.n), .imm (u.names.map AVal.str), .imm (u.kids.map Ty.enc)], .box [.int .i64 0, .str [], .int .i64 0, .full [], .full []], .map (encM AVal.str Ty.v (onL t u k))]) (by kernel_rfl) (by first | rw [onL_yes (by assumption)] | rw [onL_no (by assumption)])), by simp [AObj.belO]⟩⟩
 · omega
 · omega
 iterate 8 kernel_rfl
 refine qt (x := (!(u.names.contains (t.names.getD k [])))) (congrArg not (Bool.eq_false_iff.2 hb2)) ?_ ?_
 refine qo ?_ ?_
 refine qr 5 ?_ ?_
 refine qy ((o_ixmap (k := .i64) (l := t.kids) (enc := Ty.enc) (i := ((k : Nat) : Int)) Ty.zero (by kernel_rfl) ty23 ty25 ty_size (by omega) (by omega)).trans (congrArg (fun cs => some (AVal.pimm cs 0, _)) (ty_cells (t.kids.getD k Ty.zero)))) ?_ ?_ ?_
 refine qr 1 ?_ ?_
 refine qY (o_mset (o := 3) (ek := AVal.str) (ev := Ty.v) (l := (onL t u k)) (k := (t.names.getD k [])) (x := (t.kids.getD k Ty.zero)) keyS (by kernel_rfl) ty106 ty9 rfl (by kernel_rfl) (by kernel_rfl)) ?_ ?_ ?_
 refine qe ?_ ?_
 refine AIn_normal ?_
 refine AThen_normal ?_
 refine qZ [(2, .int .i64 (n)), (3, .ptr 0 0), (4, .ptr 1 0), (6, .ptr 2 0), (7, .map 3), (12, .imm (t.names.map AVal.str)), (13, nI t.names.length), (14, nI k)] [t.bx, u.bx, .box [.int .i64 0, .str [], .int .i64 0, .full [], .full []], .map (encM AVal.str Ty.v (mset (t.names.getD k []) (t.kids.getD k Ty.zero) (onL t u k)))] ?_ ?_
 refine qo ?_ ?_
 refine qy (o_add (a := ((k : Nat) : Int)) (b := 1) (by kernel_rfl) (by omega) (by omega)) ?_ ?_ ?_
 refine qr 1 ?_ ?_
 refine qe ?_ ?_
 refine AThen_normal ⟨k + 1, ?_, ?_, ⟨⟨(by kernel_rfl), (by kernel_rfl), (by kernel_rfl), (by kernel_rfl), (by kernel_rfl), (by kernel_rfl), (by kernel_rfl), (by kernel_rfl), trivial⟩, by simp [BelL, AVal.bel], by simp, (Eq.trans (b := [.box [.int .i64 (t.kind), .str t.name, .int .i64 (t.n), .imm (t.names.map AVal.str), .imm (t.kids.map Ty.enc)], .box [.int .i64 (u.kind), .str u.name, .int .i64 (u.n), .imm (u.names.map AVal.str), .imm (u.kids.map Ty.enc)], .box [.int .i64 0, .str [], .int .i64 0, .full [], .full []], .map (encM AVal.str Ty.v (mset (t.names.getD k []) (t.kids.getD k Ty.zero) (onL t u k)))]) (by kernel_rfl) (by first | rw [onL_yes (by assumption)] | rw [onL_no (by assumption)])), by simp [AObj.belO]⟩⟩
 · omega
 · omega
 iterate 27 kernel_rfl
 refine qf (decide_eq_false hb1) ?_ ?_
 refine wExit 0 (by kernel_rfl) (by kernel_rfl) ?_
 refine AThen_exit ?_
 refine AThen_exit ?_
 refine AIn_exit ?_
 refine AThen_normal ?_
 refine qz [(2, .int .i64 (n)), (6, .ptr 2 0), (7, .map 3)] ?_ ?_
 refine qV 2 ?_ ?_
 refine vcallA (args := [.map 3, .int .i64 (n)]) (hs := [.box [.int .i64 (t.kind), .str t.name, .int .i64 (t.n), .imm (t.names.map AVal.str), .imm (t.kids.map Ty.enc)], .box [.int .i64 (u.kind), .str u.name, .int .i64 (u.n), .imm (u.names.map AVal.str), .imm (u.kids.map Ty.enc)], .box [.int .i64 0, .str [], .int .i64 0, .full [], .full []], .map (encM AVal.str Ty.v (onL t u k))]) (hs' := [.box [.int .i64 (t.kind), .str t.name, .int .i64 (t.n), .imm (t.names.map AVal.str), .imm (t.kids.map Ty.enc)], .box [.int .i64 (u.kind), .str u.name, .int .i64 (u.n), .imm (u.names.map AVal.str), .imm (u.kids.map Ty.enc)], .box [.int .i64 0, .str [], .int .i64 0, .full [], .full []], .map (encM AVal.str Ty.v (onL t u k))]) (rest := []) (by kernel_rfl) (by kernel_rfl) (by kernel_rfl) (by kernel_rfl) (by kernel_rfl) (record_spec t u (onL t u k) (n) (by (first | exact onL_ok t u _ hs (by omega)))) (by simp [AObj.belO, Ty.v]) (by simp [AObj.belO, Ty.v]) rfl (by simp [AObj.belO, Ty.v]) (by simp [AObj.belO, Ty.v]) (by kernel_rfl) ?_
 refine qR 1 [(6, .ptr 2 0)] [t.bx, u.bx, .box [.int .i64 ((recT (onL t u k) (n)).kind), .str (recT (onL t u k) (n)).name, .int .i64 ((recT (onL t u k) (n)).n), .imm ((recT (onL t u k) (n)).names.map AVal.str), .imm ((recT (onL t u k) (n)).kids.map Ty.enc)], .map (encM AVal.str Ty.v (onL t u k))] ?_ ?_
 refine wRet (by kernel_rfl) ?_
 refine leafP (l := [.agg [.int .i64 ((recT (onL t u k) (n)).kind), .str (recT (onL t u k) (n)).name, .int .i64 ((recT (onL t u k) (n)).n), .imm ((recT (onL t u k) (n)).names.map AVal.str), .imm ((recT (onL t u k) (n)).kids.map Ty.enc)]]) (.inr rfl) (by kernel_rfl) ?_
 · obtain rfl : k = t.names.length := by omega
   simp [Ty.v, AVal.frz, frzL, awrap]
 iterate 16 kernel_rfl
end Go.Proofs.YtdikgijfekfaoaaGreatDoor
