/- Referrers, in both packages, and Short. Condition: a schema of the size that the generators make. -/
import Derived.Test.YtindpcpdkikdmaaGreatDoorDB
set_option linter.all false
namespace Go.Proofs.YtindpcpdkikdmaaGreatDoor
open Go.Proofs.YtindpcpdkikdmaaGreatDoor.Abs
set_option maxRecDepth 20000
set_option maxHeartbeats 4000000
theorem refsOf_len {n : List UInt8} : ∀ {l : List Tb}, (∀ t ∈ l, t.refs.length ≤ 3) → (refsOf n l).length ≤ 3 * l.length
  | [], _ => by simp [refsOf]
  | t :: l, h => by
    have h1 := refsT_len n t t.refs.length
    have h2 := h t (List.mem_cons_self ..)
    have h3 := refsOf_len (n := n) (fun x hx => h x (List.mem_cons_of_mem _ hx))
    simp only [refsOf, List.length_append, List.length_cons]; omega
theorem refs_bd {s : Sc} (hs : s.fine) (n : List UInt8) (i : Nat) : (refsOf n (s.tabs.take i)).length ≤ 9 := by
  have h1 := refsOf_len (n := n) (l := s.tabs.take i) (fun t ht => (hs.2.2.2 t (List.mem_of_mem_take ht)).2.2.2.1)
  have h2 := hs.2.2.1.2
  rw [List.length_take] at h1; omega
theorem ref_bd {s : Sc} (hs : s.fine) (i : Nat) (h : i < s.tabs.length) : (s.tabs.getD i Tb.zero).refs.length ≤ 3 := (hs.2.2.2 _ (getD_mem _ _ _ h)).2.2.2.1
noncomputable def c15 : Code := bodyOf Tryz.f15
theorem refs_spec (s : Sc) (n : List UInt8) (hs : s.fine) : CallsP cx 15 [Sc.v s, .str n] (.imm ((refsOf n s.tabs).map Rf.v)) := by
 have hz1 := hs.2.2.1.2
 refine func_intro (cx := cx) 39 0 [(ResultVar.tmp 4)] Tryz.func15 rfl rfl rfl rfl rfl (by simp) ?_
 show wpA cx 39 0 (at_ c15 []) _ _ _
 refine qZ [(0, Sc.v s), (1, .str n)] [] ?_ ?_
 refine qW 2 [(1, .str n), (2, .ptr 0 0)] [.box [.imm (s.sums.map Sm.v), .imm (s.tabs.map Tb.v)]] ?_ ?_
 refine qU 1 [(1, .str n), (2, .ptr 0 0), (5, .full [])] ?_ ?_
 refine wOwn 5 2 (by decide) (by kernel_rfl) ?_
 refine qZ [(1, .str n), (2, .ptr 0 0), (5, .own 1 0 0)] [.box [.imm (s.sums.map Sm.v), .imm (s.tabs.map Tb.v)], .arr 2 (([] : List (Rf)).map Rf.v) 0] ?_ ?_
 refine qSeq ?_ ?_
 refine qV 2 ?_ ?_
 refine qy (o_lenmap (l := s.tabs) (enc := Tb.v) (by kernel_rfl) ty24) ?_ ?_ ?_
 refine qR 1 [(1, .str n), (5, .own 1 0 0), (11, .imm (s.tabs.map Tb.v)), (12, nI s.tabs.length), (13, .int .i64 0)] [.box [.imm (s.sums.map Sm.v), .imm (s.tabs.map Tb.v)], .arr 2 (([] : List (Rf)).map Rf.v) 0] ?_ ?_
 refine qB 0 ?_ ?_ ?_
 refine wLoop (σ := Nat) (fun i => [(1, .str n), (5, .own 1 0 (refsOf n (s.tabs.take i)).length), (11, .imm (s.tabs.map Tb.v)), (12, .int .i64 ((s.tabs.length : Nat) : Int)), (13, .int .i64 ((i : Nat) : Int))]) (fun i => [.box [.imm (s.sums.map Sm.v), .imm (s.tabs.map Tb.v)], .arr 2 ((refsOf n (s.tabs.take i)).map Rf.v) 0]) (fun i => i ≤ s.tabs.length) (fun i => s.tabs.length - i) 0 (by kernel_rfl) (by exact Nat.zero_le _) ⟨⟨(by kernel_rfl), (Eq.trans (b := .own 1 0 0) (by kernel_rfl) (by simp [refsOf])), (by kernel_rfl), (by kernel_rfl), (by kernel_rfl), trivial⟩, by simp [BelL, AVal.bel], by simp, (Eq.trans (b := [.box [.imm (s.sums.map Sm.v), .imm (s.tabs.map Tb.v)], .arr 2 (([] : List (Rf)).map Rf.v) 0]) (by kernel_rfl) (by simp [refsOf])), by simp [AObj.belO, AVal.bel, belL, -List.map_append]⟩ ?_
 rintro i hi
 refine qW 1 [(1, .str n), (5, .own 1 0 (refsOf n (s.tabs.take i)).length), (11, .imm (s.tabs.map Tb.v)), (12, nI s.tabs.length), (13, nI i), (14, .bool (decide (((i : Nat) : Int) < ((s.tabs.length : Nat) : Int))))] [.box [.imm (s.sums.map Sm.v), .imm (s.tabs.map Tb.v)], .arr 2 ((refsOf n (s.tabs.take i)).map Rf.v) 0] ?_ ?_
 refine qSeq ?_ ?_
 by_cases hb1 : ((i : Nat) : Int) < ((s.tabs.length : Nat) : Int)
 refine qt (decide_eq_true hb1) ?_ ?_
 refine qK ?_ ?_
 refine qz [(1, .str n), (5, .own 1 0 (refsOf n (s.tabs.take i)).length), (11, .imm (s.tabs.map Tb.v)), (12, nI s.tabs.length), (13, nI i)] ?_ ?_
 refine qSeq ?_ ?_
 refine qB 1 ?_ ?_ ?_
 refine qO ?_ ?_
 refine qy ((o_ixmap (k := .i64) (l := s.tabs) (enc := Tb.v) (i := ((i : Nat) : Int)) Tb.zero (by kernel_rfl) ty24 ty41 (fun _ => rfl) (by first | omega | (have hrb := ref_bd hs i (by omega); omega)) (by first | omega | (have hrb := ref_bd hs i (by omega); omega))).trans (congrArg (fun cs => some (AVal.pimm cs 0, _)) (tb_cells (s.tabs.getD i Tb.zero)))) ?_ ?_ ?_
 refine qR 3 [(1, .str n), (5, .own 1 0 (refsOf n (s.tabs.take i)).length), (7, .ptr 2 0), (11, .imm (s.tabs.map Tb.v)), (12, nI s.tabs.length), (13, nI i)] [.box [.imm (s.sums.map Sm.v), .imm (s.tabs.map Tb.v)], .arr 2 ((refsOf n (s.tabs.take i)).map Rf.v) 0, .box [.str (s.tabs.getD i Tb.zero).name, .imm ((s.tabs.getD i Tb.zero).cols.map Co.v), .imm ((s.tabs.getD i Tb.zero).key.map AVal.str), .imm ((s.tabs.getD i Tb.zero).refs.map Rf.v), .int .i64 ((s.tabs.getD i Tb.zero).chk.kind), .str (s.tabs.getD i Tb.zero).chk.name, .int .i64 ((s.tabs.getD i Tb.zero).chk.n), .str (s.tabs.getD i Tb.zero).chk.s, .imm ((s.tabs.getD i Tb.zero).chk.names.map AVal.str), .imm ((s.tabs.getD i Tb.zero).chk.binds.map AVal.str), .imm ((s.tabs.getD i Tb.zero).chk.kids.map Ex.enc), .int .i64 ((s.tabs.getD i Tb.zero).chk.pos), .int .i64 ((s.tabs.getD i Tb.zero).chk.fin)]] ?_ ?_
 refine qV 2 ?_ ?_
 refine qy (o_lenmap (l := (s.tabs.getD i Tb.zero).refs) (enc := Rf.v) (by kernel_rfl) ty36) ?_ ?_ ?_
 refine qR 1 [(1, .str n), (5, .own 1 0 (refsOf n (s.tabs.take i)).length), (7, .ptr 2 0), (11, .imm (s.tabs.map Tb.v)), (12, nI s.tabs.length), (13, nI i), (18, .imm ((s.tabs.getD i Tb.zero).refs.map Rf.v)), (19, nI ((s.tabs.getD i Tb.zero).refs.length)), (20, .int .i64 0)] [.box [.imm (s.sums.map Sm.v), .imm (s.tabs.map Tb.v)], .arr 2 ((refsOf n (s.tabs.take i)).map Rf.v) 0, .box [.str (s.tabs.getD i Tb.zero).name, .imm ((s.tabs.getD i Tb.zero).cols.map Co.v), .imm ((s.tabs.getD i Tb.zero).key.map AVal.str), .imm ((s.tabs.getD i Tb.zero).refs.map Rf.v), .int .i64 ((s.tabs.getD i Tb.zero).chk.kind), .str (s.tabs.getD i Tb.zero).chk.name, .int .i64 ((s.tabs.getD i Tb.zero).chk.n), .str (s.tabs.getD i Tb.zero).chk.s, .imm ((s.tabs.getD i Tb.zero).chk.names.map AVal.str), .imm ((s.tabs.getD i Tb.zero).chk.binds.map AVal.str), .imm ((s.tabs.getD i Tb.zero).chk.kids.map Ex.enc), .int .i64 ((s.tabs.getD i Tb.zero).chk.pos), .int .i64 ((s.tabs.getD i Tb.zero).chk.fin)]] ?_ ?_
 refine qB 2 ?_ ?_ ?_
 refine wLoop (σ := Nat) (fun k => [(1, .str n), (5, .own 1 0 (refsOf n (s.tabs.take i) ++ refsT n (s.tabs.getD i Tb.zero) k).length), (7, .ptr 2 0), (11, .imm (s.tabs.map Tb.v)), (12, .int .i64 ((s.tabs.length : Nat) : Int)), (13, .int .i64 ((i : Nat) : Int)), (18, .imm ((s.tabs.getD i Tb.zero).refs.map Rf.v)), (19, .int .i64 (((s.tabs.getD i Tb.zero).refs.length : Nat) : Int)), (20, .int .i64 ((k : Nat) : Int))]) (fun k => [.box [.imm (s.sums.map Sm.v), .imm (s.tabs.map Tb.v)], .arr 2 ((refsOf n (s.tabs.take i) ++ refsT n (s.tabs.getD i Tb.zero) k).map Rf.v) 0, .box [.str (s.tabs.getD i Tb.zero).name, .imm ((s.tabs.getD i Tb.zero).cols.map Co.v), .imm ((s.tabs.getD i Tb.zero).key.map AVal.str), .imm ((s.tabs.getD i Tb.zero).refs.map Rf.v), .int .i64 ((s.tabs.getD i Tb.zero).chk.kind), .str (s.tabs.getD i Tb.zero).chk.name, .int .i64 ((s.tabs.getD i Tb.zero).chk.n), .str (s.tabs.getD i Tb.zero).chk.s, .imm ((s.tabs.getD i Tb.zero).chk.names.map AVal.str), .imm ((s.tabs.getD i Tb.zero).chk.binds.map AVal.str), .imm ((s.tabs.getD i Tb.zero).chk.kids.map Ex.enc), .int .i64 ((s.tabs.getD i Tb.zero).chk.pos), .int .i64 ((s.tabs.getD i Tb.zero).chk.fin)]]) (fun k => k ≤ (s.tabs.getD i Tb.zero).refs.length) (fun k => (s.tabs.getD i Tb.zero).refs.length - k) 0 (by kernel_rfl) (by exact Nat.zero_le _) ⟨⟨(by kernel_rfl), (Eq.trans (b := .own 1 0 (refsOf n (s.tabs.take i)).length) (by kernel_rfl) (by rw [refsT_0, List.append_nil])), (by kernel_rfl), (by kernel_rfl), (by kernel_rfl), (by kernel_rfl), (by kernel_rfl), (by kernel_rfl), (by kernel_rfl), trivial⟩, by simp [BelL, AVal.bel], by simp, (Eq.trans (b := [.box [.imm (s.sums.map Sm.v), .imm (s.tabs.map Tb.v)], .arr 2 ((refsOf n (s.tabs.take i)).map Rf.v) 0, .box [.str (s.tabs.getD i Tb.zero).name, .imm ((s.tabs.getD i Tb.zero).cols.map Co.v), .imm ((s.tabs.getD i Tb.zero).key.map AVal.str), .imm ((s.tabs.getD i Tb.zero).refs.map Rf.v), .int .i64 ((s.tabs.getD i Tb.zero).chk.kind), .str (s.tabs.getD i Tb.zero).chk.name, .int .i64 ((s.tabs.getD i Tb.zero).chk.n), .str (s.tabs.getD i Tb.zero).chk.s, .imm ((s.tabs.getD i Tb.zero).chk.names.map AVal.str), .imm ((s.tabs.getD i Tb.zero).chk.binds.map AVal.str), .imm ((s.tabs.getD i Tb.zero).chk.kids.map Ex.enc), .int .i64 ((s.tabs.getD i Tb.zero).chk.pos), .int .i64 ((s.tabs.getD i Tb.zero).chk.fin)]]) (by kernel_rfl) (by rw [refsT_0, List.append_nil])), by simp [AObj.belO, AVal.bel, belL, -List.map_append]⟩ ?_
 rintro k hk
 have hrb := ref_bd hs i (by omega)
 refine qW 1 [(1, .str n), (5, .own 1 0 (refsOf n (s.tabs.take i) ++ refsT n (s.tabs.getD i Tb.zero) k).length), (7, .ptr 2 0), (11, .imm (s.tabs.map Tb.v)), (12, nI s.tabs.length), (13, nI i), (18, .imm ((s.tabs.getD i Tb.zero).refs.map Rf.v)), (19, nI ((s.tabs.getD i Tb.zero).refs.length)), (20, nI k), (21, .bool (decide (((k : Nat) : Int) < (((s.tabs.getD i Tb.zero).refs.length : Nat) : Int))))] [.box [.imm (s.sums.map Sm.v), .imm (s.tabs.map Tb.v)], .arr 2 ((refsOf n (s.tabs.take i) ++ refsT n (s.tabs.getD i Tb.zero) k).map Rf.v) 0, .box [.str (s.tabs.getD i Tb.zero).name, .imm ((s.tabs.getD i Tb.zero).cols.map Co.v), .imm ((s.tabs.getD i Tb.zero).key.map AVal.str), .imm ((s.tabs.getD i Tb.zero).refs.map Rf.v), .int .i64 ((s.tabs.getD i Tb.zero).chk.kind), .str (s.tabs.getD i Tb.zero).chk.name, .int .i64 ((s.tabs.getD i Tb.zero).chk.n), .str (s.tabs.getD i Tb.zero).chk.s, .imm ((s.tabs.getD i Tb.zero).chk.names.map AVal.str), .imm ((s.tabs.getD i Tb.zero).chk.binds.map AVal.str), .imm ((s.tabs.getD i Tb.zero).chk.kids.map Ex.enc), .int .i64 ((s.tabs.getD i Tb.zero).chk.pos), .int .i64 ((s.tabs.getD i Tb.zero).chk.fin)]] ?_ ?_
 refine qSeq ?_ ?_
 by_cases hb2 : ((k : Nat) : Int) < (((s.tabs.getD i Tb.zero).refs.length : Nat) : Int)
 refine qt (decide_eq_true hb2) ?_ ?_
 refine qK ?_ ?_
 refine qz [(1, .str n), (5, .own 1 0 (refsOf n (s.tabs.take i) ++ refsT n (s.tabs.getD i Tb.zero) k).length), (7, .ptr 2 0), (11, .imm (s.tabs.map Tb.v)), (12, nI s.tabs.length), (13, nI i), (18, .imm ((s.tabs.getD i Tb.zero).refs.map Rf.v)), (19, nI ((s.tabs.getD i Tb.zero).refs.length)), (20, nI k)] ?_ ?_
 refine qSeq ?_ ?_
 refine qB 3 ?_ ?_ ?_
 refine qO ?_ ?_
 refine qy ((o_ixmap (k := .i64) (l := (s.tabs.getD i Tb.zero).refs) (enc := Rf.v) (i := ((k : Nat) : Int)) Rf.zero (by kernel_rfl) ty36 ty51 (fun _ => rfl) (by first | omega | (have hrb := ref_bd hs i (by omega); omega)) (by first | omega | (have hrb := ref_bd hs i (by omega); omega))).trans (congrArg (fun cs => some (AVal.pimm cs 0, _)) (rf_cells ((s.tabs.getD i Tb.zero).refs.getD k Rf.zero)))) ?_ ?_ ?_
 refine qR 3 [(1, .str n), (5, .own 1 0 (refsOf n (s.tabs.take i) ++ refsT n (s.tabs.getD i Tb.zero) k).length), (7, .ptr 2 0), (9, .ptr 3 0), (11, .imm (s.tabs.map Tb.v)), (12, nI s.tabs.length), (13, nI i), (18, .imm ((s.tabs.getD i Tb.zero).refs.map Rf.v)), (19, nI ((s.tabs.getD i Tb.zero).refs.length)), (20, nI k)] [.box [.imm (s.sums.map Sm.v), .imm (s.tabs.map Tb.v)], .arr 2 ((refsOf n (s.tabs.take i) ++ refsT n (s.tabs.getD i Tb.zero) k).map Rf.v) 0, .box [.str (s.tabs.getD i Tb.zero).name, .imm ((s.tabs.getD i Tb.zero).cols.map Co.v), .imm ((s.tabs.getD i Tb.zero).key.map AVal.str), .imm ((s.tabs.getD i Tb.zero).refs.map Rf.v), .int .i64 ((s.tabs.getD i Tb.zero).chk.kind), .str (s.tabs.getD i Tb.zero).chk.name, .int .i64 ((s.tabs.getD i Tb.zero).chk.n), .str (s.tabs.getD i Tb.zero).chk.s, .imm ((s.tabs.getD i Tb.zero).chk.names.map AVal.str), .imm ((s.tabs.getD i Tb.zero).chk.binds.map AVal.str), .imm ((s.tabs.getD i Tb.zero).chk.kids.map Ex.enc), .int .i64 ((s.tabs.getD i Tb.zero).chk.pos), .int .i64 ((s.tabs.getD i Tb.zero).chk.fin)], .box [.str ((s.tabs.getD i Tb.zero).refs.getD k Rf.zero).col, .str ((s.tabs.getD i Tb.zero).refs.getD k Rf.zero).tab]] ?_ ?_
 refine qU 4 [(1, .str n), (5, .own 1 0 (refsOf n (s.tabs.take i) ++ refsT n (s.tabs.getD i Tb.zero) k).length), (7, .ptr 2 0), (9, .ptr 3 0), (11, .imm (s.tabs.map Tb.v)), (12, nI s.tabs.length), (13, nI i), (18, .imm ((s.tabs.getD i Tb.zero).refs.map Rf.v)), (19, nI ((s.tabs.getD i Tb.zero).refs.length)), (20, nI k), (27, .bool (((s.tabs.getD i Tb.zero).refs.getD k Rf.zero).tab == n))] ?_ ?_
 by_cases hb3 : ((s.tabs.getD i Tb.zero).refs.getD k Rf.zero).tab = n
 refine qt (beq_iff_eq.2 hb3) ?_ ?_
 refine qo ?_ ?_
 refine qr 7 ?_ ?_
 refine qY (o_appmap (o := 1) (len := ((refsOf n (s.tabs.take i) ++ refsT n (s.tabs.getD i Tb.zero) k).length)) (l := (refsOf n (s.tabs.take i) ++ refsT n (s.tabs.getD i Tb.zero) k)) (xs := [(Rf.mk (((s.tabs.getD i Tb.zero).refs.getD k Rf.zero).col) ((s.tabs.getD i Tb.zero).name))]) (enc := Rf.v) (sz := 2) (fr := 0) (x := (.full [.agg [.str ((s.tabs.getD i Tb.zero).refs.getD k Rf.zero).col, .str (s.tabs.getD i Tb.zero).name]])) (by kernel_rfl) ty36 ty51 ty36 rfl (by kernel_rfl) rfl (by first | rfl | simp) (by kernel_rfl) ⟨by decide, by kernel_rfl⟩ (fun _ => rfl) (by (have h1 := refs_bd hs n i; have h2 := refsT_len n (s.tabs.getD i Tb.zero) k; simp only [List.length_append, List.length_cons, List.length_nil]; omega)) (by (have h1 := refs_bd hs n i; have h2 := refsT_len n (s.tabs.getD i Tb.zero) k; simp only [List.length_append, List.length_cons, List.length_nil]; omega))) ?_ ?_ ?_
 refine qr 1 ?_ ?_
 refine qe ?_ ?_
 refine AIn_normal ?_
 refine AThen_normal ?_
 refine qZ [(1, .str n), (5, .own 1 0 ((refsOf n (s.tabs.take i) ++ refsT n (s.tabs.getD i Tb.zero) k) ++ [(Rf.mk (((s.tabs.getD i Tb.zero).refs.getD k Rf.zero).col) ((s.tabs.getD i Tb.zero).name))]).length), (7, .ptr 2 0), (11, .imm (s.tabs.map Tb.v)), (12, nI s.tabs.length), (13, nI i), (18, .imm ((s.tabs.getD i Tb.zero).refs.map Rf.v)), (19, nI ((s.tabs.getD i Tb.zero).refs.length)), (20, nI k)] [.box [.imm (s.sums.map Sm.v), .imm (s.tabs.map Tb.v)], .arr 2 (((refsOf n (s.tabs.take i) ++ refsT n (s.tabs.getD i Tb.zero) k) ++ [(Rf.mk (((s.tabs.getD i Tb.zero).refs.getD k Rf.zero).col) ((s.tabs.getD i Tb.zero).name))]).map Rf.v) 0, .box [.str (s.tabs.getD i Tb.zero).name, .imm ((s.tabs.getD i Tb.zero).cols.map Co.v), .imm ((s.tabs.getD i Tb.zero).key.map AVal.str), .imm ((s.tabs.getD i Tb.zero).refs.map Rf.v), .int .i64 ((s.tabs.getD i Tb.zero).chk.kind), .str (s.tabs.getD i Tb.zero).chk.name, .int .i64 ((s.tabs.getD i Tb.zero).chk.n), .str (s.tabs.getD i Tb.zero).chk.s, .imm ((s.tabs.getD i Tb.zero).chk.names.map AVal.str), .imm ((s.tabs.getD i Tb.zero).chk.binds.map AVal.str), .imm ((s.tabs.getD i Tb.zero).chk.kids.map Ex.enc), .int .i64 ((s.tabs.getD i Tb.zero).chk.pos), .int .i64 ((s.tabs.getD i Tb.zero).chk.fin)], .box [.str ((s.tabs.getD i Tb.zero).refs.getD k Rf.zero).col, .str ((s.tabs.getD i Tb.zero).refs.getD k Rf.zero).tab]] ?_ ?_
 refine qo ?_ ?_
 refine qy (o_add (a := ((k : Nat) : Int)) (b := 1) (by kernel_rfl) (by first | omega | (have hrb := ref_bd hs i (by omega); omega)) (by first | omega | (have hrb := ref_bd hs i (by omega); omega))) ?_ ?_ ?_
 refine qr 1 ?_ ?_
 refine qe ?_ ?_
 refine AThen_normal ⟨k + 1, ?_, ?_, ⟨⟨(by kernel_rfl), (Eq.trans (b := .own 1 0 ((refsOf n (s.tabs.take i) ++ refsT n (s.tabs.getD i Tb.zero) k) ++ [(Rf.mk (((s.tabs.getD i Tb.zero).refs.getD k Rf.zero).col) ((s.tabs.getD i Tb.zero).name))]).length) (by kernel_rfl) (by first | rw [refsT_y (by omega) (by assumption), List.append_assoc] | rw [refsT_n (by omega) (by assumption)])), (by kernel_rfl), (by kernel_rfl), (by kernel_rfl), (by kernel_rfl), (by kernel_rfl), (by kernel_rfl), (by kernel_rfl), trivial⟩, by simp [BelL, AVal.bel], by simp, (Eq.trans (b := [.box [.imm (s.sums.map Sm.v), .imm (s.tabs.map Tb.v)], .arr 2 (((refsOf n (s.tabs.take i) ++ refsT n (s.tabs.getD i Tb.zero) k) ++ [(Rf.mk (((s.tabs.getD i Tb.zero).refs.getD k Rf.zero).col) ((s.tabs.getD i Tb.zero).name))]).map Rf.v) 0, .box [.str (s.tabs.getD i Tb.zero).name, .imm ((s.tabs.getD i Tb.zero).cols.map Co.v), .imm ((s.tabs.getD i Tb.zero).key.map AVal.str), .imm ((s.tabs.getD i Tb.zero).refs.map Rf.v), .int .i64 ((s.tabs.getD i Tb.zero).chk.kind), .str (s.tabs.getD i Tb.zero).chk.name, .int .i64 ((s.tabs.getD i Tb.zero).chk.n), .str (s.tabs.getD i Tb.zero).chk.s, .imm ((s.tabs.getD i Tb.zero).chk.names.map AVal.str), .imm ((s.tabs.getD i Tb.zero).chk.binds.map AVal.str), .imm ((s.tabs.getD i Tb.zero).chk.kids.map Ex.enc), .int .i64 ((s.tabs.getD i Tb.zero).chk.pos), .int .i64 ((s.tabs.getD i Tb.zero).chk.fin)]]) (by kernel_rfl) (by first | rw [refsT_y (by omega) (by assumption), List.append_assoc] | rw [refsT_n (by omega) (by assumption)])), by simp [AObj.belO, AVal.bel, belL, -List.map_append]⟩⟩
 · omega
 · omega
 iterate 13 kernel_rfl
 refine qf (beq_eq_false_iff_ne.2 hb3) ?_ ?_
 refine qk ?_ ?_
 refine AIn_normal ?_
 refine AThen_normal ?_
 refine qz [(1, .str n), (5, .own 1 0 (refsOf n (s.tabs.take i) ++ refsT n (s.tabs.getD i Tb.zero) k).length), (7, .ptr 2 0), (11, .imm (s.tabs.map Tb.v)), (12, nI s.tabs.length), (13, nI i), (18, .imm ((s.tabs.getD i Tb.zero).refs.map Rf.v)), (19, nI ((s.tabs.getD i Tb.zero).refs.length)), (20, nI k)] ?_ ?_
 refine qo ?_ ?_
 refine qy (o_add (a := ((k : Nat) : Int)) (b := 1) (by kernel_rfl) (by first | omega | (have hrb := ref_bd hs i (by omega); omega)) (by first | omega | (have hrb := ref_bd hs i (by omega); omega))) ?_ ?_ ?_
 refine qr 1 ?_ ?_
 refine qe ?_ ?_
 refine AThen_normal ⟨k + 1, ?_, ?_, ⟨⟨(by kernel_rfl), (Eq.trans (b := .own 1 0 (refsOf n (s.tabs.take i) ++ refsT n (s.tabs.getD i Tb.zero) k).length) (by kernel_rfl) (by first | rw [refsT_y (by omega) (by assumption), List.append_assoc] | rw [refsT_n (by omega) (by assumption)])), (by kernel_rfl), (by kernel_rfl), (by kernel_rfl), (by kernel_rfl), (by kernel_rfl), (by kernel_rfl), (by kernel_rfl), trivial⟩, by simp [BelL, AVal.bel], by simp, (Eq.trans (b := [.box [.imm (s.sums.map Sm.v), .imm (s.tabs.map Tb.v)], .arr 2 ((refsOf n (s.tabs.take i) ++ refsT n (s.tabs.getD i Tb.zero) k).map Rf.v) 0, .box [.str (s.tabs.getD i Tb.zero).name, .imm ((s.tabs.getD i Tb.zero).cols.map Co.v), .imm ((s.tabs.getD i Tb.zero).key.map AVal.str), .imm ((s.tabs.getD i Tb.zero).refs.map Rf.v), .int .i64 ((s.tabs.getD i Tb.zero).chk.kind), .str (s.tabs.getD i Tb.zero).chk.name, .int .i64 ((s.tabs.getD i Tb.zero).chk.n), .str (s.tabs.getD i Tb.zero).chk.s, .imm ((s.tabs.getD i Tb.zero).chk.names.map AVal.str), .imm ((s.tabs.getD i Tb.zero).chk.binds.map AVal.str), .imm ((s.tabs.getD i Tb.zero).chk.kids.map Ex.enc), .int .i64 ((s.tabs.getD i Tb.zero).chk.pos), .int .i64 ((s.tabs.getD i Tb.zero).chk.fin)]]) (by kernel_rfl) (by first | rw [refsT_y (by omega) (by assumption), List.append_assoc] | rw [refsT_n (by omega) (by assumption)])), by simp [AObj.belO, AVal.bel, belL, -List.map_append]⟩⟩
 · omega
 · omega
 iterate 19 kernel_rfl
 refine qf (decide_eq_false hb2) ?_ ?_
 refine wExit 2 (by kernel_rfl) (by kernel_rfl) ?_
 refine AThen_exit ?_
 refine AThen_exit ?_
 refine AIn_exit ?_
 refine AIn_normal ?_
 refine AThen_normal ?_
 refine qz [(1, .str n), (5, .own 1 0 (refsOf n (s.tabs.take i) ++ refsT n (s.tabs.getD i Tb.zero) k).length), (11, .imm (s.tabs.map Tb.v)), (12, nI s.tabs.length), (13, nI i)] ?_ ?_
 refine qo ?_ ?_
 refine qy (o_add (a := ((i : Nat) : Int)) (b := 1) (by kernel_rfl) (by first | omega | (have hrb := ref_bd hs i (by omega); omega)) (by first | omega | (have hrb := ref_bd hs i (by omega); omega))) ?_ ?_ ?_
 refine qr 1 ?_ ?_
 refine qe ?_ ?_
 refine AThen_normal ⟨i + 1, ?_, ?_, ⟨⟨(by kernel_rfl), (Eq.trans (b := .own 1 0 (refsOf n (s.tabs.take i) ++ refsT n (s.tabs.getD i Tb.zero) k).length) (by kernel_rfl) (by rw [refsOf_s (by omega), refsT_end (k := k) (by omega)])), (by kernel_rfl), (by kernel_rfl), (by kernel_rfl), trivial⟩, by simp [BelL, AVal.bel], by simp, (Eq.trans (b := [.box [.imm (s.sums.map Sm.v), .imm (s.tabs.map Tb.v)], .arr 2 ((refsOf n (s.tabs.take i) ++ refsT n (s.tabs.getD i Tb.zero) k).map Rf.v) 0]) (by kernel_rfl) (by rw [refsOf_s (by omega), refsT_end (k := k) (by omega)])), by simp [AObj.belO, AVal.bel, belL, -List.map_append]⟩⟩
 · omega
 · omega
 iterate 25 kernel_rfl
 refine qf (decide_eq_false hb1) ?_ ?_
 refine wExit 0 (by kernel_rfl) (by kernel_rfl) ?_
 refine AThen_exit ?_
 refine AThen_exit ?_
 refine AIn_exit ?_
 refine AThen_normal ?_
 refine qz [(5, .own 1 0 (refsOf n (s.tabs.take i)).length)] ?_ ?_
 refine qU 2 [(4, .own 1 0 (refsOf n (s.tabs.take i)).length)] ?_ ?_
 refine wRet (by kernel_rfl) ?_
 refine leafP (l := [.own 1 0 (refsOf n (s.tabs.take i)).length]) (.inr rfl) (by kernel_rfl) ?_
 · have hi2 : s.tabs.take i = s.tabs := List.take_of_length_le (by omega)
   rw [hi2]; simp [awrap, AVal.frz, belL_rfs]
 iterate 16 kernel_rfl
noncomputable def c16 : Code := bodyOf Tryz.f16
theorem rrefs_spec (s : Sc) (n : List UInt8) (hs : s.fine) : CallsP cx 16 [Sc.v s, .str n] (.imm ((refsOf n s.tabs).map Rf.v)) := by
 have hz1 := hs.2.2.1.2
 refine func_intro (cx := cx) 59 0 [(ResultVar.tmp 4)] Tryz.func16 rfl rfl rfl rfl rfl (by simp) ?_
 show wpA cx 59 0 (at_ c16 []) _ _ _
 refine qZ [(0, Sc.v s), (1, .str n)] [] ?_ ?_
 refine qW 2 [(1, .str n), (2, .ptr 0 0)] [.box [.imm (s.sums.map Sm.v), .imm (s.tabs.map Tb.v)]] ?_ ?_
 refine qU 1 [(1, .str n), (2, .ptr 0 0), (5, .full [])] ?_ ?_
 refine wOwn 5 2 (by decide) (by kernel_rfl) ?_
 refine qZ [(1, .str n), (2, .ptr 0 0), (5, .own 1 0 0)] [.box [.imm (s.sums.map Sm.v), .imm (s.tabs.map Tb.v)], .arr 2 (([] : List (Rf)).map Rf.v) 0] ?_ ?_
 refine qSeq ?_ ?_
 refine qU 1 [(1, .str n), (2, .ptr 0 0), (5, .own 1 0 0), (6, .int .i64 0)] ?_ ?_
 refine qB 0 ?_ ?_ ?_
 refine wLoop (σ := Nat) (fun i => [(1, .str n), (2, .ptr 0 0), (5, .own 1 0 (refsOf n (s.tabs.take i)).length), (6, .int .i64 ((i : Nat) : Int))]) (fun i => [.box [.imm (s.sums.map Sm.v), .imm (s.tabs.map Tb.v)], .arr 2 ((refsOf n (s.tabs.take i)).map Rf.v) 0]) (fun i => i ≤ s.tabs.length) (fun i => s.tabs.length - i) 0 (by kernel_rfl) (by exact Nat.zero_le _) ⟨⟨(by kernel_rfl), (by kernel_rfl), (Eq.trans (b := .own 1 0 0) (by kernel_rfl) (by simp [refsOf])), (by kernel_rfl), trivial⟩, by simp [BelL, AVal.bel], by simp, (Eq.trans (b := [.box [.imm (s.sums.map Sm.v), .imm (s.tabs.map Tb.v)], .arr 2 (([] : List (Rf)).map Rf.v) 0]) (by kernel_rfl) (by simp [refsOf])), by simp [AObj.belO, AVal.bel, belL, -List.map_append]⟩ ?_
 rintro i hi
 refine qSeq ?_ ?_
 refine qV 3 ?_ ?_
 refine qy (o_lenmap (l := s.tabs) (enc := Tb.v) (by kernel_rfl) ty24) ?_ ?_ ?_
 refine qR 1 [(1, .str n), (2, .ptr 0 0), (5, .own 1 0 (refsOf n (s.tabs.take i)).length), (6, nI i), (12, .bool (decide (((i : Nat) : Int) < ((s.tabs.length : Nat) : Int))))] [.box [.imm (s.sums.map Sm.v), .imm (s.tabs.map Tb.v)], .arr 2 ((refsOf n (s.tabs.take i)).map Rf.v) 0] ?_ ?_
 by_cases hb1 : ((i : Nat) : Int) < ((s.tabs.length : Nat) : Int)
 refine qt (decide_eq_true hb1) ?_ ?_
 refine qK ?_ ?_
 refine qz [(1, .str n), (2, .ptr 0 0), (5, .own 1 0 (refsOf n (s.tabs.take i)).length), (6, nI i)] ?_ ?_
 refine qSeq ?_ ?_
 refine qB 1 ?_ ?_ ?_
 refine qU 1 [(1, .str n), (2, .ptr 0 0), (5, .own 1 0 (refsOf n (s.tabs.take i)).length), (6, nI i), (7, .int .i64 0)] ?_ ?_
 refine qB 2 ?_ ?_ ?_
 refine wLoop (σ := Nat) (fun k => [(1, .str n), (2, .ptr 0 0), (5, .own 1 0 (refsOf n (s.tabs.take i) ++ refsT n (s.tabs.getD i Tb.zero) k).length), (6, .int .i64 ((i : Nat) : Int)), (7, .int .i64 ((k : Nat) : Int))]) (fun k => [.box [.imm (s.sums.map Sm.v), .imm (s.tabs.map Tb.v)], .arr 2 ((refsOf n (s.tabs.take i) ++ refsT n (s.tabs.getD i Tb.zero) k).map Rf.v) 0]) (fun k => k ≤ (s.tabs.getD i Tb.zero).refs.length) (fun k => (s.tabs.getD i Tb.zero).refs.length - k) 0 (by kernel_rfl) (by exact Nat.zero_le _) ⟨⟨(by kernel_rfl), (by kernel_rfl), (Eq.trans (b := .own 1 0 (refsOf n (s.tabs.take i)).length) (by kernel_rfl) (by rw [refsT_0, List.append_nil])), (by kernel_rfl), (by kernel_rfl), trivial⟩, by simp [BelL, AVal.bel], by simp, (Eq.trans (b := [.box [.imm (s.sums.map Sm.v), .imm (s.tabs.map Tb.v)], .arr 2 ((refsOf n (s.tabs.take i)).map Rf.v) 0]) (by kernel_rfl) (by rw [refsT_0, List.append_nil])), by simp [AObj.belO, AVal.bel, belL, -List.map_append]⟩ ?_
 rintro k hk
 have hrb := ref_bd hs i (by omega)
 refine qSeq ?_ ?_
 refine qV 4 ?_ ?_
 refine qy ((o_ixmap (k := .i64) (l := s.tabs) (enc := Tb.v) (i := ((i : Nat) : Int)) Tb.zero (by kernel_rfl) ty24 ty41 (fun _ => rfl) (by first | omega | (have hrb := ref_bd hs i (by omega); omega)) (by first | omega | (have hrb := ref_bd hs i (by omega); omega))).trans (congrArg (fun cs => some (AVal.pimm cs 0, _)) (tb_cells (s.tabs.getD i Tb.zero)))) ?_ ?_ ?_
 refine qr 2 ?_ ?_
 refine qy (o_lenmap (l := (s.tabs.getD i Tb.zero).refs) (enc := Rf.v) (by kernel_rfl) ty36) ?_ ?_ ?_
 refine qR 1 [(1, .str n), (2, .ptr 0 0), (5, .own 1 0 (refsOf n (s.tabs.take i) ++ refsT n (s.tabs.getD i Tb.zero) k).length), (6, nI i), (7, nI k), (23, .bool (decide (((k : Nat) : Int) < (((s.tabs.getD i Tb.zero).refs.length : Nat) : Int))))] [.box [.imm (s.sums.map Sm.v), .imm (s.tabs.map Tb.v)], .arr 2 ((refsOf n (s.tabs.take i) ++ refsT n (s.tabs.getD i Tb.zero) k).map Rf.v) 0] ?_ ?_
 by_cases hb2 : ((k : Nat) : Int) < (((s.tabs.getD i Tb.zero).refs.length : Nat) : Int)
 refine qt (decide_eq_true hb2) ?_ ?_
 refine qK ?_ ?_
 refine qz [(1, .str n), (2, .ptr 0 0), (5, .own 1 0 (refsOf n (s.tabs.take i) ++ refsT n (s.tabs.getD i Tb.zero) k).length), (6, nI i), (7, nI k)] ?_ ?_
 refine qSeq ?_ ?_
 refine qB 3 ?_ ?_ ?_
 refine qV 3 ?_ ?_
 refine qy ((o_ixmap (k := .i64) (l := s.tabs) (enc := Tb.v) (i := ((i : Nat) : Int)) Tb.zero (by kernel_rfl) ty24 ty41 (fun _ => rfl) (by first | omega | (have hrb := ref_bd hs i (by omega); omega)) (by first | omega | (have hrb := ref_bd hs i (by omega); omega))).trans (congrArg (fun cs => some (AVal.pimm cs 0, _)) (tb_cells (s.tabs.getD i Tb.zero)))) ?_ ?_ ?_
 refine qr 3 ?_ ?_
 refine qy ((o_ixmap (k := .i64) (l := (s.tabs.getD i Tb.zero).refs) (enc := Rf.v) (i := ((k : Nat) : Int)) Rf.zero (by kernel_rfl) ty36 ty51 (fun _ => rfl) (by first | omega | (have hrb := ref_bd hs i (by omega); omega)) (by first | omega | (have hrb := ref_bd hs i (by omega); omega))).trans (congrArg (fun cs => some (AVal.pimm cs 0, _)) (rf_cells ((s.tabs.getD i Tb.zero).refs.getD k Rf.zero)))) ?_ ?_ ?_
 refine qR 4 [(1, .str n), (2, .ptr 0 0), (5, .own 1 0 (refsOf n (s.tabs.take i) ++ refsT n (s.tabs.getD i Tb.zero) k).length), (6, nI i), (7, nI k), (37, .bool (((s.tabs.getD i Tb.zero).refs.getD k Rf.zero).tab == n))] [.box [.imm (s.sums.map Sm.v), .imm (s.tabs.map Tb.v)], .arr 2 ((refsOf n (s.tabs.take i) ++ refsT n (s.tabs.getD i Tb.zero) k).map Rf.v) 0] ?_ ?_
 by_cases hb3 : ((s.tabs.getD i Tb.zero).refs.getD k Rf.zero).tab = n
 refine qt (beq_iff_eq.2 hb3) ?_ ?_
 refine wDrw cxM (by kernel_rfl) (extIn extThen) (dstart ?_)
 refine qu 4 ?_ ?_
 refine qd ((o_ixmap (k := .i64) (l := s.tabs) (enc := Tb.v) (i := ((i : Nat) : Int)) Tb.zero (by kernel_rfl) ty24 ty41 (fun _ => rfl) (by first | omega | (have hrb := ref_bd hs i (by omega); omega)) (by first | omega | (have hrb := ref_bd hs i (by omega); omega))).trans (congrArg (fun cs => some (AVal.pimm cs 0, _)) (tb_cells (s.tabs.getD i Tb.zero)))) ?_ ?_ ?_ ?_
 refine qu 3 ?_ ?_
 refine qd ((o_ixmap (k := .i64) (l := (s.tabs.getD i Tb.zero).refs) (enc := Rf.v) (i := ((k : Nat) : Int)) Rf.zero (by kernel_rfl) ty36 ty51 (fun _ => rfl) (by first | omega | (have hrb := ref_bd hs i (by omega); omega)) (by first | omega | (have hrb := ref_bd hs i (by omega); omega))).trans (congrArg (fun cs => some (AVal.pimm cs 0, _)) (rf_cells ((s.tabs.getD i Tb.zero).refs.getD k Rf.zero)))) ?_ ?_ ?_ ?_
 refine qu 5 ?_ ?_
 refine qd ((o_ixmap (k := .i64) (l := s.tabs) (enc := Tb.v) (i := ((i : Nat) : Int)) Tb.zero (by kernel_rfl) ty24 ty41 (fun _ => rfl) (by first | omega | (have hrb := ref_bd hs i (by omega); omega)) (by first | omega | (have hrb := ref_bd hs i (by omega); omega))).trans (congrArg (fun cs => some (AVal.pimm cs 0, _)) (tb_cells (s.tabs.getD i Tb.zero)))) ?_ ?_ ?_ ?_
 refine qu 4 ?_ ?_
 refine qD (o_appmap (o := 1) (len := ((refsOf n (s.tabs.take i) ++ refsT n (s.tabs.getD i Tb.zero) k).length)) (l := (refsOf n (s.tabs.take i) ++ refsT n (s.tabs.getD i Tb.zero) k)) (xs := [(Rf.mk (((s.tabs.getD i Tb.zero).refs.getD k Rf.zero).col) ((s.tabs.getD i Tb.zero).name))]) (enc := Rf.v) (sz := 2) (fr := 0) (x := (.full [.agg [.str ((s.tabs.getD i Tb.zero).refs.getD k Rf.zero).col, .str (s.tabs.getD i Tb.zero).name]])) (by kernel_rfl) ty36 ty51 ty36 rfl (by kernel_rfl) rfl (by first | rfl | simp) (by kernel_rfl) ⟨by decide, by kernel_rfl⟩ (fun _ => rfl) (by (have h1 := refs_bd hs n i; have h2 := refsT_len n (s.tabs.getD i Tb.zero) k; simp only [List.length_append, List.length_cons, List.length_nil]; omega)) (by (have h1 := refs_bd hs n i; have h2 := refsT_len n (s.tabs.getD i Tb.zero) k; simp only [List.length_append, List.length_cons, List.length_nil]; omega))) ?_ ?_ ?_ ?_
 refine qu 1 ?_ ?_
 refine dend (by kernel_rfl) ⟨(by kernel_rfl), ?_⟩
 refine AIn_normal ?_
 refine AThen_normal ?_
 refine qZ [(1, .str n), (2, .ptr 0 0), (5, .own 1 0 ((refsOf n (s.tabs.take i) ++ refsT n (s.tabs.getD i Tb.zero) k) ++ [(Rf.mk (((s.tabs.getD i Tb.zero).refs.getD k Rf.zero).col) ((s.tabs.getD i Tb.zero).name))]).length), (6, nI i), (7, nI k)] [.box [.imm (s.sums.map Sm.v), .imm (s.tabs.map Tb.v)], .arr 2 (((refsOf n (s.tabs.take i) ++ refsT n (s.tabs.getD i Tb.zero) k) ++ [(Rf.mk (((s.tabs.getD i Tb.zero).refs.getD k Rf.zero).col) ((s.tabs.getD i Tb.zero).name))]).map Rf.v) 0] ?_ ?_
 refine qo ?_ ?_
 refine qr 1 ?_ ?_
 refine qy (o_add (a := ((k : Nat) : Int)) (b := 1) (by kernel_rfl) (by first | omega | (have hrb := ref_bd hs i (by omega); omega)) (by first | omega | (have hrb := ref_bd hs i (by omega); omega))) ?_ ?_ ?_
 refine qr 1 ?_ ?_
 refine qe ?_ ?_
 refine AThen_normal ⟨k + 1, ?_, ?_, ⟨⟨(by kernel_rfl), (by kernel_rfl), (Eq.trans (b := .own 1 0 ((refsOf n (s.tabs.take i) ++ refsT n (s.tabs.getD i Tb.zero) k) ++ [(Rf.mk (((s.tabs.getD i Tb.zero).refs.getD k Rf.zero).col) ((s.tabs.getD i Tb.zero).name))]).length) (by kernel_rfl) (by first | rw [refsT_y (by omega) (by assumption), List.append_assoc] | rw [refsT_n (by omega) (by assumption)])), (by kernel_rfl), (by kernel_rfl), trivial⟩, by simp [BelL, AVal.bel], by simp, (Eq.trans (b := [.box [.imm (s.sums.map Sm.v), .imm (s.tabs.map Tb.v)], .arr 2 (((refsOf n (s.tabs.take i) ++ refsT n (s.tabs.getD i Tb.zero) k) ++ [(Rf.mk (((s.tabs.getD i Tb.zero).refs.getD k Rf.zero).col) ((s.tabs.getD i Tb.zero).name))]).map Rf.v) 0]) (by kernel_rfl) (by first | rw [refsT_y (by omega) (by assumption), List.append_assoc] | rw [refsT_n (by omega) (by assumption)])), by simp [AObj.belO, AVal.bel, belL, -List.map_append]⟩⟩
 · omega
 · omega
 iterate 25 kernel_rfl
 refine qf (beq_eq_false_iff_ne.2 hb3) ?_ ?_
 refine qk ?_ ?_
 refine AIn_normal ?_
 refine AThen_normal ?_
 refine qz [(1, .str n), (2, .ptr 0 0), (5, .own 1 0 (refsOf n (s.tabs.take i) ++ refsT n (s.tabs.getD i Tb.zero) k).length), (6, nI i), (7, nI k)] ?_ ?_
 refine qo ?_ ?_
 refine qr 1 ?_ ?_
 refine qy (o_add (a := ((k : Nat) : Int)) (b := 1) (by kernel_rfl) (by first | omega | (have hrb := ref_bd hs i (by omega); omega)) (by first | omega | (have hrb := ref_bd hs i (by omega); omega))) ?_ ?_ ?_
 refine qr 1 ?_ ?_
 refine qe ?_ ?_
 refine AThen_normal ⟨k + 1, ?_, ?_, ⟨⟨(by kernel_rfl), (by kernel_rfl), (Eq.trans (b := .own 1 0 (refsOf n (s.tabs.take i) ++ refsT n (s.tabs.getD i Tb.zero) k).length) (by kernel_rfl) (by first | rw [refsT_y (by omega) (by assumption), List.append_assoc] | rw [refsT_n (by omega) (by assumption)])), (by kernel_rfl), (by kernel_rfl), trivial⟩, by simp [BelL, AVal.bel], by simp, (Eq.trans (b := [.box [.imm (s.sums.map Sm.v), .imm (s.tabs.map Tb.v)], .arr 2 ((refsOf n (s.tabs.take i) ++ refsT n (s.tabs.getD i Tb.zero) k).map Rf.v) 0]) (by kernel_rfl) (by first | rw [refsT_y (by omega) (by assumption), List.append_assoc] | rw [refsT_n (by omega) (by assumption)])), by simp [AObj.belO, AVal.bel, belL, -List.map_append]⟩⟩
 · omega
 · omega
 iterate 22 kernel_rfl
 refine qf (decide_eq_false hb2) ?_ ?_
 refine wExit 2 (by kernel_rfl) (by kernel_rfl) ?_
 refine AThen_exit ?_
 refine AThen_exit ?_
 refine AIn_exit ?_
 refine AIn_normal ?_
 refine AThen_normal ?_
 refine qz [(1, .str n), (2, .ptr 0 0), (5, .own 1 0 (refsOf n (s.tabs.take i) ++ refsT n (s.tabs.getD i Tb.zero) k).length), (6, nI i)] ?_ ?_
 refine qo ?_ ?_
 refine qr 1 ?_ ?_
 refine qy (o_add (a := ((i : Nat) : Int)) (b := 1) (by kernel_rfl) (by first | omega | (have hrb := ref_bd hs i (by omega); omega)) (by first | omega | (have hrb := ref_bd hs i (by omega); omega))) ?_ ?_ ?_
 refine qr 1 ?_ ?_
 refine qe ?_ ?_
 refine AThen_normal ⟨i + 1, ?_, ?_, ⟨⟨(by kernel_rfl), (by kernel_rfl), (Eq.trans (b := .own 1 0 (refsOf n (s.tabs.take i) ++ refsT n (s.tabs.getD i Tb.zero) k).length) (by kernel_rfl) (by rw [refsOf_s (by omega), refsT_end (k := k) (by omega)])), (by kernel_rfl), trivial⟩, by simp [BelL, AVal.bel], by simp, (Eq.trans (b := [.box [.imm (s.sums.map Sm.v), .imm (s.tabs.map Tb.v)], .arr 2 ((refsOf n (s.tabs.take i) ++ refsT n (s.tabs.getD i Tb.zero) k).map Rf.v) 0]) (by kernel_rfl) (by rw [refsOf_s (by omega), refsT_end (k := k) (by omega)])), by simp [AObj.belO, AVal.bel, belL, -List.map_append]⟩⟩
 · omega
 · omega
 iterate 25 kernel_rfl
 refine qf (decide_eq_false hb1) ?_ ?_
 refine wExit 0 (by kernel_rfl) (by kernel_rfl) ?_
 refine AThen_exit ?_
 refine AThen_exit ?_
 refine AIn_exit ?_
 refine AThen_normal ?_
 refine qz [(5, .own 1 0 (refsOf n (s.tabs.take i)).length)] ?_ ?_
 refine qU 2 [(4, .own 1 0 (refsOf n (s.tabs.take i)).length)] ?_ ?_
 refine wRet (by kernel_rfl) ?_
 refine leafP (l := [.own 1 0 (refsOf n (s.tabs.take i)).length]) (.inr rfl) (by kernel_rfl) ?_
 · have hi2 : s.tabs.take i = s.tabs := List.take_of_length_le (by omega)
   rw [hi2]; simp [awrap, AVal.frz, belL_rfs]
 iterate 16 kernel_rfl
def shortS (s : List UInt8) : List UInt8 := if s.length > 20 then s.take 20 else s
noncomputable def c10 : Code := bodyOf Tryz.f10
theorem short_spec (s : List UInt8) (hn : s.length < 1000000000) : CallsP cx 10 [.str s, .int .i64 20] (.str (shortS s)) := by
 refine func_intro (cx := cx) 13 0 [(ResultVar.tmp 4)] Tryz.func10 rfl rfl rfl rfl rfl (by simp) ?_
 show wpA cx 13 0 (at_ c10 []) _ _ _
 refine qZ [(0, .str s), (1, .int .i64 20)] [] ?_ ?_
 refine qU 1 [(0, .str s), (1, .int .i64 20)] ?_ ?_
 refine qSeq ?_ ?_
 refine qU 4 [(0, .str s), (1, .int .i64 20), (8, .bool (decide (((s.length : Nat) : Int) > 20)))] ?_ ?_
 by_cases hb1 : ((s.length : Nat) : Int) > 20
 refine qt (decide_eq_true hb1) ?_ ?_
 refine qV 2 ?_ ?_
 refine qy (o_slcto (hi := (some (.int .i64 20))) (s := s) (y := 20) (by kernel_rfl) ty9 (by kernel_rfl) (by omega) (by omega)) ?_ ?_ ?_
 refine qR 1 [(4, .str (s.take 20))] [] ?_ ?_
 refine wRet (by kernel_rfl) ?_
 apply aR
 refine leafS (s := (s.take 20)) (.inr rfl) (by kernel_rfl) ?_
 rotate_left
 iterate 5 kernel_rfl
 refine qf (decide_eq_false hb1) ?_ ?_
 refine qK ?_ ?_
 refine qz [(0, .str s)] ?_ ?_
 refine qU 2 [(4, .str s)] ?_ ?_
 refine wRet (by kernel_rfl) ?_
 refine leafS (s := s) (.inr rfl) (by kernel_rfl) ?_
 rotate_left
 iterate 8 kernel_rfl
 all_goals
  first | (rw [shortS, if_pos (by omega)]; done) | (rw [shortS, if_neg (by omega)]; done) | (rw [shortS, if_pos (by omega)]; simp; done)
end Go.Proofs.YtindpcpdkikdmaaGreatDoor
