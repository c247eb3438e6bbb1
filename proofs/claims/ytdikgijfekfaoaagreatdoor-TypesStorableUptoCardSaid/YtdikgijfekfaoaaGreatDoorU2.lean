/- The law TypesStorable. Condition: sizes that can be had. -/
import Derived.Test.YtdikgijfekfaoaaGreatDoorU1
import Derived.Test.YtdikgijfekfaoaaGreatDoorT10
import Derived.Test.YtdikgijfekfaoaaGreatDoorH4
import Derived.Test.YtdikgijfekfaoaaGreatDoorAbsd
import Derived.Test.YtdikgijfekfaoaaGreatDoorAbsc
import Derived.Test.YtdikgijfekfaoaaGreatDoorTyx
set_option linter.all false
set_option linter.unusedSimpArgs false
set_option linter.unusedVariables false
namespace Go.Proofs.YtdikgijfekfaoaaGreatDoor
open Go.Proofs.YtdikgijfekfaoaaGreatDoor.Abs
set_option maxRecDepth 20000
set_option maxHeartbeats 4000000
theorem closed_1 (l : List Int) (q : Nat) (hl : i64L l) (hq : q ≤ 100) : CallsP cx 13 [.imm (l.map (.int .i64)), .int .i64 (q : Nat), .int .i64 1] (closedT l 1 q).v := closed_P (closed_raw l q 1 hl (by omega) (by decide))
def lsT (t : Ty) : Ty := .mk 4 [] 0 [] [t]
def colS (a : Ty) : Su := ⟨[67, 111, 108, 111, 114], [⟨[82, 101, 100], false, Ty.mk 0 [] 0 [] []⟩, ⟨[77, 105, 120], true, a⟩]⟩
def shpS (a : Ty) : Su := ⟨[83, 104, 97, 112, 101], [⟨[68, 111, 116], false, lsT a⟩]⟩
def all4s (t : Ty) (l : List Int) : List Ty := [t, closedT l 1 0, .mk 3 [67, 111, 108, 111, 114] 0 [] [], .mk 3 [83, 104, 97, 112, 101] 0 [] []]
theorem all4s_len (t : Ty) (l : List Int) : (all4s t l).length = 4 := rfl
theorem all4s_sz {t : Ty} {l : List Int} (ht : t.sz < 100000000) (i : Nat) : ((all4s t l).getD i Ty.zero).sz < 100000000 := by
  match i with
  | 0 => exact ht
  | 1 => exact Nat.lt_of_le_of_lt (closedT_small l 1 0 (by decide)) (by decide)
  | 2 => show Ty.sz _ < _; simp [all4s, Ty.sz, szS, Ty.szL]
  | 3 => show Ty.sz _ < _; simp [all4s, Ty.sz, szS, Ty.szL]
  | i + 4 => simp [all4s, Ty.zero, Ty.sz, szS, Ty.szL]
theorem okC_nil : okC [] := ⟨by decide, fun j => by simp [Ct.zero, Ty.zero, Ty.sz, szS, Ty.szL]⟩
theorem okS_take {l : List Su} (h : okS l) (k : Nat) : okS ((l.take k).drop 0) := by
  rw [List.drop_zero]
  refine ⟨by have := h.1; rw [List.length_take]; omega, fun i => ?_⟩
  by_cases hi : i < (l.take k).length
  · have e : (l.take k).getD i Su.zero = l.getD i Su.zero := by
      have h2 : i < k := by rw [List.length_take] at hi; omega
      simp [List.getD_eq_getElem?_getD, List.getElem?_take, h2]
    rw [e]; exact h.2 i
  · rw [List.getD_eq_getElem?_getD, List.getElem?_eq_none (by omega)]; exact okC_nil
theorem okS_app {a b : List Su} (ha : okS a) (hb : okS b) (hl : (a ++ b).length < 100000000) : okS (a ++ b) := by
  refine ⟨hl, fun i => ?_⟩
  by_cases hi : i < a.length
  · rw [List.getD_eq_getElem?_getD, List.getElem?_append_left hi, ← List.getD_eq_getElem?_getD]; exact ha.2 i
  · rw [List.getD_eq_getElem?_getD, List.getElem?_append_right (by omega), ← List.getD_eq_getElem?_getD]; exact hb.2 _
theorem lsT_sz (t : Ty) : (lsT t).sz = t.sz + 2 := by simp [lsT, Ty.sz, szS, Ty.szL]; omega
theorem okS_two {a : Ty} (h : a.sz ≤ 10000) : okS [colS a, shpS a] := by
  refine ⟨by show 2 < 100000000; decide, fun i => ?_⟩
  match i with
  | 0 =>
    refine ⟨by show 2 < 100000000; decide, fun j => ?_⟩
    match j with
    | 0 => simp [colS, Ty.sz, szS, Ty.szL]
    | 1 => show a.sz < _; omega
    | j + 2 => exact okC_nil.2 0
  | 1 =>
    refine ⟨by show 1 < 100000000; decide, fun j => ?_⟩
    match j with
    | 0 => show (lsT a).sz < _; rw [lsT_sz]; omega
    | j + 1 => exact okC_nil.2 0
  | i + 2 => exact okC_nil
theorem frzL_ap (h : AHeap) : ∀ a b : List AVal, frzL h (a ++ b) = frzL h a ++ frzL h b
  | [], b => rfl
  | x :: a, b => by simp only [List.cons_append, frzL, frzL_ap h a b]
theorem ownsL_ap : ∀ a b : List AVal, ownsL (a ++ b) = ownsL a ++ ownsL b
  | [], b => rfl
  | x :: a, b => by simp only [List.cons_append, ownsL, ownsL_ap a b, List.append_assoc]
def own1 (ss : List Su) : List Su := (ss.take (min ss.length 3)).drop 0
theorem own1_len (ss : List Su) : (own1 ss).length ≤ 3 := by simp [own1]; omega
noncomputable def c28 : Code := bodyOf Tryz.f28
theorem list_spec (t : Ty)  : CallsP cx 28 [Ty.v t] (Ty.v (lsT t)) := by
 refine func_intro (cx := cx) 6 0 [(ResultVar.cell 2 25)] Tryz.func28 rfl rfl rfl rfl rfl (by simp) ?_
 show wpA cx 6 0 (at_ c28 []) _ _ _
 refine wZ [(0, Ty.v t)] [] (by kernel_rfl) ?_
 refine wW 2 [(1, .ptr 0 0), (2, .ptr 1 0)] [.box [.int .i64 (t.kind), .str t.name, .int .i64 (t.n), .imm (t.names.map AVal.str), .imm (t.kids.map Ty.enc)], .box [.int .i64 0, .str [], .int .i64 0, .full [], .full []]] (by kernel_rfl) ?_
 refine wW 4 [(2, .ptr 1 0)] [.box [.int .i64 (t.kind), .str t.name, .int .i64 (t.n), .imm (t.names.map AVal.str), .imm (t.kids.map Ty.enc)], .box [.int .i64 4, .str [], .int .i64 0, .full [], .full [.agg [.int .i64 (t.kind), .str t.name, .int .i64 (t.n), .imm (t.names.map AVal.str), .imm (t.kids.map Ty.enc)]]]] (by kernel_rfl) ?_
 refine wRet (by kernel_rfl) ?_
 refine leafP (l := [.agg [.int .i64 4, .str [], .int .i64 0, .full [], .full [.agg [.int .i64 (t.kind), .str t.name, .int .i64 (t.n), .imm (t.names.map AVal.str), .imm (t.kids.map Ty.enc)]]]]) (.inr rfl) (by kernel_rfl) ?_
 · simp [awrap, AVal.frz, frzL, lsT, Ty.v, Ty.kind, Ty.name, Ty.n, Ty.names, Ty.kids, Ty.enc_v]
noncomputable def c7 : Code := bodyOf Tryz.f7
theorem storable_spec (ss : List Su) (t : Ty) (l : List Int) (hss : okS ss) (ht : t.sz < 100000000) (hl : i64L l) : CallsP cx 7 [.imm (ss.map Su.v), Ty.v t, .imm (l.map (AVal.int .i64))] (.bool true) := by
 have hsi := all4s_sz (l := l) ht
 have h4 := all4s_len t l
 have hs1 := hss.1
 have ho1 := own1_len ss
 have hok1 : okS (own1 ss) := okS_take hss _
 have hcs := closedT_small l 1 5 (by decide)
 have hok2 := okS_app hok1 (okS_two hcs) (by have e : ((own1 ss) ++ [colS (closedT l 1 5), shpS (closedT l 1 5)]).length = (own1 ss).length + 2 := by simp
                                             rw [e]; omega)
 refine func_intro (cx := cx) 64 0 [(ResultVar.tmp 6)] Tryz.func7 rfl rfl rfl rfl rfl (by simp) ?_
 show wpA cx 64 0 (at_ c7 []) _ _ _
 refine wZ [(0, .imm (ss.map Su.v)), (1, Ty.v t), (2, .imm (l.map (AVal.int .i64)))] [] (by kernel_rfl) ?_
 refine wW 2 [(0, .imm (ss.map Su.v)), (2, .imm (l.map (AVal.int .i64))), (4, .ptr 0 0)] [.box [.int .i64 (t.kind), .str t.name, .int .i64 (t.n), .imm (t.names.map AVal.str), .imm (t.kids.map Ty.enc)]] (by kernel_rfl) ?_
 refine wV 3 (by kernel_rfl) ?_
 refine vsym (by kernel_rfl) (by kernel_rfl) (o_lenmap (l := ss) (enc := Su.v) (by kernel_rfl) ty41) ?_
 refine vsym (by kernel_rfl) (by kernel_rfl) (o_min (a := ss.length) (b := 3) (ats := [3, 3]) (by kernel_rfl)) ?_
 refine vsym (by kernel_rfl) (by kernel_rfl) (o_slcmap (lo := none) (hi := (some (.int .i64 (((min ss.length 3) : Nat) : Int)))) (l := ss) (enc := Su.v) (x := 0) (y := (((min ss.length 3) : Nat) : Int)) (by kernel_rfl) ty41 ty47 su_size (by kernel_rfl) (by kernel_rfl) (by first | omega | exact hsi _ | exact hok1 | exact hok2 | assumption) (by first | omega | exact hsi _ | exact hok1 | exact hok2 | assumption) (by first | omega | exact hsi _ | exact hok1 | exact hok2 | assumption)) ?_
 refine vsymH (v := .own 1 0 (own1 ss).length) (h' := [.box [.int .i64 (t.kind), .str t.name, .int .i64 (t.n), .imm (t.names.map AVal.str), .imm (t.kids.map Ty.enc)], .arr 2 ((own1 ss).map Su.v) 0]) (by kernel_rfl) (by kernel_rfl) (o_appnewM (P := cx.P) (t := 41) (enc := Su.v) (l := (own1 ss)) (h0 := [.box [.int .i64 (t.kind), .str t.name, .int .i64 (t.n), .imm (t.names.map AVal.str), .imm (t.kids.map Ty.enc)]]) (by kernel_rfl) (by kernel_rfl) ty41 ty47 ⟨by decide, rfl⟩ su_ok (by first | omega | exact hsi _ | exact hok1 | exact hok2 | assumption) (by first | omega | exact hsi _ | exact hok1 | exact hok2 | assumption)) ?_
 refine vR 1 [(2, .imm (l.map (AVal.int .i64))), (4, .ptr 0 0), (7, .own 1 0 (own1 ss).length)] [.box [.int .i64 (t.kind), .str t.name, .int .i64 (t.n), .imm (t.names.map AVal.str), .imm (t.kids.map Ty.enc)], .arr 2 ((own1 ss).map Su.v) 0] (by kernel_rfl) ?_
 refine wSeq (by kernel_rfl) ?_
 refine wSeq (by kernel_rfl) ?_
 refine wDrw cxM (by kernel_rfl) extThen (dstart ?_)
 refine drun 2 (by kernel_rfl) ?_
 refine dZ (args := [.own 1 0 (own1 ss).length, .agg [.int .i64 (t.kind), .str t.name, .int .i64 (t.n), .imm (t.names.map AVal.str), .imm (t.kids.map Ty.enc)]]) (F := [.box [.int .i64 (t.kind), .str t.name, .int .i64 (t.n), .imm (t.names.map AVal.str), .imm (t.kids.map Ty.enc)], .arr 2 ((own1 ss).map Su.v) ((own1 ss).map Su.v).length]) (L := [1]) (by kernel_rfl) (by kernel_rfl) (by kernel_rfl) (by kernel_rfl) (by kernel_rfl) (tstor_spec (own1 ss) t (by first | omega | exact hsi _ | exact hok1 | exact hok2 | assumption) (by first | omega | exact hsi _ | exact hok1 | exact hok2 | assumption)) [.box [.int .i64 (t.kind), .str t.name, .int .i64 (t.n), .imm (t.names.map AVal.str), .imm (t.kids.map Ty.enc)], .arr 2 ((own1 ss).map Su.v) 0] (by kernel_rfl) (by simp [frzL, frzH, ownsL, AVal.frz, AVal.owns, all4s, Ty.enc_v, Ty.v, Su.v, Ct.v, Ty.kind, Ty.name, Ty.n, Ty.names, Ty.kids, -List.map_append]) (by simp [Ty.v, Ct.v, Su.v, -List.map_append]) (by simp [frzL, frzH, ownsL, AVal.frz, AVal.owns, all4s, Ty.enc_v, Ty.v, Su.v, Ct.v, Ty.kind, Ty.name, Ty.n, Ty.names, Ty.kids, -List.map_append]) (by simp [frzL, frzH, ownsL, AVal.frz, AVal.owns, all4s, Ty.enc_v, Ty.v, Su.v, Ct.v, Ty.kind, Ty.name, Ty.n, Ty.names, Ty.kids, -List.map_append]) (by kernel_rfl) ?_
 refine drun 2 (by kernel_rfl) ?_
 refine dZ (args := [.own 1 0 (own1 ss).length, .agg [.int .i64 (t.kind), .str t.name, .int .i64 (t.n), .imm (t.names.map AVal.str), .imm (t.kids.map Ty.enc)]]) (F := [.box [.int .i64 (t.kind), .str t.name, .int .i64 (t.n), .imm (t.names.map AVal.str), .imm (t.kids.map Ty.enc)], .arr 2 ((own1 ss).map Su.v) ((own1 ss).map Su.v).length]) (L := [1]) (by kernel_rfl) (by kernel_rfl) (by kernel_rfl) (by kernel_rfl) (by kernel_rfl) (rstor_spec (own1 ss) t (by first | omega | exact hsi _ | exact hok1 | exact hok2 | assumption) (by first | omega | exact hsi _ | exact hok1 | exact hok2 | assumption)) [.box [.int .i64 (t.kind), .str t.name, .int .i64 (t.n), .imm (t.names.map AVal.str), .imm (t.kids.map Ty.enc)], .arr 2 ((own1 ss).map Su.v) ((own1 ss).map Su.v).length] (by kernel_rfl) (by simp [frzL, frzH, ownsL, AVal.frz, AVal.owns, all4s, Ty.enc_v, Ty.v, Su.v, Ct.v, Ty.kind, Ty.name, Ty.n, Ty.names, Ty.kids, -List.map_append]) (by simp [Ty.v, Ct.v, Su.v, -List.map_append]) (by simp [frzL, frzH, ownsL, AVal.frz, AVal.owns, all4s, Ty.enc_v, Ty.v, Su.v, Ct.v, Ty.kind, Ty.name, Ty.n, Ty.names, Ty.kids, -List.map_append]) (by simp [frzL, frzH, ownsL, AVal.frz, AVal.owns, all4s, Ty.enc_v, Ty.v, Su.v, Ct.v, Ty.kind, Ty.name, Ty.n, Ty.names, Ty.kids, -List.map_append]) (by kernel_rfl) ?_
 refine drun 1 (by kernel_rfl) ?_
 refine dend (by kernel_rfl) ⟨(by kernel_rfl), ?_⟩
 refine AThen_normal ?_
 refine wZ [(2, .imm (l.map (AVal.int .i64))), (4, .ptr 0 0), (7, .own 1 0 (own1 ss).length), (24, .bool (!((storT (own1 ss) t) == (storT (own1 ss) t))))] [.box [.int .i64 (t.kind), .str t.name, .int .i64 (t.n), .imm (t.names.map AVal.str), .imm (t.kids.map Ty.enc)], .arr 2 ((own1 ss).map Su.v) ((own1 ss).map Su.v).length] (by kernel_rfl) ?_
 by_cases hb1 : (!((storT (own1 ss) t) == (storT (own1 ss) t))) = true
 · exfalso; simp_all
 refine wF (Bool.eq_false_iff.2 hb1) (by kernel_rfl) ?_
 refine wK (by kernel_rfl) ?_
 refine wZs [(2, .imm (l.map (AVal.int .i64))), (4, .ptr 0 0), (7, .own 1 0 (own1 ss).length)] (by kernel_rfl) ?_
 refine wV 1 (by kernel_rfl) ?_
 refine vcallP (args := [.imm (l.map (AVal.int .i64)), .int .i64 5, .int .i64 1]) (by kernel_rfl) (by kernel_rfl) (by kernel_rfl) (by kernel_rfl) (closed_1 l 5 hl (by decide)) (by simp [Ty.v, Ct.v, Su.v]) (by simp [Ty.v, Ct.v, Su.v, -List.map_append]) (by simp [Ty.v, Ct.v, Su.v, ownsL_ap, ownsL, AVal.owns]) ?_
 refine vR 2 [(2, .imm (l.map (AVal.int .i64))), (4, .ptr 0 0), (7, .own 1 0 (own1 ss).length), (8, .ptr 2 0)] [.box [.int .i64 (t.kind), .str t.name, .int .i64 (t.n), .imm (t.names.map AVal.str), .imm (t.kids.map Ty.enc)], .arr 2 ((own1 ss).map Su.v) ((own1 ss).map Su.v).length, .box [.int .i64 ((closedT l 1 5).kind), .str (closedT l 1 5).name, .int .i64 ((closedT l 1 5).n), .imm ((closedT l 1 5).names.map AVal.str), .imm ((closedT l 1 5).kids.map Ty.enc)]] (by kernel_rfl) ?_
 refine wSeq (by kernel_rfl) ?_
 refine wDrw cxM (by kernel_rfl) extThen (dstart ?_)
 refine drun 7 (by kernel_rfl) ?_
 refine dcallP (args := [.agg [.int .i64 ((closedT l 1 5).kind), .str (closedT l 1 5).name, .int .i64 ((closedT l 1 5).n), .imm ((closedT l 1 5).names.map AVal.str), .imm ((closedT l 1 5).kids.map Ty.enc)]]) (by kernel_rfl) (by kernel_rfl) (by kernel_rfl) (by kernel_rfl) (by kernel_rfl) (list_spec (closedT l 1 5)) (by intro _; simp [Ty.v, Ct.v, Su.v]) (by simp [Ty.v, Ct.v, Su.v, -List.map_append]) (by simp [Ty.v, Ct.v, Su.v, ownsL_ap, ownsL, AVal.owns]) ?_
 refine drun 4 (by kernel_rfl) ?_
 refine dsymO (by kernel_rfl) (by kernel_rfl) (by kernel_rfl) (o_appmapx (o := 1) (len := ((own1 ss).length)) (l := (own1 ss)) (xs := [.agg [.str [67, 111, 108, 111, 114], .full [.agg [.str [82, 101, 100], .bool false, .int .i64 0, .str [], .int .i64 0, .full [], .full []], .agg [.str [77, 105, 120], .bool true, .int .i64 ((closedT l 1 5).kind), .str (closedT l 1 5).name, .int .i64 ((closedT l 1 5).n), .imm ((closedT l 1 5).names.map AVal.str), .imm ((closedT l 1 5).kids.map Ty.enc)]]], .agg [.str [83, 104, 97, 112, 101], .full [.agg [.str [68, 111, 116], .bool false, .int .i64 ((lsT (closedT l 1 5)).kind), .str (lsT (closedT l 1 5)).name, .int .i64 ((lsT (closedT l 1 5)).n), .imm ((lsT (closedT l 1 5)).names.map AVal.str), .imm ((lsT (closedT l 1 5)).kids.map Ty.enc)]]]]) (enc := Su.v) (sz := 2) (fr := ((own1 ss).map Su.v).length) (x := (.full [.agg [.str [67, 111, 108, 111, 114], .full [.agg [.str [82, 101, 100], .bool false, .int .i64 0, .str [], .int .i64 0, .full [], .full []], .agg [.str [77, 105, 120], .bool true, .int .i64 ((closedT l 1 5).kind), .str (closedT l 1 5).name, .int .i64 ((closedT l 1 5).n), .imm ((closedT l 1 5).names.map AVal.str), .imm ((closedT l 1 5).kids.map Ty.enc)]]], .agg [.str [83, 104, 97, 112, 101], .full [.agg [.str [68, 111, 116], .bool false, .int .i64 ((lsT (closedT l 1 5)).kind), .str (lsT (closedT l 1 5)).name, .int .i64 ((lsT (closedT l 1 5)).n), .imm ((lsT (closedT l 1 5)).names.map AVal.str), .imm ((lsT (closedT l 1 5)).kids.map Ty.enc)]]]])) (by kernel_rfl) ty41 ty47 ty41 rfl (by kernel_rfl) rfl (by first | rfl | simp) (by kernel_rfl) ⟨by decide, by kernel_rfl⟩ (by kernel_rfl) (by simp; omega) (by simp; omega)) ?_
 refine drun 1 (by kernel_rfl) ?_
 refine dend (by kernel_rfl) ⟨(by kernel_rfl), ?_⟩
 refine AThen_normal ?_
 refine wZ [(2, .imm (l.map (AVal.int .i64))), (4, .ptr 0 0), (7, .own 1 0 ((own1 ss).length + 2))] [.box [.int .i64 (t.kind), .str t.name, .int .i64 (t.n), .imm (t.names.map AVal.str), .imm (t.kids.map Ty.enc)], .arr 2 ((own1 ss).map Su.v ++ [.agg [.str [67, 111, 108, 111, 114], .full [.agg [.str [82, 101, 100], .bool false, .int .i64 0, .str [], .int .i64 0, .full [], .full []], .agg [.str [77, 105, 120], .bool true, .int .i64 ((closedT l 1 5).kind), .str (closedT l 1 5).name, .int .i64 ((closedT l 1 5).n), .imm ((closedT l 1 5).names.map AVal.str), .imm ((closedT l 1 5).kids.map Ty.enc)]]], .agg [.str [83, 104, 97, 112, 101], .full [.agg [.str [68, 111, 116], .bool false, .int .i64 ((lsT (closedT l 1 5)).kind), .str (lsT (closedT l 1 5)).name, .int .i64 ((lsT (closedT l 1 5)).n), .imm ((lsT (closedT l 1 5)).names.map AVal.str), .imm ((lsT (closedT l 1 5)).kids.map Ty.enc)]]]]) ((own1 ss).map Su.v).length, .box [.int .i64 ((closedT l 1 5).kind), .str (closedT l 1 5).name, .int .i64 ((closedT l 1 5).n), .imm ((closedT l 1 5).names.map AVal.str), .imm ((closedT l 1 5).kids.map Ty.enc)]] (by kernel_rfl) ?_
 refine wFrzO 1 (sz := 2) (fr := ((own1 ss).map Su.v).length) (es := ((own1 ss).map Su.v ++ [.agg [.str [67, 111, 108, 111, 114], .full [.agg [.str [82, 101, 100], .bool false, .int .i64 0, .str [], .int .i64 0, .full [], .full []], .agg [.str [77, 105, 120], .bool true, .int .i64 ((closedT l 1 5).kind), .str (closedT l 1 5).name, .int .i64 ((closedT l 1 5).n), .imm ((closedT l 1 5).names.map AVal.str), .imm ((closedT l 1 5).kids.map Ty.enc)]]], .agg [.str [83, 104, 97, 112, 101], .full [.agg [.str [68, 111, 116], .bool false, .int .i64 ((lsT (closedT l 1 5)).kind), .str (lsT (closedT l 1 5)).name, .int .i64 ((lsT (closedT l 1 5)).n), .imm ((lsT (closedT l 1 5)).names.map AVal.str), .imm ((lsT (closedT l 1 5)).kids.map Ty.enc)]]]])) (((own1 ss) ++ [(Su.mk [67, 111, 108, 111, 114] [(Ct.mk [82, 101, 100] false (Ty.mk 0 [] 0 [] [])), (Ct.mk [77, 105, 120] true (closedT l 1 5))]), (Su.mk [83, 104, 97, 112, 101] [(Ct.mk [68, 111, 116] false (lsT (closedT l 1 5)))])]).map Su.v) (by kernel_rfl) (by simp [Ty.v, Ct.v, Su.v, ownsL_ap, ownsL, AVal.owns]) (by simp [Su.v, Ct.v, Ty.v, Ty.enc_v, AVal.frz, frzL, frzL_ap, lsT, Ty.kind, Ty.name, Ty.n, Ty.names, Ty.kids]) ?_
 refine wset 7 (.own 1 0 ((own1 ss).length + 2)) (.own 1 0 ((own1 ss) ++ [(Su.mk [67, 111, 108, 111, 114] [(Ct.mk [82, 101, 100] false (Ty.mk 0 [] 0 [] [])), (Ct.mk [77, 105, 120] true (closedT l 1 5))]), (Su.mk [83, 104, 97, 112, 101] [(Ct.mk [68, 111, 116] false (lsT (closedT l 1 5)))])]).length) (by kernel_rfl) (by simp) ?_
 refine wZ [(2, .imm (l.map (AVal.int .i64))), (4, .ptr 0 0), (7, .own 1 0 ((own1 ss) ++ [(Su.mk [67, 111, 108, 111, 114] [(Ct.mk [82, 101, 100] false (Ty.mk 0 [] 0 [] [])), (Ct.mk [77, 105, 120] true (closedT l 1 5))]), (Su.mk [83, 104, 97, 112, 101] [(Ct.mk [68, 111, 116] false (lsT (closedT l 1 5)))])]).length)] [.box [.int .i64 (t.kind), .str t.name, .int .i64 (t.n), .imm (t.names.map AVal.str), .imm (t.kids.map Ty.enc)], .arr 2 (((own1 ss) ++ [(Su.mk [67, 111, 108, 111, 114] [(Ct.mk [82, 101, 100] false (Ty.mk 0 [] 0 [] [])), (Ct.mk [77, 105, 120] true (closedT l 1 5))]), (Su.mk [83, 104, 97, 112, 101] [(Ct.mk [68, 111, 116] false (lsT (closedT l 1 5)))])]).map Su.v) ((own1 ss).map Su.v).length, .box [.int .i64 ((closedT l 1 5).kind), .str (closedT l 1 5).name, .int .i64 ((closedT l 1 5).n), .imm ((closedT l 1 5).names.map AVal.str), .imm ((closedT l 1 5).kids.map Ty.enc)]] (by kernel_rfl) ?_
 refine wSeq (by kernel_rfl) ?_
 refine wDrw cxM (by kernel_rfl) extThen (dstart ?_)
 refine drun 2 (by kernel_rfl) ?_
 refine dcallP (args := [.imm (l.map (AVal.int .i64)), .int .i64 0, .int .i64 1]) (by kernel_rfl) (by kernel_rfl) (by kernel_rfl) (by kernel_rfl) (by kernel_rfl) (closed_1 l 0 hl (by decide)) (by intro _; simp [Ty.v, Ct.v, Su.v]) (by simp [Ty.v, Ct.v, Su.v, -List.map_append]) (by simp [Ty.v, Ct.v, Su.v, ownsL_ap, ownsL, AVal.owns]) ?_
 refine drun 4 (by kernel_rfl) ?_
 refine dend (by kernel_rfl) ⟨(by kernel_rfl), ?_⟩
 refine AThen_normal ?_
 refine wZ [(7, .own 1 0 ((own1 ss) ++ [(Su.mk [67, 111, 108, 111, 114] [(Ct.mk [82, 101, 100] false (Ty.mk 0 [] 0 [] [])), (Ct.mk [77, 105, 120] true (closedT l 1 5))]), (Su.mk [83, 104, 97, 112, 101] [(Ct.mk [68, 111, 116] false (lsT (closedT l 1 5)))])]).length), (9, .full [.agg [.int .i64 (t.kind), .str t.name, .int .i64 (t.n), .imm (t.names.map AVal.str), .imm (t.kids.map Ty.enc)], Ty.v (closedT l 1 0), .agg [.int .i64 3, .str [67, 111, 108, 111, 114], .int .i64 0, .full [], .full []], .agg [.int .i64 3, .str [83, 104, 97, 112, 101], .int .i64 0, .full [], .full []]])] [.box [.int .i64 (t.kind), .str t.name, .int .i64 (t.n), .imm (t.names.map AVal.str), .imm (t.kids.map Ty.enc)], .arr 2 (((own1 ss) ++ [(Su.mk [67, 111, 108, 111, 114] [(Ct.mk [82, 101, 100] false (Ty.mk 0 [] 0 [] [])), (Ct.mk [77, 105, 120] true (closedT l 1 5))]), (Su.mk [83, 104, 97, 112, 101] [(Ct.mk [68, 111, 116] false (lsT (closedT l 1 5)))])]).map Su.v) ((own1 ss).map Su.v).length, .box [.int .i64 ((closedT l 1 5).kind), .str (closedT l 1 5).name, .int .i64 ((closedT l 1 5).n), .imm ((closedT l 1 5).names.map AVal.str), .imm ((closedT l 1 5).kids.map Ty.enc)]] (by kernel_rfl) ?_
 refine wFrzT 9 (.full [.agg [.int .i64 (t.kind), .str t.name, .int .i64 (t.n), .imm (t.names.map AVal.str), .imm (t.kids.map Ty.enc)], Ty.v (closedT l 1 0), .agg [.int .i64 3, .str [67, 111, 108, 111, 114], .int .i64 0, .full [], .full []], .agg [.int .i64 3, .str [83, 104, 97, 112, 101], .int .i64 0, .full [], .full []]]) (.imm ((all4s t l).map Ty.enc)) (by kernel_rfl) (by simp [all4s, Ty.enc_v, Ty.v, Su.v, Ct.v, Ty.kind, Ty.name, Ty.n, Ty.names, Ty.kids, -List.map_append]) (by simp [AVal.frz, frzL, all4s, Ty.enc_v, Ty.v, Su.v, Ct.v, Ty.kind, Ty.name, Ty.n, Ty.names, Ty.kids, -List.map_append]) ?_
 refine wLock 1 [.box [.int .i64 (t.kind), .str t.name, .int .i64 (t.n), .imm (t.names.map AVal.str), .imm (t.kids.map Ty.enc)], .arr 2 (((own1 ss) ++ [(Su.mk [67, 111, 108, 111, 114] [(Ct.mk [82, 101, 100] false (Ty.mk 0 [] 0 [] [])), (Ct.mk [77, 105, 120] true (closedT l 1 5))]), (Su.mk [83, 104, 97, 112, 101] [(Ct.mk [68, 111, 116] false (lsT (closedT l 1 5)))])]).map Su.v) (((own1 ss) ++ [(Su.mk [67, 111, 108, 111, 114] [(Ct.mk [82, 101, 100] false (Ty.mk 0 [] 0 [] [])), (Ct.mk [77, 105, 120] true (closedT l 1 5))]), (Su.mk [83, 104, 97, 112, 101] [(Ct.mk [68, 111, 116] false (lsT (closedT l 1 5)))])]).map Su.v).length, .box [.int .i64 ((closedT l 1 5).kind), .str (closedT l 1 5).name, .int .i64 ((closedT l 1 5).n), .imm ((closedT l 1 5).names.map AVal.str), .imm ((closedT l 1 5).kids.map Ty.enc)]] (by simp [frzH]) ?_
 refine wZ [(7, .own 1 0 ((own1 ss) ++ [(Su.mk [67, 111, 108, 111, 114] [(Ct.mk [82, 101, 100] false (Ty.mk 0 [] 0 [] [])), (Ct.mk [77, 105, 120] true (closedT l 1 5))]), (Su.mk [83, 104, 97, 112, 101] [(Ct.mk [68, 111, 116] false (lsT (closedT l 1 5)))])]).length), (9, .imm ((all4s t l).map Ty.enc))] [.box [.int .i64 (t.kind), .str t.name, .int .i64 (t.n), .imm (t.names.map AVal.str), .imm (t.kids.map Ty.enc)], .arr 2 (((own1 ss) ++ [(Su.mk [67, 111, 108, 111, 114] [(Ct.mk [82, 101, 100] false (Ty.mk 0 [] 0 [] [])), (Ct.mk [77, 105, 120] true (closedT l 1 5))]), (Su.mk [83, 104, 97, 112, 101] [(Ct.mk [68, 111, 116] false (lsT (closedT l 1 5)))])]).map Su.v) (((own1 ss) ++ [(Su.mk [67, 111, 108, 111, 114] [(Ct.mk [82, 101, 100] false (Ty.mk 0 [] 0 [] [])), (Ct.mk [77, 105, 120] true (closedT l 1 5))]), (Su.mk [83, 104, 97, 112, 101] [(Ct.mk [68, 111, 116] false (lsT (closedT l 1 5)))])]).map Su.v).length, .box [.int .i64 ((closedT l 1 5).kind), .str (closedT l 1 5).name, .int .i64 ((closedT l 1 5).n), .imm ((closedT l 1 5).names.map AVal.str), .imm ((closedT l 1 5).kids.map Ty.enc)]] (by kernel_rfl) ?_
 refine wSeq (by kernel_rfl) ?_
 refine wU 1 [(7, .own 1 0 ((own1 ss) ++ [(Su.mk [67, 111, 108, 111, 114] [(Ct.mk [82, 101, 100] false (Ty.mk 0 [] 0 [] [])), (Ct.mk [77, 105, 120] true (closedT l 1 5))]), (Su.mk [83, 104, 97, 112, 101] [(Ct.mk [68, 111, 116] false (lsT (closedT l 1 5)))])]).length), (9, .imm ((all4s t l).map Ty.enc)), (10, .int .i64 0)] (by kernel_rfl) ?_
 refine wBlock 0 (by kernel_rfl) (by kernel_rfl) ?_
 refine wLoop (σ := Nat) (fun i => [(7, .own 1 0 ((own1 ss) ++ [(Su.mk [67, 111, 108, 111, 114] [(Ct.mk [82, 101, 100] false (Ty.mk 0 [] 0 [] [])), (Ct.mk [77, 105, 120] true (closedT l 1 5))]), (Su.mk [83, 104, 97, 112, 101] [(Ct.mk [68, 111, 116] false (lsT (closedT l 1 5)))])]).length), (9, .imm ((all4s t l).map Ty.enc)), (10, .int .i64 ((i : Nat) : Int))]) (fun i => [.box [.int .i64 (t.kind), .str t.name, .int .i64 (t.n), .imm (t.names.map AVal.str), .imm (t.kids.map Ty.enc)], .arr 2 (((own1 ss) ++ [(Su.mk [67, 111, 108, 111, 114] [(Ct.mk [82, 101, 100] false (Ty.mk 0 [] 0 [] [])), (Ct.mk [77, 105, 120] true (closedT l 1 5))]), (Su.mk [83, 104, 97, 112, 101] [(Ct.mk [68, 111, 116] false (lsT (closedT l 1 5)))])]).map Su.v) (((own1 ss) ++ [(Su.mk [67, 111, 108, 111, 114] [(Ct.mk [82, 101, 100] false (Ty.mk 0 [] 0 [] [])), (Ct.mk [77, 105, 120] true (closedT l 1 5))]), (Su.mk [83, 104, 97, 112, 101] [(Ct.mk [68, 111, 116] false (lsT (closedT l 1 5)))])]).map Su.v).length, .box [.int .i64 ((closedT l 1 5).kind), .str (closedT l 1 5).name, .int .i64 ((closedT l 1 5).n), .imm ((closedT l 1 5).names.map AVal.str), .imm ((closedT l 1 5).kids.map Ty.enc)]]) (fun i => i ≤ 4) (fun i => 4 - i) 0 (by kernel_rfl) (by exact Nat.zero_le _) ⟨⟨(by kernel_rfl), (by kernel_rfl), (by kernel_rfl), trivial⟩, by simp [BelL, AVal.bel], by simp, (by kernel_rfl), by simp [AObj.belO, -List.map_append]⟩ ?_
 rintro i hi
 refine wSeq (by kernel_rfl) ?_
 refine wW 2 [(7, .own 1 0 ((own1 ss) ++ [(Su.mk [67, 111, 108, 111, 114] [(Ct.mk [82, 101, 100] false (Ty.mk 0 [] 0 [] [])), (Ct.mk [77, 105, 120] true (closedT l 1 5))]), (Su.mk [83, 104, 97, 112, 101] [(Ct.mk [68, 111, 116] false (lsT (closedT l 1 5)))])]).length), (9, .imm ((all4s t l).map Ty.enc)), (10, .int .i64 ((i : Nat) : Int)), (47, .bool (decide (((i : Nat) : Int) < 4)))] [.box [.int .i64 (t.kind), .str t.name, .int .i64 (t.n), .imm (t.names.map AVal.str), .imm (t.kids.map Ty.enc)], .arr 2 (((own1 ss) ++ [(Su.mk [67, 111, 108, 111, 114] [(Ct.mk [82, 101, 100] false (Ty.mk 0 [] 0 [] [])), (Ct.mk [77, 105, 120] true (closedT l 1 5))]), (Su.mk [83, 104, 97, 112, 101] [(Ct.mk [68, 111, 116] false (lsT (closedT l 1 5)))])]).map Su.v) (((own1 ss) ++ [(Su.mk [67, 111, 108, 111, 114] [(Ct.mk [82, 101, 100] false (Ty.mk 0 [] 0 [] [])), (Ct.mk [77, 105, 120] true (closedT l 1 5))]), (Su.mk [83, 104, 97, 112, 101] [(Ct.mk [68, 111, 116] false (lsT (closedT l 1 5)))])]).map Su.v).length, .box [.int .i64 ((closedT l 1 5).kind), .str (closedT l 1 5).name, .int .i64 ((closedT l 1 5).n), .imm ((closedT l 1 5).names.map AVal.str), .imm ((closedT l 1 5).kids.map Ty.enc)]] (by kernel_rfl) ?_
 by_cases hb2 : ((i : Nat) : Int) < 4
 refine wT (decide_eq_true hb2) (by kernel_rfl) ?_
 refine wK (by kernel_rfl) ?_
 refine wZs [(7, .own 1 0 ((own1 ss) ++ [(Su.mk [67, 111, 108, 111, 114] [(Ct.mk [82, 101, 100] false (Ty.mk 0 [] 0 [] [])), (Ct.mk [77, 105, 120] true (closedT l 1 5))]), (Su.mk [83, 104, 97, 112, 101] [(Ct.mk [68, 111, 116] false (lsT (closedT l 1 5)))])]).length), (9, .imm ((all4s t l).map Ty.enc)), (10, .int .i64 ((i : Nat) : Int))] (by kernel_rfl) ?_
 refine wSeq (by kernel_rfl) ?_
 refine wBlock 1 (by kernel_rfl) (by kernel_rfl) ?_
 refine wSeq (by kernel_rfl) ?_
 refine wDrw cxM (by kernel_rfl) extThen (dstart ?_)
 refine drun 3 (by kernel_rfl) ?_
 refine dsym (by kernel_rfl) (by kernel_rfl) (by kernel_rfl) ((o_ixmap (k := .i64) (l := (all4s t l)) (enc := Ty.enc) (i := ((i : Nat) : Int)) Ty.zero (by kernel_rfl) ty23 ty25 ty_size (by first | omega | exact hsi _ | exact hok1 | exact hok2 | assumption) (by first | omega | exact hsi _ | exact hok1 | exact hok2 | assumption)).trans (congrArg (fun cs => some (AVal.pimm cs 0, _)) (ty_cells ((all4s t l).getD i Ty.zero)))) ?_
 refine drun 1 (by kernel_rfl) ?_
 refine dZ (args := [.own 1 0 ((own1 ss) ++ [(Su.mk [67, 111, 108, 111, 114] [(Ct.mk [82, 101, 100] false (Ty.mk 0 [] 0 [] [])), (Ct.mk [77, 105, 120] true (closedT l 1 5))]), (Su.mk [83, 104, 97, 112, 101] [(Ct.mk [68, 111, 116] false (lsT (closedT l 1 5)))])]).length, .agg [.int .i64 (((all4s t l).getD i Ty.zero).kind), .str ((all4s t l).getD i Ty.zero).name, .int .i64 (((all4s t l).getD i Ty.zero).n), .imm (((all4s t l).getD i Ty.zero).names.map AVal.str), .imm (((all4s t l).getD i Ty.zero).kids.map Ty.enc)]]) (F := [.box [.int .i64 (t.kind), .str t.name, .int .i64 (t.n), .imm (t.names.map AVal.str), .imm (t.kids.map Ty.enc)], .arr 2 (((own1 ss) ++ [(Su.mk [67, 111, 108, 111, 114] [(Ct.mk [82, 101, 100] false (Ty.mk 0 [] 0 [] [])), (Ct.mk [77, 105, 120] true (closedT l 1 5))]), (Su.mk [83, 104, 97, 112, 101] [(Ct.mk [68, 111, 116] false (lsT (closedT l 1 5)))])]).map Su.v) (((own1 ss) ++ [(Su.mk [67, 111, 108, 111, 114] [(Ct.mk [82, 101, 100] false (Ty.mk 0 [] 0 [] [])), (Ct.mk [77, 105, 120] true (closedT l 1 5))]), (Su.mk [83, 104, 97, 112, 101] [(Ct.mk [68, 111, 116] false (lsT (closedT l 1 5)))])]).map Su.v).length, .box [.int .i64 ((closedT l 1 5).kind), .str (closedT l 1 5).name, .int .i64 ((closedT l 1 5).n), .imm ((closedT l 1 5).names.map AVal.str), .imm ((closedT l 1 5).kids.map Ty.enc)]]) (L := [1]) (by kernel_rfl) (by kernel_rfl) (by kernel_rfl) (by kernel_rfl) (by kernel_rfl) (tstor_spec ((own1 ss) ++ [(Su.mk [67, 111, 108, 111, 114] [(Ct.mk [82, 101, 100] false (Ty.mk 0 [] 0 [] [])), (Ct.mk [77, 105, 120] true (closedT l 1 5))]), (Su.mk [83, 104, 97, 112, 101] [(Ct.mk [68, 111, 116] false (lsT (closedT l 1 5)))])]) ((all4s t l).getD i Ty.zero) (by first | omega | exact hsi _ | exact hok1 | exact hok2 | assumption) (by first | omega | exact hsi _ | exact hok1 | exact hok2 | assumption)) [.box [.int .i64 (t.kind), .str t.name, .int .i64 (t.n), .imm (t.names.map AVal.str), .imm (t.kids.map Ty.enc)], .arr 2 (((own1 ss) ++ [(Su.mk [67, 111, 108, 111, 114] [(Ct.mk [82, 101, 100] false (Ty.mk 0 [] 0 [] [])), (Ct.mk [77, 105, 120] true (closedT l 1 5))]), (Su.mk [83, 104, 97, 112, 101] [(Ct.mk [68, 111, 116] false (lsT (closedT l 1 5)))])]).map Su.v) (((own1 ss) ++ [(Su.mk [67, 111, 108, 111, 114] [(Ct.mk [82, 101, 100] false (Ty.mk 0 [] 0 [] [])), (Ct.mk [77, 105, 120] true (closedT l 1 5))]), (Su.mk [83, 104, 97, 112, 101] [(Ct.mk [68, 111, 116] false (lsT (closedT l 1 5)))])]).map Su.v).length, .box [.int .i64 ((closedT l 1 5).kind), .str (closedT l 1 5).name, .int .i64 ((closedT l 1 5).n), .imm ((closedT l 1 5).names.map AVal.str), .imm ((closedT l 1 5).kids.map Ty.enc)]] (by kernel_rfl) (by simp [frzL, frzH, ownsL, AVal.frz, AVal.owns, all4s, Ty.enc_v, Ty.v, Su.v, Ct.v, Ty.kind, Ty.name, Ty.n, Ty.names, Ty.kids, -List.map_append]) (by simp [Ty.v, Ct.v, Su.v, -List.map_append]) (by simp [frzL, frzH, ownsL, AVal.frz, AVal.owns, all4s, Ty.enc_v, Ty.v, Su.v, Ct.v, Ty.kind, Ty.name, Ty.n, Ty.names, Ty.kids, -List.map_append]) (by simp [frzL, frzH, ownsL, AVal.frz, AVal.owns, all4s, Ty.enc_v, Ty.v, Su.v, Ct.v, Ty.kind, Ty.name, Ty.n, Ty.names, Ty.kids, -List.map_append]) (by kernel_rfl) ?_
 refine drun 3 (by kernel_rfl) ?_
 refine dsym (by kernel_rfl) (by kernel_rfl) (by kernel_rfl) ((o_ixmap (k := .i64) (l := (all4s t l)) (enc := Ty.enc) (i := ((i : Nat) : Int)) Ty.zero (by kernel_rfl) ty23 ty25 ty_size (by first | omega | exact hsi _ | exact hok1 | exact hok2 | assumption) (by first | omega | exact hsi _ | exact hok1 | exact hok2 | assumption)).trans (congrArg (fun cs => some (AVal.pimm cs 0, _)) (ty_cells ((all4s t l).getD i Ty.zero)))) ?_
 refine drun 1 (by kernel_rfl) ?_
 refine dZ (args := [.own 1 0 ((own1 ss) ++ [(Su.mk [67, 111, 108, 111, 114] [(Ct.mk [82, 101, 100] false (Ty.mk 0 [] 0 [] [])), (Ct.mk [77, 105, 120] true (closedT l 1 5))]), (Su.mk [83, 104, 97, 112, 101] [(Ct.mk [68, 111, 116] false (lsT (closedT l 1 5)))])]).length, .agg [.int .i64 (((all4s t l).getD i Ty.zero).kind), .str ((all4s t l).getD i Ty.zero).name, .int .i64 (((all4s t l).getD i Ty.zero).n), .imm (((all4s t l).getD i Ty.zero).names.map AVal.str), .imm (((all4s t l).getD i Ty.zero).kids.map Ty.enc)]]) (F := [.box [.int .i64 (t.kind), .str t.name, .int .i64 (t.n), .imm (t.names.map AVal.str), .imm (t.kids.map Ty.enc)], .arr 2 (((own1 ss) ++ [(Su.mk [67, 111, 108, 111, 114] [(Ct.mk [82, 101, 100] false (Ty.mk 0 [] 0 [] [])), (Ct.mk [77, 105, 120] true (closedT l 1 5))]), (Su.mk [83, 104, 97, 112, 101] [(Ct.mk [68, 111, 116] false (lsT (closedT l 1 5)))])]).map Su.v) (((own1 ss) ++ [(Su.mk [67, 111, 108, 111, 114] [(Ct.mk [82, 101, 100] false (Ty.mk 0 [] 0 [] [])), (Ct.mk [77, 105, 120] true (closedT l 1 5))]), (Su.mk [83, 104, 97, 112, 101] [(Ct.mk [68, 111, 116] false (lsT (closedT l 1 5)))])]).map Su.v).length, .box [.int .i64 ((closedT l 1 5).kind), .str (closedT l 1 5).name, .int .i64 ((closedT l 1 5).n), .imm ((closedT l 1 5).names.map AVal.str), .imm ((closedT l 1 5).kids.map Ty.enc)]]) (L := [1]) (by kernel_rfl) (by kernel_rfl) (by kernel_rfl) (by kernel_rfl) (by kernel_rfl) (rstor_spec ((own1 ss) ++ [(Su.mk [67, 111, 108, 111, 114] [(Ct.mk [82, 101, 100] false (Ty.mk 0 [] 0 [] [])), (Ct.mk [77, 105, 120] true (closedT l 1 5))]), (Su.mk [83, 104, 97, 112, 101] [(Ct.mk [68, 111, 116] false (lsT (closedT l 1 5)))])]) ((all4s t l).getD i Ty.zero) (by first | omega | exact hsi _ | exact hok1 | exact hok2 | assumption) (by first | omega | exact hsi _ | exact hok1 | exact hok2 | assumption)) [.box [.int .i64 (t.kind), .str t.name, .int .i64 (t.n), .imm (t.names.map AVal.str), .imm (t.kids.map Ty.enc)], .arr 2 (((own1 ss) ++ [(Su.mk [67, 111, 108, 111, 114] [(Ct.mk [82, 101, 100] false (Ty.mk 0 [] 0 [] [])), (Ct.mk [77, 105, 120] true (closedT l 1 5))]), (Su.mk [83, 104, 97, 112, 101] [(Ct.mk [68, 111, 116] false (lsT (closedT l 1 5)))])]).map Su.v) (((own1 ss) ++ [(Su.mk [67, 111, 108, 111, 114] [(Ct.mk [82, 101, 100] false (Ty.mk 0 [] 0 [] [])), (Ct.mk [77, 105, 120] true (closedT l 1 5))]), (Su.mk [83, 104, 97, 112, 101] [(Ct.mk [68, 111, 116] false (lsT (closedT l 1 5)))])]).map Su.v).length, .box [.int .i64 ((closedT l 1 5).kind), .str (closedT l 1 5).name, .int .i64 ((closedT l 1 5).n), .imm ((closedT l 1 5).names.map AVal.str), .imm ((closedT l 1 5).kids.map Ty.enc)]] (by kernel_rfl) (by simp [frzL, frzH, ownsL, AVal.frz, AVal.owns, all4s, Ty.enc_v, Ty.v, Su.v, Ct.v, Ty.kind, Ty.name, Ty.n, Ty.names, Ty.kids, -List.map_append]) (by simp [Ty.v, Ct.v, Su.v, -List.map_append]) (by simp [frzL, frzH, ownsL, AVal.frz, AVal.owns, all4s, Ty.enc_v, Ty.v, Su.v, Ct.v, Ty.kind, Ty.name, Ty.n, Ty.names, Ty.kids, -List.map_append]) (by simp [frzL, frzH, ownsL, AVal.frz, AVal.owns, all4s, Ty.enc_v, Ty.v, Su.v, Ct.v, Ty.kind, Ty.name, Ty.n, Ty.names, Ty.kids, -List.map_append]) (by kernel_rfl) ?_
 refine drun 1 (by kernel_rfl) ?_
 refine dend (by kernel_rfl) ⟨(by kernel_rfl), ?_⟩
 refine AThen_normal ?_
 refine wZ [(7, .own 1 0 ((own1 ss) ++ [(Su.mk [67, 111, 108, 111, 114] [(Ct.mk [82, 101, 100] false (Ty.mk 0 [] 0 [] [])), (Ct.mk [77, 105, 120] true (closedT l 1 5))]), (Su.mk [83, 104, 97, 112, 101] [(Ct.mk [68, 111, 116] false (lsT (closedT l 1 5)))])]).length), (9, .imm ((all4s t l).map Ty.enc)), (10, .int .i64 ((i : Nat) : Int)), (62, .bool (!((storT ((own1 ss) ++ [(Su.mk [67, 111, 108, 111, 114] [(Ct.mk [82, 101, 100] false (Ty.mk 0 [] 0 [] [])), (Ct.mk [77, 105, 120] true (closedT l 1 5))]), (Su.mk [83, 104, 97, 112, 101] [(Ct.mk [68, 111, 116] false (lsT (closedT l 1 5)))])]) ((all4s t l).getD i Ty.zero)) == (storT ((own1 ss) ++ [(Su.mk [67, 111, 108, 111, 114] [(Ct.mk [82, 101, 100] false (Ty.mk 0 [] 0 [] [])), (Ct.mk [77, 105, 120] true (closedT l 1 5))]), (Su.mk [83, 104, 97, 112, 101] [(Ct.mk [68, 111, 116] false (lsT (closedT l 1 5)))])]) ((all4s t l).getD i Ty.zero)))))] [.box [.int .i64 (t.kind), .str t.name, .int .i64 (t.n), .imm (t.names.map AVal.str), .imm (t.kids.map Ty.enc)], .arr 2 (((own1 ss) ++ [(Su.mk [67, 111, 108, 111, 114] [(Ct.mk [82, 101, 100] false (Ty.mk 0 [] 0 [] [])), (Ct.mk [77, 105, 120] true (closedT l 1 5))]), (Su.mk [83, 104, 97, 112, 101] [(Ct.mk [68, 111, 116] false (lsT (closedT l 1 5)))])]).map Su.v) (((own1 ss) ++ [(Su.mk [67, 111, 108, 111, 114] [(Ct.mk [82, 101, 100] false (Ty.mk 0 [] 0 [] [])), (Ct.mk [77, 105, 120] true (closedT l 1 5))]), (Su.mk [83, 104, 97, 112, 101] [(Ct.mk [68, 111, 116] false (lsT (closedT l 1 5)))])]).map Su.v).length, .box [.int .i64 ((closedT l 1 5).kind), .str (closedT l 1 5).name, .int .i64 ((closedT l 1 5).n), .imm ((closedT l 1 5).names.map AVal.str), .imm ((closedT l 1 5).kids.map Ty.enc)]] (by kernel_rfl) ?_
 by_cases hb3 : (!((storT ((own1 ss) ++ [(Su.mk [67, 111, 108, 111, 114] [(Ct.mk [82, 101, 100] false (Ty.mk 0 [] 0 [] [])), (Ct.mk [77, 105, 120] true (closedT l 1 5))]), (Su.mk [83, 104, 97, 112, 101] [(Ct.mk [68, 111, 116] false (lsT (closedT l 1 5)))])]) ((all4s t l).getD i Ty.zero)) == (storT ((own1 ss) ++ [(Su.mk [67, 111, 108, 111, 114] [(Ct.mk [82, 101, 100] false (Ty.mk 0 [] 0 [] [])), (Ct.mk [77, 105, 120] true (closedT l 1 5))]), (Su.mk [83, 104, 97, 112, 101] [(Ct.mk [68, 111, 116] false (lsT (closedT l 1 5)))])]) ((all4s t l).getD i Ty.zero)))) = true
 · exfalso; simp_all
 refine wF (Bool.eq_false_iff.2 hb3) (by kernel_rfl) ?_
 refine wSkip (by kernel_rfl) ?_
 refine AIn_normal ?_
 refine AThen_normal ?_
 refine wZs [(7, .own 1 0 ((own1 ss) ++ [(Su.mk [67, 111, 108, 111, 114] [(Ct.mk [82, 101, 100] false (Ty.mk 0 [] 0 [] [])), (Ct.mk [77, 105, 120] true (closedT l 1 5))]), (Su.mk [83, 104, 97, 112, 101] [(Ct.mk [68, 111, 116] false (lsT (closedT l 1 5)))])]).length), (9, .imm ((all4s t l).map Ty.enc)), (10, .int .i64 ((i : Nat) : Int))] (by kernel_rfl) ?_
 refine wOrd (by kernel_rfl) (vstart ?_)
 refine vrun 1 (by kernel_rfl) ?_
 refine vsym (by kernel_rfl) (by kernel_rfl) (o_add (a := ((i : Nat) : Int)) (b := 1) (by kernel_rfl) (by first | omega | exact hsi _ | exact hok1 | exact hok2 | assumption) (by first | omega | exact hsi _ | exact hok1 | exact hok2 | assumption)) ?_
 refine vrun 1 (by kernel_rfl) ?_
 refine vend (by kernel_rfl) ?_
 refine AThen_normal ⟨i + 1, ?_, ?_, ⟨⟨(by kernel_rfl), (by kernel_rfl), (by kernel_rfl), trivial⟩, by simp [BelL, AVal.bel], by simp, (by kernel_rfl), by simp [AObj.belO, -List.map_append]⟩⟩
 · omega
 · omega
 refine wF (decide_eq_false hb2) (by kernel_rfl) ?_
 refine wExit 0 (by kernel_rfl) (by kernel_rfl) ?_
 refine AThen_exit ?_
 refine AThen_exit ?_
 refine AIn_exit ?_
 refine AThen_normal ?_
 refine wZs [] (by kernel_rfl) ?_
 refine wO (by kernel_rfl) ?_
 refine vc [] (lives_spec) (by kernel_rfl) ?_
 refine vX 1 (by kernel_rfl) ?_
 refine leafB (b := true) (.inr rfl) (by kernel_rfl) ?_
 · rfl
end Go.Proofs.YtdikgijfekfaoaaGreatDoor
