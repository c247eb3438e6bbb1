/- slices.Clone at its instances: a new array of the same elements. Conditions: the elements have the type's cells, and their bytes can be had. -/
import Derived.Test.YtdikgijfekfaoaaGreatDoorAbsc
import Derived.Test.YtdikgijfekfaoaaGreatDoorL1
set_option linter.all false
set_option linter.unusedSimpArgs false
set_option linter.unusedVariables false
namespace Go.Proofs.YtdikgijfekfaoaaGreatDoor
open Go.Proofs.YtdikgijfekfaoaaGreatDoor.Abs
set_option maxRecDepth 20000
set_option maxHeartbeats 4000000
theorem nil_mem {l : List AVal} {h : AHeap} {r : AVal × AHeap} (hr : r ∈ (bif l.isEmpty then [true, false] else [false]).map fun b => ((.bool b : AVal), h)) : ∃ b, r = (.bool b, h) ∧ (b = true → l = []) := by
  obtain ⟨b, hb, rfl⟩ := List.mem_map.1 hr
  refine ⟨b, rfl, ?_⟩
  rintro rfl
  cases l with
  | nil => rfl
  | cons x l => simp at hb
theorem o_appnew {P : Program} {ev : Operand → AVal} {op : Op} {h h0 : AHeap} {l : List AVal} {t e a b a' b' : Nat} {z z' : AVal} {ek : TyK} (hv : vBlt ev op = some (.append, [t, t], [.full [], .imm l])) (hh : h = h0)
    (ht : tyOf P t = some ⟨.slice e, a, b, z⟩) (he : tyOf P e = some ⟨ek, a', b', z'⟩) (hc : 0 < a' ∧ z'.cells.length = a' ∧ rowOk a' l = true) (hf : fits l.length b' = true) :
    aop P h ev op = some (.own h0.length 0 l.length, h0 ++ [.arr a' l 0]) := by
  subst hh
  rw [vBlt_spec hv]
  simp only [abuiltin, aappend, ht, he, aelems]
  rw [if_pos hc, if_pos ⟨rfl, rfl, by simpa using hf⟩]
  simp
theorem own_fin {cx : Cx} {m : Nat} {l : List AVal} {h : AHeap} {sz r : Nat} {T : Tm} {e : Exit} (hm : m = h.length) (he : e = .normal ∨ e = .ret) (hT : Tm.get T r = .own h.length 0 l.length) (hb : h.all (AObj.belO (h.length + 1)) = true) (hbl : belL (h.length + 1) l = true) :
    FinRaw cx [.tmp r] m (fun v h' => v = .own h.length 0 l.length ∧ h' = h ++ [.arr sz l 0]) e T (h ++ [.arr sz l 0]) := by
  have ht : (h ++ [AObj.arr sz l 0]).take (h.length + 1) = h ++ [.arr sz l 0] := List.take_of_length_le (by simp)
  refine ⟨he, [.own h.length 0 l.length], by simp [ares, hT], h.length + 1, by omega, by simp [awrap, AVal.bel], ?_, rfl, ht⟩
  rw [ht, List.all_append, hb]
  simp [AObj.belO, hbl]
noncomputable def cl84 : Code := bodyOf Tryz.f84
theorem clone84 (l : List AVal) (h : AHeap) (hok : rowOk 1 l = true) (hf : fits l.length 16 = true) (hb : h.all (AObj.belO (h.length + 1)) = true) (hbl : belL (h.length + 1) l = true) :
    CallsA cx 84 [.imm l] h (fun v h' => v = .own h.length 0 l.length ∧ h' = h ++ [.arr 1 l 0]) := by
 refine func_raw (cx := cx) 8 h.length [.tmp 2] Tryz.func84 rfl rfl rfl rfl rfl (by simp) ?_
 show wpA cx 8 h.length (at_ cl84 []) _ _ _
 refine wSt [0] [(0, .imm l)] h (by kernel_rfl) rfl ?_
 refine qW 1 [(0, .imm l), (2, .full [])] h ?_ ?_
 refine qSeq ?_ ?_
 refine qV 1 ?_ ?_
 refine vnext (L := (bif l.isEmpty then [true, false] else [false]).map fun b => (.bool b, h)) (by kernel_rfl) (by kernel_rfl) (by kernel_rfl) (by kernel_rfl) (by kernel_rfl) ?_
 intro r hr
 obtain ⟨b, rfl, hb0⟩ := nil_mem hr
 refine qN [(0, .imm l), (2, .full []), (4, .bool b)] h ?_ ?_
 refine wIf (by kernel_rfl) b (by kernel_rfl) (fun e => ?_) (fun _ => ?_)
 have hl := hb0 e
 subst hl
 refine qU 1 [(2, .full [])] ?_ ?_
 refine wOwn 2 1 (by decide) rfl ?_
 exact wRet (by kernel_rfl) (own_fin rfl (.inr rfl) rfl hb hbl)
 kernel_rfl
 refine qK ?_ ?_
 refine qz [(0, .imm l), (2, .full [])] ?_ ?_
 refine qV 2 ?_ ?_
 refine vsymH (v := .own h.length 0 l.length) (h' := h ++ [.arr 1 l 0]) (by kernel_rfl) (by kernel_rfl) (o_appnew (P := cx.P) (t := 22) (l := l) (h0 := h) (by kernel_rfl) (by kernel_rfl) ty22 ty9 ⟨by decide, by decide, hok⟩ hf) ?_
 refine qr 1 ?_ ?_
 refine qe ?_ ?_
 refine AThen_normal ?_
 exact wRet (by kernel_rfl) (own_fin rfl (.inr rfl) rfl hb hbl)
 iterate 9 kernel_rfl
noncomputable def cl109 : Code := bodyOf Tryz.f109
theorem clone109 (l : List AVal) (h : AHeap) (hok : rowOk 5 l = true) (hf : fits l.length 80 = true) (hb : h.all (AObj.belO (h.length + 1)) = true) (hbl : belL (h.length + 1) l = true) :
    CallsA cx 109 [.imm l] h (fun v h' => v = .own h.length 0 l.length ∧ h' = h ++ [.arr 5 l 0]) := by
 refine func_raw (cx := cx) 8 h.length [.tmp 2] Tryz.func109 rfl rfl rfl rfl rfl (by simp) ?_
 show wpA cx 8 h.length (at_ cl109 []) _ _ _
 refine wSt [0] [(0, .imm l)] h (by kernel_rfl) rfl ?_
 refine qW 1 [(0, .imm l), (2, .full [])] h ?_ ?_
 refine qSeq ?_ ?_
 refine qV 1 ?_ ?_
 refine vnext (L := (bif l.isEmpty then [true, false] else [false]).map fun b => (.bool b, h)) (by kernel_rfl) (by kernel_rfl) (by kernel_rfl) (by kernel_rfl) (by kernel_rfl) ?_
 intro r hr
 obtain ⟨b, rfl, hb0⟩ := nil_mem hr
 refine qN [(0, .imm l), (2, .full []), (4, .bool b)] h ?_ ?_
 refine wIf (by kernel_rfl) b (by kernel_rfl) (fun e => ?_) (fun _ => ?_)
 have hl := hb0 e
 subst hl
 refine qU 1 [(2, .full [])] ?_ ?_
 refine wOwn 2 5 (by decide) rfl ?_
 exact wRet (by kernel_rfl) (own_fin rfl (.inr rfl) rfl hb hbl)
 kernel_rfl
 refine qK ?_ ?_
 refine qz [(0, .imm l), (2, .full [])] ?_ ?_
 refine qV 2 ?_ ?_
 refine vsymH (v := .own h.length 0 l.length) (h' := h ++ [.arr 5 l 0]) (by kernel_rfl) (by kernel_rfl) (o_appnew (P := cx.P) (t := 23) (l := l) (h0 := h) (by kernel_rfl) (by kernel_rfl) ty23 ty25 ⟨by decide, by decide, hok⟩ hf) ?_
 refine qr 1 ?_ ?_
 refine qe ?_ ?_
 refine AThen_normal ?_
 exact wRet (by kernel_rfl) (own_fin rfl (.inr rfl) rfl hb hbl)
 iterate 9 kernel_rfl
end Go.Proofs.YtdikgijfekfaoaaGreatDoor
