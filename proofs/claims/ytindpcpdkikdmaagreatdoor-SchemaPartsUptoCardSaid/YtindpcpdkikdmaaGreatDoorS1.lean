/- The context of the schema's seat; slices.Clone at its instances: a new array of the same elements. Conditions: the elements have the type's cells, and their bytes can be had. -/
import Derived.Test.YtindpcpdkikdmaaGreatDoorTy
import Derived.Test.YtindpcpdkikdmaaGreatDoorAbsg
set_option linter.all false
namespace Go.Proofs.YtindpcpdkikdmaaGreatDoor
open Go.Proofs.YtindpcpdkikdmaaGreatDoor.Abs
set_option maxRecDepth 20000
set_option maxHeartbeats 4000000
def bodyOf (f : Func) : Code := match f.body with
  | some c => c
  | none => .skip
def kwCells : List AVal := [.str [97, 110, 100], .str [97, 115], .str [99, 104, 101, 99, 107], .str [100, 101, 108, 101, 116, 101], .str [101, 108, 115, 101], .str [102, 97, 108, 115, 101], .str [102, 117, 110], .str [105, 102], .str [105, 110], .str [105, 110, 115, 101, 114, 116], .str [107, 101, 121], .str [108, 101, 116], .str [109, 97, 116, 99, 104], .str [110, 111, 116], .str [111, 114], .str [112, 114, 111, 99], .str [114, 101, 102], .str [115, 101, 116], .str [116, 97, 98, 108, 101], .str [116, 104, 101, 110], .str [116, 111], .str [116, 114, 117, 101], .str [116, 121, 112, 101], .str [117, 112, 100, 97, 116, 101], .str [119, 104, 101, 114, 101], .str [119, 105, 116, 104]]
def syCells : List AVal := [.str [61, 61], .str [33, 61], .str [60, 61], .str [60, 45], .str [45, 62], .str [43, 43], .str [60], .str [62], .str [61], .str [43], .str [45], .str [42], .str [40], .str [41], .str [123], .str [125], .str [91], .str [93], .str [44], .str [46], .str [58], .str [124], .str [59], .str [63]]
noncomputable def cx : Cx := ⟨Tryz.prog, fun g => bif Nat.beq g 5 then some kwCells else bif Nat.beq g 6 then some syCells else none⟩
theorem cxM : cx.P.follows .mixedOrders = true := by kernel_rfl
theorem nil_mem {l : List AVal} {h : AHeap} {r : AVal × AHeap} (hr : r ∈ (bif l.isEmpty then [true, false] else [false]).map fun b => ((.bool b : AVal), h)) : ∃ b, r = (.bool b, h) ∧ (b = true → l = []) := by
  obtain ⟨b, hb, rfl⟩ := List.mem_map.1 hr
  refine ⟨b, rfl, ?_⟩
  rintro rfl
  cases l with
  | nil => rfl
  | cons x l => simp at hb
theorem o_appnew {P : Program} {ev : Operand → AVal} {op : Op} {h h0 : AHeap} {l : List AVal} {t e a b a' b' : Nat} {z z' : AVal} {ek : TyK} (hv : vBlt ev op = some (.append, [t, t], [.full [], .imm l])) (hh : h = h0)
    (ht : tyOf P t = some ⟨.slice e, a, b, z⟩) (he : tyOf P e = some ⟨ek, a', b', z'⟩) (hc : 0 < a' ∧ z'.cells.length = a' ∧ rowOk a' l = true) (hf : fits l.length b' = true) :
    aop P h ev op = some (.own h0.length 0 l.length, h0 ++ [.arr a' l 0]) := by
  subst hh
  rw [vBlt_spec hv]
  simp only [abuiltin, aappend, ht, he, aelems]
  rw [if_pos hc, if_pos ⟨rfl, rfl, by simpa using hf⟩]
  simp
theorem own_fin {cx : Cx} {m : Nat} {l : List AVal} {h : AHeap} {sz r : Nat} {T : Tm} {e : Exit} (hm : m = h.length) (he : e = .normal ∨ e = .ret) (hT : Tm.get T r = .own h.length 0 l.length) (hb : h.all (AObj.belO (h.length + 1)) = true) (hbl : belL (h.length + 1) l = true) :
    FinRaw cx [.tmp r] m (fun v h' => v = .own h.length 0 l.length ∧ h' = h ++ [.arr sz l 0]) e T (h ++ [.arr sz l 0]) := by
  have ht : (h ++ [AObj.arr sz l 0]).take (h.length + 1) = h ++ [.arr sz l 0] := List.take_of_length_le (by simp)
  refine ⟨he, [.own h.length 0 l.length], by simp [ares, hT], h.length + 1, by omega, by simp [awrap, AVal.bel], ?_, rfl, ht⟩
  rw [ht, List.all_append, hb]
  simp [AObj.belO, hbl]
noncomputable def cl44 : Code := bodyOf Tryz.f44
theorem clone44 (l : List AVal) (h : AHeap) (hok : rowOk 6 l = true) (hf : fits l.length 96 = true) (hb : h.all (AObj.belO (h.length + 1)) = true) (hbl : belL (h.length + 1) l = true) :
    CallsA cx 44 [.imm l] h (fun v h' => v = .own h.length 0 l.length ∧ h' = h ++ [.arr 6 l 0]) := by
  refine func_raw (cx := cx) 8 h.length [.tmp 2] Tryz.func44 rfl rfl rfl rfl rfl (by simp) ?_
  show wpA cx 8 h.length (at_ cl44 []) _ _ _
  refine wSt [0] [(0, .imm l)] h (by kernel_rfl) rfl ?_
  refine wSeq (by kernel_rfl) ?_
  refine wOrd (by kernel_rfl) (vstart ?_)
  refine vrun 1 (by kernel_rfl) ?_
  refine vend (by kernel_rfl) ?_
  refine AThen_normal ?_
  refine wSt [0, 2] [(0, .imm l), (2, .full [])] h (by kernel_rfl) (by kernel_rfl) ?_
  refine wSeq (by kernel_rfl) ?_
  refine wSeq (by kernel_rfl) ?_
  refine wOrd (by kernel_rfl) (vstart ?_)
  refine vrun 1 (by kernel_rfl) ?_
  refine vnext (L := (bif l.isEmpty then [true, false] else [false]).map fun b => (.bool b, h)) (by kernel_rfl) (by kernel_rfl) (by kernel_rfl) (by kernel_rfl) (by kernel_rfl) ?_
  intro r hr
  obtain ⟨b, rfl, hb0⟩ := nil_mem hr
  refine vend (by kernel_rfl) ?_
  refine AThen_normal ?_
  refine wSt [0, 2, 4] [(0, .imm l), (2, .full []), (4, .bool b)] h (by kernel_rfl) (by kernel_rfl) ?_
  refine wIf (by kernel_rfl) b (by kernel_rfl) (fun e => ?_) (fun _ => ?_)
  · have hl := hb0 e
    subst hl
    refine wSeq (by kernel_rfl) ?_
    refine wOrd (by kernel_rfl) (vstart ?_)
    refine vrun 1 (by kernel_rfl) ?_
    refine vend (by kernel_rfl) ?_
    refine AThen_normal ?_
    refine wSt [2] [(2, .full [])] h (by kernel_rfl) (by kernel_rfl) ?_
    refine wOwn 2 6 (by decide) rfl ?_
    exact wRet (by kernel_rfl) (own_fin rfl (.inr rfl) rfl hb hbl)
  · refine wSkip (by kernel_rfl) ?_
    refine AThen_normal ?_
    refine wSt [0, 2] [(0, .imm l), (2, .full [])] h (by kernel_rfl) (by kernel_rfl) ?_
    refine wSeq (by kernel_rfl) ?_
    refine wOrd (by kernel_rfl) (vstart ?_)
    refine vrun 2 (by kernel_rfl) ?_
    refine vsymH (v := .own h.length 0 l.length) (h' := h ++ [.arr 6 l 0]) (by kernel_rfl) (by kernel_rfl) (o_appnew (P := cx.P) (t := 35) (l := l) (h0 := h) (by kernel_rfl) (by kernel_rfl) ty35 ty63 ⟨by decide, by decide, hok⟩ hf) ?_
    refine vrun 1 (by kernel_rfl) ?_
    refine vend (by kernel_rfl) ?_
    refine AThen_normal ?_
    exact wRet (by kernel_rfl) (own_fin rfl (.inr rfl) rfl hb hbl)
noncomputable def cl45 : Code := bodyOf Tryz.f45
theorem clone45 (l : List AVal) (h : AHeap) (hok : rowOk 1 l = true) (hf : fits l.length 16 = true) (hb : h.all (AObj.belO (h.length + 1)) = true) (hbl : belL (h.length + 1) l = true) :
    CallsA cx 45 [.imm l] h (fun v h' => v = .own h.length 0 l.length ∧ h' = h ++ [.arr 1 l 0]) := by
  refine func_raw (cx := cx) 8 h.length [.tmp 2] Tryz.func45 rfl rfl rfl rfl rfl (by simp) ?_
  show wpA cx 8 h.length (at_ cl45 []) _ _ _
  refine wSt [0] [(0, .imm l)] h (by kernel_rfl) rfl ?_
  refine wSeq (by kernel_rfl) ?_
  refine wOrd (by kernel_rfl) (vstart ?_)
  refine vrun 1 (by kernel_rfl) ?_
  refine vend (by kernel_rfl) ?_
  refine AThen_normal ?_
  refine wSt [0, 2] [(0, .imm l), (2, .full [])] h (by kernel_rfl) (by kernel_rfl) ?_
  refine wSeq (by kernel_rfl) ?_
  refine wSeq (by kernel_rfl) ?_
  refine wOrd (by kernel_rfl) (vstart ?_)
  refine vrun 1 (by kernel_rfl) ?_
  refine vnext (L := (bif l.isEmpty then [true, false] else [false]).map fun b => (.bool b, h)) (by kernel_rfl) (by kernel_rfl) (by kernel_rfl) (by kernel_rfl) (by kernel_rfl) ?_
  intro r hr
  obtain ⟨b, rfl, hb0⟩ := nil_mem hr
  refine vend (by kernel_rfl) ?_
  refine AThen_normal ?_
  refine wSt [0, 2, 4] [(0, .imm l), (2, .full []), (4, .bool b)] h (by kernel_rfl) (by kernel_rfl) ?_
  refine wIf (by kernel_rfl) b (by kernel_rfl) (fun e => ?_) (fun _ => ?_)
  · have hl := hb0 e
    subst hl
    refine wSeq (by kernel_rfl) ?_
    refine wOrd (by kernel_rfl) (vstart ?_)
    refine vrun 1 (by kernel_rfl) ?_
    refine vend (by kernel_rfl) ?_
    refine AThen_normal ?_
    refine wSt [2] [(2, .full [])] h (by kernel_rfl) (by kernel_rfl) ?_
    refine wOwn 2 1 (by decide) rfl ?_
    exact wRet (by kernel_rfl) (own_fin rfl (.inr rfl) rfl hb hbl)
  · refine wSkip (by kernel_rfl) ?_
    refine AThen_normal ?_
    refine wSt [0, 2] [(0, .imm l), (2, .full [])] h (by kernel_rfl) (by kernel_rfl) ?_
    refine wSeq (by kernel_rfl) ?_
    refine wOrd (by kernel_rfl) (vstart ?_)
    refine vrun 2 (by kernel_rfl) ?_
    refine vsymH (v := .own h.length 0 l.length) (h' := h ++ [.arr 1 l 0]) (by kernel_rfl) (by kernel_rfl) (o_appnew (P := cx.P) (t := 34) (l := l) (h0 := h) (by kernel_rfl) (by kernel_rfl) ty34 ty9 ⟨by decide, by decide, hok⟩ hf) ?_
    refine vrun 1 (by kernel_rfl) ?_
    refine vend (by kernel_rfl) ?_
    refine AThen_normal ?_
    exact wRet (by kernel_rfl) (own_fin rfl (.inr rfl) rfl hb hbl)
noncomputable def cl46 : Code := bodyOf Tryz.f46
theorem clone46 (l : List AVal) (h : AHeap) (hok : rowOk 2 l = true) (hf : fits l.length 32 = true) (hb : h.all (AObj.belO (h.length + 1)) = true) (hbl : belL (h.length + 1) l = true) :
    CallsA cx 46 [.imm l] h (fun v h' => v = .own h.length 0 l.length ∧ h' = h ++ [.arr 2 l 0]) := by
  refine func_raw (cx := cx) 8 h.length [.tmp 2] Tryz.func46 rfl rfl rfl rfl rfl (by simp) ?_
  show wpA cx 8 h.length (at_ cl46 []) _ _ _
  refine wSt [0] [(0, .imm l)] h (by kernel_rfl) rfl ?_
  refine wSeq (by kernel_rfl) ?_
  refine wOrd (by kernel_rfl) (vstart ?_)
  refine vrun 1 (by kernel_rfl) ?_
  refine vend (by kernel_rfl) ?_
  refine AThen_normal ?_
  refine wSt [0, 2] [(0, .imm l), (2, .full [])] h (by kernel_rfl) (by kernel_rfl) ?_
  refine wSeq (by kernel_rfl) ?_
  refine wSeq (by kernel_rfl) ?_
  refine wOrd (by kernel_rfl) (vstart ?_)
  refine vrun 1 (by kernel_rfl) ?_
  refine vnext (L := (bif l.isEmpty then [true, false] else [false]).map fun b => (.bool b, h)) (by kernel_rfl) (by kernel_rfl) (by kernel_rfl) (by kernel_rfl) (by kernel_rfl) ?_
  intro r hr
  obtain ⟨b, rfl, hb0⟩ := nil_mem hr
  refine vend (by kernel_rfl) ?_
  refine AThen_normal ?_
  refine wSt [0, 2, 4] [(0, .imm l), (2, .full []), (4, .bool b)] h (by kernel_rfl) (by kernel_rfl) ?_
  refine wIf (by kernel_rfl) b (by kernel_rfl) (fun e => ?_) (fun _ => ?_)
  · have hl := hb0 e
    subst hl
    refine wSeq (by kernel_rfl) ?_
    refine wOrd (by kernel_rfl) (vstart ?_)
    refine vrun 1 (by kernel_rfl) ?_
    refine vend (by kernel_rfl) ?_
    refine AThen_normal ?_
    refine wSt [2] [(2, .full [])] h (by kernel_rfl) (by kernel_rfl) ?_
    refine wOwn 2 2 (by decide) rfl ?_
    exact wRet (by kernel_rfl) (own_fin rfl (.inr rfl) rfl hb hbl)
  · refine wSkip (by kernel_rfl) ?_
    refine AThen_normal ?_
    refine wSt [0, 2] [(0, .imm l), (2, .full [])] h (by kernel_rfl) (by kernel_rfl) ?_
    refine wSeq (by kernel_rfl) ?_
    refine wOrd (by kernel_rfl) (vstart ?_)
    refine vrun 2 (by kernel_rfl) ?_
    refine vsymH (v := .own h.length 0 l.length) (h' := h ++ [.arr 2 l 0]) (by kernel_rfl) (by kernel_rfl) (o_appnew (P := cx.P) (t := 36) (l := l) (h0 := h) (by kernel_rfl) (by kernel_rfl) ty36 ty51 ⟨by decide, by decide, hok⟩ hf) ?_
    refine vrun 1 (by kernel_rfl) ?_
    refine vend (by kernel_rfl) ?_
    refine AThen_normal ?_
    exact wRet (by kernel_rfl) (own_fin rfl (.inr rfl) rfl hb hbl)
noncomputable def cl49 : Code := bodyOf Tryz.f49
theorem clone49 (l : List AVal) (h : AHeap) (hok : rowOk 7 l = true) (hf : fits l.length 104 = true) (hb : h.all (AObj.belO (h.length + 1)) = true) (hbl : belL (h.length + 1) l = true) :
    CallsA cx 49 [.imm l] h (fun v h' => v = .own h.length 0 l.length ∧ h' = h ++ [.arr 7 l 0]) := by
  refine func_raw (cx := cx) 8 h.length [.tmp 2] Tryz.func49 rfl rfl rfl rfl rfl (by simp) ?_
  show wpA cx 8 h.length (at_ cl49 []) _ _ _
  refine wSt [0] [(0, .imm l)] h (by kernel_rfl) rfl ?_
  refine wSeq (by kernel_rfl) ?_
  refine wOrd (by kernel_rfl) (vstart ?_)
  refine vrun 1 (by kernel_rfl) ?_
  refine vend (by kernel_rfl) ?_
  refine AThen_normal ?_
  refine wSt [0, 2] [(0, .imm l), (2, .full [])] h (by kernel_rfl) (by kernel_rfl) ?_
  refine wSeq (by kernel_rfl) ?_
  refine wSeq (by kernel_rfl) ?_
  refine wOrd (by kernel_rfl) (vstart ?_)
  refine vrun 1 (by kernel_rfl) ?_
  refine vnext (L := (bif l.isEmpty then [true, false] else [false]).map fun b => (.bool b, h)) (by kernel_rfl) (by kernel_rfl) (by kernel_rfl) (by kernel_rfl) (by kernel_rfl) ?_
  intro r hr
  obtain ⟨b, rfl, hb0⟩ := nil_mem hr
  refine vend (by kernel_rfl) ?_
  refine AThen_normal ?_
  refine wSt [0, 2, 4] [(0, .imm l), (2, .full []), (4, .bool b)] h (by kernel_rfl) (by kernel_rfl) ?_
  refine wIf (by kernel_rfl) b (by kernel_rfl) (fun e => ?_) (fun _ => ?_)
  · have hl := hb0 e
    subst hl
    refine wSeq (by kernel_rfl) ?_
    refine wOrd (by kernel_rfl) (vstart ?_)
    refine vrun 1 (by kernel_rfl) ?_
    refine vend (by kernel_rfl) ?_
    refine AThen_normal ?_
    refine wSt [2] [(2, .full [])] h (by kernel_rfl) (by kernel_rfl) ?_
    refine wOwn 2 7 (by decide) rfl ?_
    exact wRet (by kernel_rfl) (own_fin rfl (.inr rfl) rfl hb hbl)
  · refine wSkip (by kernel_rfl) ?_
    refine AThen_normal ?_
    refine wSt [0, 2] [(0, .imm l), (2, .full [])] h (by kernel_rfl) (by kernel_rfl) ?_
    refine wSeq (by kernel_rfl) ?_
    refine wOrd (by kernel_rfl) (vstart ?_)
    refine vrun 2 (by kernel_rfl) ?_
    refine vsymH (v := .own h.length 0 l.length) (h' := h ++ [.arr 7 l 0]) (by kernel_rfl) (by kernel_rfl) (o_appnew (P := cx.P) (t := 44) (l := l) (h0 := h) (by kernel_rfl) (by kernel_rfl) ty44 ty60 ⟨by decide, by decide, hok⟩ hf) ?_
    refine vrun 1 (by kernel_rfl) ?_
    refine vend (by kernel_rfl) ?_
    refine AThen_normal ?_
    exact wRet (by kernel_rfl) (own_fin rfl (.inr rfl) rfl hb hbl)
noncomputable def cl69 : Code := bodyOf Tryz.f69
theorem clone69 (l : List AVal) (h : AHeap) (hok : rowOk 13 l = true) (hf : fits l.length 224 = true) (hb : h.all (AObj.belO (h.length + 1)) = true) (hbl : belL (h.length + 1) l = true) :
    CallsA cx 69 [.imm l] h (fun v h' => v = .own h.length 0 l.length ∧ h' = h ++ [.arr 13 l 0]) := by
  refine func_raw (cx := cx) 8 h.length [.tmp 2] Tryz.func69 rfl rfl rfl rfl rfl (by simp) ?_
  show wpA cx 8 h.length (at_ cl69 []) _ _ _
  refine wSt [0] [(0, .imm l)] h (by kernel_rfl) rfl ?_
  refine wSeq (by kernel_rfl) ?_
  refine wOrd (by kernel_rfl) (vstart ?_)
  refine vrun 1 (by kernel_rfl) ?_
  refine vend (by kernel_rfl) ?_
  refine AThen_normal ?_
  refine wSt [0, 2] [(0, .imm l), (2, .full [])] h (by kernel_rfl) (by kernel_rfl) ?_
  refine wSeq (by kernel_rfl) ?_
  refine wSeq (by kernel_rfl) ?_
  refine wOrd (by kernel_rfl) (vstart ?_)
  refine vrun 1 (by kernel_rfl) ?_
  refine vnext (L := (bif l.isEmpty then [true, false] else [false]).map fun b => (.bool b, h)) (by kernel_rfl) (by kernel_rfl) (by kernel_rfl) (by kernel_rfl) (by kernel_rfl) ?_
  intro r hr
  obtain ⟨b, rfl, hb0⟩ := nil_mem hr
  refine vend (by kernel_rfl) ?_
  refine AThen_normal ?_
  refine wSt [0, 2, 4] [(0, .imm l), (2, .full []), (4, .bool b)] h (by kernel_rfl) (by kernel_rfl) ?_
  refine wIf (by kernel_rfl) b (by kernel_rfl) (fun e => ?_) (fun _ => ?_)
  · have hl := hb0 e
    subst hl
    refine wSeq (by kernel_rfl) ?_
    refine wOrd (by kernel_rfl) (vstart ?_)
    refine vrun 1 (by kernel_rfl) ?_
    refine vend (by kernel_rfl) ?_
    refine AThen_normal ?_
    refine wSt [2] [(2, .full [])] h (by kernel_rfl) (by kernel_rfl) ?_
    refine wOwn 2 13 (by decide) rfl ?_
    exact wRet (by kernel_rfl) (own_fin rfl (.inr rfl) rfl hb hbl)
  · refine wSkip (by kernel_rfl) ?_
    refine AThen_normal ?_
    refine wSt [0, 2] [(0, .imm l), (2, .full [])] h (by kernel_rfl) (by kernel_rfl) ?_
    refine wSeq (by kernel_rfl) ?_
    refine wOrd (by kernel_rfl) (vstart ?_)
    refine vrun 2 (by kernel_rfl) ?_
    refine vsymH (v := .own h.length 0 l.length) (h' := h ++ [.arr 13 l 0]) (by kernel_rfl) (by kernel_rfl) (o_appnew (P := cx.P) (t := 24) (l := l) (h0 := h) (by kernel_rfl) (by kernel_rfl) ty24 ty41 ⟨by decide, by decide, hok⟩ hf) ?_
    refine vrun 1 (by kernel_rfl) ?_
    refine vend (by kernel_rfl) ?_
    refine AThen_normal ?_
    exact wRet (by kernel_rfl) (own_fin rfl (.inr rfl) rfl hb hbl)
def cloneRun (sz by' : Nat) : List AVal → AHeap → Option (AVal × AHeap)
  | [.imm l], h => bif rowOk sz l && fits l.length by' && h.all (AObj.belO (h.length + 1)) && belL (h.length + 1) l then some (.own h.length 0 l.length, h ++ [.arr sz l 0]) else none
  | _, _ => none
theorem cloneRun_some {sz by' : Nat} {args : List AVal} {h : AHeap} {r : AVal × AHeap} (hr : cloneRun sz by' args h = some r) :
    ∃ l, args = [.imm l] ∧ rowOk sz l = true ∧ fits l.length by' = true ∧ h.all (AObj.belO (h.length + 1)) = true ∧ belL (h.length + 1) l = true ∧ r = (.own h.length 0 l.length, h ++ [.arr sz l 0]) := by
  unfold cloneRun at hr
  split at hr
  · rename_i h' l
    cases hc : rowOk sz l && fits l.length by' && h.all (AObj.belO (h.length + 1)) && belL (h.length + 1) l with
    | false => rw [hc] at hr; simp at hr
    | true =>
      rw [hc] at hr
      simp only [cond_true, Option.some.injEq] at hr
      simp only [Bool.and_eq_true] at hc
      exact ⟨l, rfl, hc.1.1.1, hc.1.1.2, hc.1.2, hc.2, hr.symm⟩
  · simp at hr
def hookRun : XRun := fun f args h =>
  bif Nat.beq f 44 then cloneRun 6 96 args h
  else bif Nat.beq f 45 then cloneRun 1 16 args h
  else bif Nat.beq f 46 then cloneRun 2 32 args h
  else bif Nat.beq f 49 then cloneRun 7 104 args h
  else bif Nat.beq f 69 then cloneRun 13 224 args h
  else none
def hook : XCall := fun f args h => bif Nat.beq f 44 || Nat.beq f 45 || Nat.beq f 46 || Nat.beq f 49 || Nat.beq f 69 then xcall (fun _ _ _ => none) hookRun (fun _ => false) f args h else none
theorem hookRun_ok : RunOk cx hookRun := by
  intro f args h r hr
  unfold hookRun at hr
  cases h0 : Nat.beq f 44 with
  | true =>
    simp only [h0, cond_true, cond_false] at hr
    obtain ⟨l, rfl, q1, q2, q3, q4, rfl⟩ := cloneRun_some hr
    rw [Nat.eq_of_beq_eq_true h0]
    exact clone44 l h q1 q2 q3 q4
  | false =>
  cases h1 : Nat.beq f 45 with
  | true =>
    simp only [h0, h1, cond_true, cond_false] at hr
    obtain ⟨l, rfl, q1, q2, q3, q4, rfl⟩ := cloneRun_some hr
    rw [Nat.eq_of_beq_eq_true h1]
    exact clone45 l h q1 q2 q3 q4
  | false =>
  cases h2 : Nat.beq f 46 with
  | true =>
    simp only [h0, h1, h2, cond_true, cond_false] at hr
    obtain ⟨l, rfl, q1, q2, q3, q4, rfl⟩ := cloneRun_some hr
    rw [Nat.eq_of_beq_eq_true h2]
    exact clone46 l h q1 q2 q3 q4
  | false =>
  cases h3 : Nat.beq f 49 with
  | true =>
    simp only [h0, h1, h2, h3, cond_true, cond_false] at hr
    obtain ⟨l, rfl, q1, q2, q3, q4, rfl⟩ := cloneRun_some hr
    rw [Nat.eq_of_beq_eq_true h3]
    exact clone49 l h q1 q2 q3 q4
  | false =>
  cases h4 : Nat.beq f 69 with
  | true =>
    simp only [h0, h1, h2, h3, h4, cond_true, cond_false] at hr
    obtain ⟨l, rfl, q1, q2, q3, q4, rfl⟩ := cloneRun_some hr
    rw [Nat.eq_of_beq_eq_true h4]
    exact clone69 l h q1 q2 q3 q4
  | false =>
  simp [h0, h1, h2, h3, h4] at hr
theorem hook_ok : ∀ f args h r, hook f args h = some r → FCall cx f args h r.1 r.2.1 r.2.2 := by
  intro f args h r hr
  unfold hook at hr
  cases hc : Nat.beq f 44 || Nat.beq f 45 || Nat.beq f 46 || Nat.beq f 49 || Nat.beq f 69 with
  | false => rw [hc] at hr; simp at hr
  | true =>
    rw [hc] at hr
    simp only [cond_true] at hr
    exact xcall_sound (raw := fun _ => false) (hook := fun _ _ _ => none) (by simp) hookRun_ok f args h r hr
end Go.Proofs.YtindpcpdkikdmaaGreatDoor
