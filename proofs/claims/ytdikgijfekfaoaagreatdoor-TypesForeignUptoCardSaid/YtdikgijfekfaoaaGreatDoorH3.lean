/- maps.Clone, and the hooks of the evaluator: what they answer is what the calls answer. No condition. -/
import Derived.Test.YtdikgijfekfaoaaGreatDoorH1
import Derived.Test.YtdikgijfekfaoaaGreatDoorH2
import Derived.Test.YtdikgijfekfaoaaGreatDoorAbsc
set_option linter.all false
set_option linter.unusedSimpArgs false
set_option linter.unusedVariables false
namespace Go.Proofs.YtdikgijfekfaoaaGreatDoor
open Go.Proofs.YtdikgijfekfaoaaGreatDoor.Abs Go.RowKit Go.Maps

theorem mclone65 {h : AHeap} {o : Nat} {es : List (AVal × AVal)} (ho : h[o]? = some (.map es)) : CallsA cx 65 [.map o] h (fun v h' => v = .map h.length ∧ h' = h ++ [.map es]) := by
  refine ⟨⟨_, Tryz.func65, rfl, rfl⟩, fun ρ w cargs wf _ hv => ?_⟩
  obtain ⟨u, rfl, hu⟩ := hv.one
  obtain ⟨ms, clock, q1, q2, q3, q4⟩ := wf.obj o _ ho
  have hu' : u = .map (some (ρ.loc o).blk) := by cases hu; rfl
  subst hu'
  refine (AnyW.maps_Clone Tryz.mclone65 _ ms clock w q1).mono ?_
  rintro e w' ⟨rfl, rfl⟩
  have hst := step_gen (h' := h ++ [.map es]) (w' := w.alloc (.map ms clock)) wf (Fr.refl ρ h w) h.length (.map es) ⟨w.heap.size, 0, 0⟩ ρ.I (getElem?_append_one _ _) (fun o' ho => get_append_other _ _ _ ho)
    rfl rfl rfl (by simp) (fun b hb _ => Below.heap_alloc w _ b hb) (by simp)
    (fun b j hI => ⟨hI, cell_of_heap (Below.heap_alloc w _ b (wf.immlt b j hI)) j⟩) (fun b j hI => .inl hI)
    (fun _ => .inl ⟨Nat.le_refl _, by simp⟩) (fun j _ hI => absurd (wf.immlt _ j hI) (by simp))
    (no_iter_of_new wf)
    (fun le => ⟨ms, clock, Go.heap_alloc_new w _, q2, fun i kv e a b => ⟨(q3 i kv e a b).1.mono le, (q3 i kv e a b).2.1.mono le, (q3 i kv e a b).2.2⟩, q4⟩)
  refine ⟨_, _, _, _, rfl, ⟨rfl, rfl⟩, ?_, hst.1, hst.2.1, hst.2.2⟩
  have := VR.map (ρ := ρ.put h.length ⟨w.heap.size, 0, 0⟩ ρ.I) (h := h ++ [.map es]) (w := w.alloc (.map ms clock)) h.length es (getElem?_append_one _ _)
  rw [Ren.put_same] at this
  exact this

def cloneRun (sz by' : Nat) : List AVal → AHeap → Option (AVal × AHeap)
  | [.imm l], h => bif rowOk sz l && fits l.length by' && h.all (AObj.belO (h.length + 1)) && belL (h.length + 1) l then some (.own h.length 0 l.length, h ++ [.arr sz l 0]) else none
  | _, _ => none
def mcloneRun : List AVal → AHeap → Option (AVal × AHeap)
  | [.map o], h => match h[o]? with
    | some (.map es) => some (.map h.length, h ++ [.map es])
    | _ => none
  | _, _ => none
def kvOf : List (AVal × AVal) → Option (List (List UInt8 × AVal))
  | [] => some []
  | (.str s, v) :: l => match kvOf l with
    | some r => some ((s, v) :: r)
    | none => none
  | _ => none
theorem kvOf_enc : ∀ {es : List (AVal × AVal)} {kv : List (List UInt8 × AVal)}, kvOf es = some kv → es = encKV kv
  | [], kv, h => by simp [kvOf] at h; subst h; rfl
  | (x, v) :: l, kv, h => by
    cases x with
    | str s =>
      simp only [kvOf] at h
      split at h
      · rename_i r hr
        simp only [Option.some.injEq] at h
        subst h
        rw [kvOf_enc hr]; rfl
      · simp at h
    | _ => simp [kvOf] at h
def ndS : List (List UInt8) → Bool
  | [] => true
  | x :: l => !(l.contains x) && ndS l
theorem ndS_nodup : ∀ {l : List (List UInt8)}, ndS l = true → l.Nodup
  | [], _ => .nil
  | x :: l, h => by
    simp only [ndS, Bool.and_eq_true, Bool.not_eq_true', List.contains_eq_mem, decide_eq_false_iff_not] at h
    exact List.nodup_cons.2 ⟨h.1, ndS_nodup h.2⟩
def keysOk (kv : List (List UInt8 × AVal)) : Bool := ndS (kv.map (·.1)) && kv.all (fun p => Nat.ble p.1.length 1000000000) && Nat.ble kv.length 1000000000
def sortedRun : List AVal → AHeap → Option (AVal × AHeap)
  | [.fn (.func g) [] [.ptr o 0]], h => bif Nat.beq g 127 || Nat.beq g 138 then match h[o]? with
    | some (.box [.map m]) => match h[m]? with
      | some (.map es) => match kvOf es with
        | some kv => bif keysOk kv then some (.imm ((sSort (kv.map (·.1))).map .str), h) else none
        | none => none
      | _ => none
    | _ => none
    else none
  | _, _ => none
def hookRun : XRun := fun f args h =>
  bif Nat.beq f 84 then cloneRun 1 16 args h
  else bif Nat.beq f 109 then cloneRun 5 80 args h
  else bif Nat.beq f 65 then mcloneRun args h
  else bif Nat.beq f 113 then sortedRun args h
  else none
def hook : XCall := fun f args h => bif Nat.beq f 84 || Nat.beq f 109 || Nat.beq f 65 || Nat.beq f 113 then xcall (fun _ _ _ => none) hookRun (fun _ => false) f args h else none

theorem cloneRun_some {sz by' : Nat} {args : List AVal} {h : AHeap} {r : AVal × AHeap} (hr : cloneRun sz by' args h = some r) :
    ∃ l, args = [.imm l] ∧ rowOk sz l = true ∧ fits l.length by' = true ∧ h.all (AObj.belO (h.length + 1)) = true ∧ belL (h.length + 1) l = true ∧ r = (.own h.length 0 l.length, h ++ [.arr sz l 0]) := by
  unfold cloneRun at hr
  split at hr
  · rename_i h' l
    cases hc : rowOk sz l && fits l.length by' && h.all (AObj.belO (h.length + 1)) && belL (h.length + 1) l with
    | false => rw [hc] at hr; simp at hr
    | true =>
      rw [hc] at hr
      simp only [cond_true, Option.some.injEq] at hr
      simp only [Bool.and_eq_true] at hc
      exact ⟨l, rfl, hc.1.1.1, hc.1.1.2, hc.1.2, hc.2, hr.symm⟩
  · simp at hr

theorem sortedRun_ok {args : List AVal} {h : AHeap} {r : AVal × AHeap} (hr : sortedRun args h = some r) : CallsA cx 113 args h fun v h' => v = r.1 ∧ h' = r.2 := by
  unfold sortedRun at hr
  split at hr <;> try (simp at hr; done)
  rename_i _ g o
  cases hg : Nat.beq g 127 || Nat.beq g 138 with
  | false => rw [hg] at hr; simp at hr
  | true =>
    rw [hg] at hr
    simp only [cond_true] at hr
    split at hr <;> try (simp at hr; done)
    rename_i m ho
    split at hr <;> try (simp at hr; done)
    rename_i es hm
    split at hr <;> try (simp at hr; done)
    rename_i kv hk
    cases hc : keysOk kv with
    | false => rw [hc] at hr; simp at hr
    | true =>
      rw [hc] at hr
      simp only [cond_true, Option.some.injEq] at hr
      subst hr
      have := kvOf_enc hk
      subst this
      simp only [keysOk, Bool.and_eq_true, List.all_eq_true, Nat.ble_eq] at hc
      refine sorted_spec ?_ ho hm (ndS_nodup hc.1.1) hc.1.2 hc.2
      simp only [Bool.or_eq_true] at hg
      rcases hg with hg | hg
      · rw [Nat.eq_of_beq_eq_true hg]; exact keys127
      · rw [Nat.eq_of_beq_eq_true hg]; exact keys138

theorem hookRun_ok : RunOk cx hookRun := by
  intro f args h r hr
  unfold hookRun at hr
  cases h1 : Nat.beq f 84 with
  | true =>
    rw [h1] at hr
    obtain ⟨l, rfl, q1, q2, q3, q4, rfl⟩ := cloneRun_some hr
    rw [Nat.eq_of_beq_eq_true h1]
    exact clone84 l h q1 q2 q3 q4
  | false =>
    rw [h1] at hr
    simp only [cond_false] at hr
    cases h2 : Nat.beq f 109 with
    | true =>
      rw [h2] at hr
      obtain ⟨l, rfl, q1, q2, q3, q4, rfl⟩ := cloneRun_some hr
      rw [Nat.eq_of_beq_eq_true h2]
      exact clone109 l h q1 q2 q3 q4
    | false =>
      rw [h2] at hr
      simp only [cond_false] at hr
      cases h3 : Nat.beq f 65 with
      | true =>
        rw [h3] at hr
        simp only [cond_true] at hr
        rw [Nat.eq_of_beq_eq_true h3]
        unfold mcloneRun at hr
        split at hr <;> try (simp at hr; done)
        split at hr <;> try (simp at hr; done)
        rename_i es ho
        simp only [Option.some.injEq] at hr
        subst hr
        exact mclone65 ho
      | false =>
        rw [h3] at hr
        simp only [cond_false] at hr
        cases h4 : Nat.beq f 113 with
        | true =>
          rw [h4] at hr
          rw [Nat.eq_of_beq_eq_true h4]
          exact sortedRun_ok hr
        | false => rw [h4] at hr; simp at hr

theorem hook_ok : ∀ f args h r, hook f args h = some r → FCall cx f args h r.1 r.2.1 r.2.2 := by
  intro f args h r hr
  unfold hook at hr
  cases hc : Nat.beq f 84 || Nat.beq f 109 || Nat.beq f 65 || Nat.beq f 113 with
  | false => rw [hc] at hr; simp at hr
  | true =>
    rw [hc] at hr
    simp only [cond_true] at hr
    exact xcall_sound (raw := fun _ => false) (hook := fun _ _ _ => none) (by simp) hookRun_ok f args h r hr
end Go.Proofs.YtdikgijfekfaoaaGreatDoor
