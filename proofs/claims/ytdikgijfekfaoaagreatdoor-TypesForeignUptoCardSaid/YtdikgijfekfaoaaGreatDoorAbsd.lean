/- The abstract layer, part 35: pure calls on arrays of one's own in a drawn region; an array is locked; the smaller of two numbers; a first append. No condition. -/
import Derived.Test.YtdikgijfekfaoaaGreatDoorAbsc
set_option linter.all false
set_option linter.unusedSimpArgs false
set_option linter.unusedVariables false
namespace Go.Proofs.YtdikgijfekfaoaaGreatDoor.Abs
section
variable {cx : Cx} {n m : Nat} {Q : APost} {T : Tm} {h : AHeap} {l : List BOp} {KD : List (List Nat × List Nat) → Tm → AHeap → Prop} {s : DSt}
/-- A call that is lent the first objects, in a drawn region. -/
theorem dcallA {f : FuncId} {args : List AVal} {hs hs' rest : AHeap} {v : AVal} {L : List Nat} (hc : isCons l = true) (hg : bguard s.2.1 (hdB l).g = some true) (hal : isAl (hdB l).op = false) (ho : aop cx.P s.2.2.1 (aev cx.G s.2.1) (hdB l).op = none) (ha : acallee (aev cx.G s.2.1) (hdB l).op = some (f, args))
    (hS : s.2.2.1 = hs ++ rest) (hq : CallsA cx f args hs fun v' h' => v' = v ∧ h' = hs') (hb : belL hs.length args = true) (hbo : hs.all (AObj.belO hs.length) = true) (hl : hs'.length = hs.length) (hv : v.bel hs.length = true) (hbo' : hs'.all (AObj.belO hs.length) = true) (hn : noIters rest = true)
    (hL : List.range hs.length = L) (hne : L.isEmpty = false) (hk : bdr cx l.tail (s.1, aput s.2.1 (hdB l).dst v, hs' ++ rest, s.2.2.2 ++ [(L, L)]) KD) : bdr cx l s KD := by
  subst hL
  refine dcall (h' := hs' ++ rest) hc hg hal ho ha ⟨?_, ?_, ?_⟩ hk
  · intro o hn
    rw [hS]
    have : hs.length ≤ o := by simpa using hn
    rw [List.getElem?_append_right (by omega), List.getElem?_append_right (by omega), hl]
  · rw [hS]
    exact CallsA_pre hq hb hbo hl hv hbo' hn
  · intro e
    rw [e] at hne
    simp at hne
/-- An array is locked. -/
theorem wLock (o : Nat) (h' : AHeap) (hh : frzH h [o] = h') {d : Code} (hw : wpA cx n m d Q T h') : wpA cx n m d Q T h := by
  subst hh
  intro E B ρ a w hm hr
  obtain ⟨ρ', q1, q2, q3, _⟩ := freeze_all [o] hr.wf hr.fr
  exact hw E B ρ' a w hm (hr.step q1 q2 q3)
end
section
variable {P : Program} {ev : Operand → AVal} {op : Op} {h : AHeap}
theorem rowOk_map {α : Type} {enc : α → AVal} {sz : Nat} (hok : ∀ q, ((enc q).cells.length == sz && (enc q).cells.all AVal.cellOk) = true) (l : List α) : rowOk sz (l.map enc) = true := by
  unfold rowOk
  rw [List.all_eq_true]
  intro x hx
  obtain ⟨q, _, rfl⟩ := List.mem_map.1 hx
  exact hok q
end
end Go.Proofs.YtdikgijfekfaoaaGreatDoor.Abs
