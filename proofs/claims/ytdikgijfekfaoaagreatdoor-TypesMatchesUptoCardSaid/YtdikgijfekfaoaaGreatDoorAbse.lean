/- Rules for calls on objects that lie anywhere. No condition. -/
import Derived.Test.YtdikgijfekfaoaaGreatDoorAbsd
set_option linter.all false
set_option linter.unusedSimpArgs false
set_option linter.unusedVariables false
namespace Go.Proofs.YtdikgijfekfaoaaGreatDoor.Abs
/-- A thing is stored over the last one, which was appended as it lies. -/
theorem o_stmapx {P : Program} {ev : Operand → AVal} {op : Op} {h : AHeap} {α : Type} {enc : α → AVal} {l : List α} {X : α} {t : Nat} {o idx k sz : Nat} {x z : AVal} {i : TyI} (hv : vStore ev op = some (t, .pown o idx 0 k, x)) (hx : x = enc X) (ho : h[o]? = some (.arr sz (l.map enc ++ [z]) 0)) (hl : (l.map enc ++ [z]).length = k) (hi : idx = l.length) (ht : tyOf P t = some i)
    (hok : ∀ q, (enc q).cells.length = i.size ∧ (enc q).cells.all AVal.cellOk = true) (hz : z.cells.length = i.size) (hw : z.withCells (enc X).cells = some (enc X)) : aop P h ev op = some (.any, h.set o (.arr sz ((l ++ [X]).map enc) 0)) := by
  subst hi
  have hy : (l.map enc ++ [z])[l.length]? = some z := by simp
  rw [o_stown hv ho hl (Nat.zero_le _) hy ht (by rw [hx]; exact hok X) rfl hz (by rw [hx]; exact hw), hx]
  simp
section
variable {cx : Cx} {l : List BOp} {S : Tm × AHeap} {K : Tm → AHeap → Prop}
/-- A call upon the whole heap. -/
theorem vcallH {f : FuncId} {args : List AVal} {v : AVal} {h' : AHeap} (H0 : AHeap) (hc : isCons l = true) (hg : bguard S.1 (hdB l).g = some true) (ho : aop cx.P S.2 (aev cx.G S.1) (hdB l).op = none) (ha : acallee (aev cx.G S.1) (hdB l).op = some (f, args)) (hS : S.2 = H0) (hq : CallsA cx f args H0 fun v' h'' => v' = v ∧ h'' = h')
    (hk : bS cx l.tail (aput S.1 (hdB l).dst v, h') K) : bS cx l S K := by
  subst hS
  exact vcall hc hg ho ha hq (by rintro v' h'' ⟨rfl, rfl⟩; exact hk)
end
end Go.Proofs.YtdikgijfekfaoaaGreatDoor.Abs
namespace Go.Proofs.YtdikgijfekfaoaaGreatDoor.Abs
open Go
section
variable {cx : Cx} {h : AHeap}
/-- A call that is lent a box with an empty slice may take the slice for an array of its own. -/
theorem CallsA_ownB {f : FuncId} {args : List AVal} {Q : AVal → AHeap → Prop} (b i sz : Nat) {cs : List AVal} (cs' : List AVal) (hsz : 0 < sz) (hb : h[b]? = some (.box cs)) (hi : cs[i]? = some (.full [])) (he : cs.set i (.own h.length 0 0) = cs')
    (hc : CallsA cx f args (h.set b (.box cs') ++ [.arr sz [] 0]) Q) : CallsA cx f args h Q := by
  refine ⟨hc.1, fun ρ w cargs wf hg hv => ?_⟩
  have hr : Rel cx ⟨w, ρ.I, lentOf ρ h⟩ ⟨ρ, h, w⟩ 0 ρ [] h { tmps := #[], defers := [] } w := ⟨fun t => .any _, rfl, rfl, hg, wf, Fr.refl ρ h w, Le.refl _ _ _⟩
  obtain ⟨ρ1, r1, r2, r3⟩ := hr.ghost sz hsz
  have hlt := (List.getElem?_eq_some_iff.1 hb).1
  obtain ⟨ρ2, q1⟩ := Rel.box hr r1 hb (by rw [List.getElem?_append_left hlt]; exact hb) r2 hi (y' := .own h.length 0 0) (fun v hv => by cases hv; exact r3 _)
  rw [he, List.set_append_left _ _ hlt] at q1
  have le := q1.le
  refine (hc.2 ρ2 w cargs q1.wf q1.glob ⟨hv.1, fun k x v hx hy => (hv.2 k x v hx hy).mono le⟩).mono ?_
  rintro e w' ⟨ρ', cv, v, h', rfl, hq, hvv, wf', le', fr'⟩
  exact ⟨ρ', cv, v, h', rfl, hq, hvv, wf', le.trans le', q1.fr.comp fr'⟩
/-- A call that was proved on a heap of its own, where its objects lie at the numbers L. -/
theorem CallsA_at {f : FuncId} {args0 args : List AVal} {v0 v : AVal} {hs hs' h' : AHeap} (L : List Nat) (hc : CallsA cx f args0 hs fun v' g => v' = v0 ∧ g = hs') (hl : hs.length = L.length) (hnd : L.Nodup) (hb : belL hs.length args0 = true) (hbo : hs.all (AObj.belO hs.length) = true)
    (hobj : L.map (fun o => h[o]?) = (renH (lendR L h.length) hs).map some) (hn : noIters h = true) (ha : renL (lendR L h.length) args0 = args) (hv : v0.ren (lendR L h.length) = v) (hh : lendH h L hs' = h') :
    CallsA cx f args h fun v' g => v' = v ∧ g = h' := by
  subst ha hv hh
  have le : Lend h L hs := by
    refine ⟨hl, hnd, ?_, hbo, fun o m left ho => (noIters_get hn ho).elim⟩
    intro i o x hi hx
    have e := congrArg (fun l => l[i]?) hobj
    simp only [renH_map, List.getElem?_map, hi, hx, Option.map_some] at e
    exact Option.some.inj e
  exact CallsA_lend le hc hb (by rintro v' g _ ⟨rfl, rfl⟩; exact ⟨rfl, rfl⟩)
end
end Go.Proofs.YtdikgijfekfaoaaGreatDoor.Abs
