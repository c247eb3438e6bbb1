/- Equal types are the same; the parts of formed types. No condition. -/
import Derived.Test.YtdikgijfekfaoaaGreatDoorV8
set_option linter.all false
set_option linter.unusedSimpArgs false
set_option linter.unusedVariables false
namespace Go.Proofs.YtdikgijfekfaoaaGreatDoor
open Go.Proofs.YtdikgijfekfaoaaGreatDoor.Abs
mutual
theorem beq_same : ∀ a b : Ty, a.beq b = true → a = b
  | .mk k x n l ks, .mk k' x' n' l' ks', h => by
    simp only [Ty.beq, Bool.and_eq_true, beq_iff_eq] at h
    obtain ⟨rfl, rfl, rfl, rfl, h5⟩ := h
    rw [beqL_same ks ks' h5]
theorem beqL_same : ∀ a b : List Ty, Ty.beqL a b = true → a = b
  | [], [], _ => rfl
  | [], _ :: _, h => by simp [Ty.beqL] at h
  | _ :: _, [], h => by simp [Ty.beqL] at h
  | x :: a, y :: b, h => by
    simp only [Ty.beqL, Bool.and_eq_true] at h
    rw [beq_same x y h.1, beqL_same a b h.2]
end
/-- Names that are in order each by each are in order. -/
theorem order_pw {l : List (List UInt8)} (h : ∀ i, i + 1 < l.length → l.getD i [] < l.getD (i + 1) []) : l.Pairwise (fun a b => a < b) := by
  induction l with
  | nil => exact .nil
  | cons x l ih =>
    have hl : l.Pairwise (fun a b => a < b) := ih fun i hi => by have := h (i + 1) (by simp; omega); simpa only [List.getD_cons_succ] using this
    refine List.pairwise_cons.2 ⟨fun y hy => ?_, hl⟩
    cases l with
    | nil => simp at hy
    | cons z l =>
      have hz : x < z := by have := h 0 (by simp); simpa using this
      simp only [List.mem_cons] at hy
      rcases hy with rfl | hy
      · exact hz
      · exact List.lt_trans hz ((List.pairwise_cons.1 hl).1 y hy)
theorem nm_pw {l : List (List UInt8)} (h : nmOk l = true) : l.Pairwise (fun a b => a < b) := by
  refine order_pw fun i hi => ?_
  have := List.all_eq_true.1 h (i + 1) (List.mem_range.2 hi)
  simp only [nmAt, Bool.and_eq_true, Bool.or_eq_true, sLess_lt, decide_eq_true_eq, beq_iff_eq, Nat.add_sub_cancel] at this
  rcases this.2 with h0 | h0
  · omega
  · exact h0
theorem fmd_ok {t : Ty} (h : fmd t = true) : okN t ∧ okO t := by
  unfold fmd at h
  unfold okN okO
  split at h
  · rename_i hk
    have h' := of_decide_eq_true h
    refine ⟨⟨fun h4 => by omega, fun h5 => by omega⟩, fun _ _ => ⟨h'.2.1, List.eq_nil_of_length_eq_zero h'.2.2.1⟩⟩
  · split at h
    · have h' := of_decide_eq_true h
      refine ⟨⟨fun h4 => by omega, fun h5 => by omega⟩, fun _ _ => ⟨h'.1, List.eq_nil_of_length_eq_zero h'.2.1⟩⟩
    · split at h
      · have h' := of_decide_eq_true h
        refine ⟨⟨fun _ => h'.2.2.2, fun h5 => by omega⟩, fun _ _ => ⟨h'.2.1, List.eq_nil_of_length_eq_zero h'.2.2.1⟩⟩
      · split at h
        · refine ⟨⟨fun h4 => by omega, fun h5 => by omega⟩, fun _ h6 => by omega⟩
        · split at h
          · have h' := of_decide_eq_true h
            refine ⟨⟨fun h4 => by omega, fun _ => ⟨h'.2.2.2, nm_pw h'.1⟩⟩, fun h5 _ => by omega⟩
          · simp at h
theorem step_ok {s : VSt} {t : Ty} (h : (stepV s t).ok = true) : s.ok = true ∧ fmd t = true := by
  unfold stepV at h
  split at h
  · simpa using h
  · split at h
    · simp only [Bool.and_eq_true] at h; exact h.1
    · simpa using h
mutual
theorem vis_ok : ∀ (t : Ty) (s : VSt), (visV s t).ok = true → s.ok = true ∧ gd t ∧ gn t
  | .mk k x n l ks, s, h => by
    rw [visV] at h
    simp only [gd, gn]
    split at h
    · have h1 := step_ok h
      have h2 := visL_ok ks s h1.1
      exact ⟨h2.1, ⟨(fmd_ok h1.2).1, h2.2.1⟩, (fmd_ok h1.2).2, h2.2.2⟩
    · have h2 := visL_ok ks _ h
      have h1 := step_ok h2.1
      exact ⟨h1.1, ⟨(fmd_ok h1.2).1, h2.2.1⟩, (fmd_ok h1.2).2, h2.2.2⟩
theorem visL_ok : ∀ (l : List Ty) (s : VSt), (visVL s l).ok = true → s.ok = true ∧ gdL l ∧ gnL l
  | [], s, h => by simp only [visVL] at h; exact ⟨h, by simp [gdL], by simp [gnL]⟩
  | t :: l, s, h => by
    rw [visVL] at h
    have h2 := visL_ok l _ h
    have h1 := vis_ok t s h2.1
    simp only [gdL, gnL]
    exact ⟨h1.1, ⟨h1.2.1, h2.2.1⟩, h1.2.2, h2.2.2⟩
end
theorem valid_gd {t : Ty} (h : validB t = true) : gd t ∧ gn t := by
  unfold validB okL at h
  rw [Bool.and_eq_true] at h
  exact (vis_ok t _ h.1).2
end Go.Proofs.YtdikgijfekfaoaaGreatDoor
