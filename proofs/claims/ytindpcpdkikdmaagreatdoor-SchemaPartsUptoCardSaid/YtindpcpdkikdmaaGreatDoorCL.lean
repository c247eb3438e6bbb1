/- How great the generators' types and schemas are. No condition. -/
import Derived.Test.YtindpcpdkikdmaaGreatDoorCJ
set_option linter.all false
namespace Go.Proofs.YtindpcpdkikdmaaGreatDoor
open Go.Proofs.YtindpcpdkikdmaaGreatDoor.Abs
/-- A schema of the size that the generators make. -/
def Tb.fine (t : Tb) : Prop := (0 < t.cols.length ∧ t.cols.length ≤ 4) ∧ (∀ c ∈ t.cols, c.type.sz ≤ 20) ∧ t.key.length ≤ 3 ∧ t.refs.length ≤ 3 ∧ t.chk.sz ≤ 100
def Sm.fine (s : Sm) : Prop := s.ctors.length ≤ 3 ∧ ∀ c ∈ s.ctors, c.arg.sz ≤ 20
def Sc.fine (s : Sc) : Prop := (0 < s.sums.length ∧ s.sums.length ≤ 3) ∧ (∀ x ∈ s.sums, x.fine) ∧ (0 < s.tabs.length ∧ s.tabs.length ≤ 3) ∧ ∀ x ∈ s.tabs, x.fine
theorem sumsL_fine : ∀ x ∈ sumsL, x.fine := by
  intro x hx
  simp only [sumsL, List.mem_cons, List.not_mem_nil, or_false] at hx
  rcases hx with rfl | rfl <;> refine ⟨by decide, fun c hc => ?_⟩ <;> simp only [List.mem_cons, List.not_mem_nil, or_false] at hc <;> rcases hc with rfl | rfl <;> decide
theorem idsL_sz (i : Nat) : (idsL.getD i Ty.zero).sz ≤ 20 := by
  match i with
  | 0 => decide
  | 1 => decide
  | i + 2 => simp [idsL, Ty.zero, Ty.sz, szS, Ty.szL]
theorem plC0_sz (l : List Int) : ∀ c ∈ plC0 l, c.type.sz ≤ 20 := by
  intro c hc
  simp only [plC0, List.mem_cons, List.not_mem_nil, or_false] at hc
  rcases hc with rfl | rfl | rfl
  · exact idsL_sz _
  · decide
  · decide
theorem plC_sz (l : List Int) : ∀ c ∈ plC l, c.type.sz ≤ 20 := by
  intro c hc
  unfold plC at hc
  split at hc
  · simp only [List.mem_append, List.mem_cons, List.not_mem_nil, or_false] at hc
    rcases hc with h | rfl
    · exact plC0_sz l c h
    · decide
  · exact plC0_sz l c hc
theorem plC_len (l : List Int) : (plC l).length ≤ 4 := by unfold plC plC0; split <;> simp
theorem plT_fine (l : List Int) : (plT l).fine := ⟨⟨Nat.lt_of_lt_of_le (by decide) (plC_pos l), plC_len l⟩, plC_sz l, (by decide : 1 ≤ 3), (by decide : 0 ≤ 3), (by decide : (litX 2 1).sz ≤ 100)⟩
theorem itC_sz (l : List Int) : ∀ c ∈ itC l, c.type.sz ≤ 20 := by
  intro c hc
  simp only [itC, List.mem_cons, List.not_mem_nil, or_false] at hc
  rcases hc with rfl | rfl | rfl | rfl
  · decide
  · decide
  · exact plC_sz l ((plC l).getD 0 Co.zero) (getD_mem (plC l) Co.zero 0 (Nat.lt_of_lt_of_le (by decide) (plC_pos l)))
  · decide
theorem itX_sz (l : List Int) : (itX l).sz ≤ 100 := by unfold itX; split <;> decide
theorem itR_len (l : List Int) : (itR l).length ≤ 3 := by unfold itR; split <;> decide
theorem itT_fine (l : List Int) (r : List Rf) (h : r.length ≤ 3) : (itT l r).fine := ⟨⟨(by decide : 0 < 4), (by decide : 4 ≤ 4)⟩, itC_sz l, (by decide : 1 ≤ 3), h, itX_sz l⟩
theorem shT_fine (l : List Int) : (shT l).fine := by
  refine ⟨⟨(by decide : 0 < 3), (by decide : 3 ≤ 4)⟩, fun c hc => ?_, ?_, ?_, (by decide : (litX 2 1).sz ≤ 100)⟩
  · simp only [shT, shC, List.mem_cons, List.not_mem_nil, or_false] at hc
    rcases hc with rfl | rfl | rfl <;> decide
  · show (shK l).length ≤ 3; unfold shK; split <;> decide
  · show (shR l).length ≤ 3; unfold shR; split <;> decide
theorem scOf_fine (l : List Int) : (scOf l).fine := by
  unfold scOf
  split
  · refine ⟨⟨(by decide : 0 < 2), (by decide : 2 ≤ 3)⟩, sumsL_fine, ⟨(by decide : 0 < 1), (by decide : 1 ≤ 3)⟩, fun x hx => ?_⟩
    simp only [List.mem_cons, List.not_mem_nil, or_false] at hx
    subst hx; exact itT_fine l [] (by decide)
  · split
    · refine ⟨⟨(by decide : 0 < 2), (by decide : 2 ≤ 3)⟩, sumsL_fine, ⟨(by decide : 0 < 2), (by decide : 2 ≤ 3)⟩, fun x hx => ?_⟩
      simp only [List.mem_cons, List.not_mem_nil, or_false] at hx
      rcases hx with rfl | rfl
      · exact itT_fine l _ (itR_len l)
      · exact plT_fine l
    · refine ⟨⟨(by decide : 0 < 2), (by decide : 2 ≤ 3)⟩, sumsL_fine, ⟨(by decide : 0 < 3), (by decide : 3 ≤ 3)⟩, fun x hx => ?_⟩
      simp only [List.mem_cons, List.not_mem_nil, or_false] at hx
      rcases hx with rfl | rfl | rfl
      · exact itT_fine l _ (itR_len l)
      · exact plT_fine l
      · exact shT_fine l
theorem Sm.fine_sm {s : Sm} (h : s.fine) : s.sm := ⟨Nat.lt_of_le_of_lt h.1 (by decide), fun c hc => Nat.lt_of_le_of_lt (h.2 c hc) (by decide)⟩
theorem Tb.fine_sm {t : Tb} (h : t.fine) : t.sm := ⟨Nat.lt_of_le_of_lt h.1.2 (by decide), fun c hc => Nat.lt_of_le_of_lt (h.2.1 c hc) (by decide), Nat.lt_of_le_of_lt h.2.2.1 (by decide), Nat.lt_of_le_of_lt h.2.2.2.1 (by decide), Nat.lt_of_le_of_lt h.2.2.2.2 (by decide)⟩
theorem Sc.fine_sm {s : Sc} (h : s.fine) : s.sm := ⟨Nat.lt_of_le_of_lt h.1.2 (by decide), fun x hx => Sm.fine_sm (h.2.1 x hx), Nat.lt_of_le_of_lt h.2.2.1.2 (by decide), fun x hx => Tb.fine_sm (h.2.2.2 x hx)⟩
end Go.Proofs.YtindpcpdkikdmaaGreatDoor
