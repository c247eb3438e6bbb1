/- What the rows of this seat read: lists of numbers, the listed tables. No condition. -/
import Derived.Test.YtindpcpdkikdmaaGreatDoorAbsc
import Derived.Test.YtindpcpdkikdmaaGreatDoorRows
import Derived.Test.YtindpcpdkikdmaaGreatDoorS1
import Derived.Test.YtindpcpdkikdmaaGreatDoorCE
import Derived.Lay
set_option linter.all false
namespace Go.Proofs.YtindpcpdkikdmaaGreatDoor
open Go.Proofs.YtindpcpdkikdmaaGreatDoor.Abs

theorem knobs : ownKnob Tryz.prog.godebug = none := by kernel_rfl
theorem laysOut : laidOutB Tryz.prog = true := by kernel_rfl
def plainTs : List TypeId := [3, 4, 9, 22, 266, 267]
theorem plain_ts : plainB Tryz.prog plainTs = true := by kernel_rfl

def laidL : List (String × DataW Unit) := Rows.schemaEqualRow.laid
def kwD : String × DataW Unit := laidL.getD 6 ("", .nil)
def syD : String × DataW Unit := laidL.getD 7 ("", .nil)
theorem noHandles : laidL.filter (fun x => x.2.handleName?.isSome) = [] := by kernel_rfl
theorem kw_in : (kwD.1, kwD.2) ∈ laidL := List.mem_of_getElem? (i := 6) rfl
theorem sy_in : (syD.1, syD.2) ∈ laidL := List.mem_of_getElem? (i := 7) rfl
theorem kw_glob : Tryz.prog.globalNamed kwD.1 = some 5 := by kernel_rfl
theorem sy_glob : Tryz.prog.globalNamed syD.1 = some 6 := by kernel_rfl
theorem kw_type : (Tryz.prog.globals[5]?).map (·.type) = some 266 := by kernel_rfl
theorem sy_type : (Tryz.prog.globals[6]?).map (·.type) = some 267 := by kernel_rfl
theorem kw_cells : (dOf kwD.2).cells = kwCells := by kernel_rfl
theorem sy_cells : (dOf syD.2).cells = syCells := by kernel_rfl

/-- The tables, in a world that meets the row's list. -/
theorem tables {W : World} (hL : laidMetH Tryz.prog laidL W) : Globs cx (allI W) W := by
  intro g cs hg
  have hg' : (bif Nat.beq g 5 then some kwCells else bif Nat.beq g 6 then some syCells else none) = some cs := hg
  cases h5 : Nat.beq g 5 with
  | true =>
    rw [h5] at hg'
    simp only [cond_true, Option.some.injEq] at hg'
    subst hg'
    rw [Nat.eq_of_beq_eq_true h5, ← kw_cells]
    exact laid_glob noHandles hL kw_in kw_glob kw_type plain_ts rfl
  | false =>
    rw [h5] at hg'
    simp only [cond_false] at hg'
    cases h6 : Nat.beq g 6 with
    | true =>
      rw [h6] at hg'
      simp only [cond_true, Option.some.injEq] at hg'
      subst hg'
      rw [Nat.eq_of_beq_eq_true h6, ← sy_cells]
      exact laid_glob noHandles hL sy_in sy_glob sy_type plain_ts rfl
    | false => rw [h6] at hg'; simp at hg'

theorem ints_list {H : Type} : ∀ {elems : List (DataW H)}, (∀ (i : Nat) x, elems[i]? = some x → ∃ n, x = .lit (.int .i64 n) ∧ -9223372036854775808 ≤ n ∧ n ≤ 9223372036854775807) → ∃ l : List Int, dOfL elems = l.map (.int .i64) ∧ i64L l ∧ l.length ≤ Rows.uptoBulkAll elems
  | [], _ => ⟨[], rfl, by simp [i64L], Nat.le_refl _⟩
  | x :: r, key => by
    obtain ⟨n, rfl, hn⟩ := key 0 x rfl
    obtain ⟨l, h1, h2, h3⟩ := ints_list (elems := r) (fun i y hy => key (i + 1) y (by simpa using hy))
    refine ⟨n :: l, by simp [dOfL, dOf, h1], ?_, by simp [Rows.uptoBulkAll, Rows.uptoBulk]; omega⟩
    intro y hy
    simp only [List.mem_cons] at hy
    rcases hy with rfl | hy
    · exact hn
    · exact h2 y hy

section
variable {H : Type} {enc : TypeId × Value → H} {w : World} {sp : Nat → Bool} {held : Bool}

theorem ints_of {fuel : Nat} {cs : List Value} {d : DataW H} {ps : List MemPlace} (h : DataW.trod enc Tryz.prog w 0 sp held fuel 22 cs = some (d, ps)) : ∃ l : List Int, dOf d = .imm (l.map (.int .i64)) ∧ i64L l ∧ l.length + 1 ≤ Rows.uptoBulk d := by
  cases fuel with
  | zero => simp [DataW.trod] at h
  | succ fuel =>
    rcases trod_slice Tryz.underlying22 h with ⟨_, rfl⟩ | ⟨a, len, cap, elems, spare, _, rfl, _, _, hel⟩
    · exact ⟨[], rfl, by simp [i64L], by simp [Rows.uptoBulk]⟩
    · have key : ∀ (i : Nat) x, elems[i]? = some x → ∃ n, x = .lit (.int .i64 n) ∧ -9223372036854775808 ≤ n ∧ n ≤ 9223372036854775807 := fun i x hx => by
        obtain ⟨cs', ps', _, q⟩ := hel i x hx
        cases fuel with
        | zero => simp [DataW.trod] at q
        | succ fuel =>
          obtain ⟨n, _, rfl, hw⟩ := trod_int Tryz.underlying3 q
          refine ⟨n, rfl, ?_⟩
          simpa [Lit.wf, IntKind.min, IntKind.max, IntKind.signed, IntKind.bits] using hw
      obtain ⟨l, h1, h2, h3⟩ := ints_list key
      exact ⟨l, by simp [dOf, h1], h2, by simp only [Rows.uptoBulk]; omega⟩

theorem str_of {fuel : Nat} {cs : List Value} {d : DataW H} {ps : List MemPlace} (h : DataW.trod enc Tryz.prog w 0 sp held fuel 9 cs = some (d, ps)) : ∃ s : List UInt8, dOf d = .str s ∧ s.length + 1 ≤ Rows.uptoBulk d + 1 := by
  cases fuel with
  | zero => simp [DataW.trod] at h
  | succ fuel =>
    obtain ⟨s, _, rfl⟩ := trod_string Tryz.underlying9 h
    exact ⟨s.data.toList, rfl, by simp [Rows.uptoBulk]⟩
end

theorem readable (t : TypeId) (h : ([22, 9, 3] : List TypeId).contains t = true) : Tryz.prog.readableRec t = true ∧ t < Tryz.prog.types.size := by
  simp at h
  rcases h with rfl | rfl | rfl
  · exact ⟨by kernel_rfl, of_decide_eq_true (by kernel_rfl)⟩
  · exact ⟨by kernel_rfl, of_decide_eq_true (by kernel_rfl)⟩
  · exact ⟨by kernel_rfl, of_decide_eq_true (by kernel_rfl)⟩

/-- A world for the witness: the listed variables laid. -/
noncomputable def laidW (os : Os) : World := World.laidAll Tryz.prog os laidL
theorem laidW_met (os : Os) (args : Array Value) : laidMet Tryz.prog laidL ((laidW os).forCall (fun _ _ => 0) ⟨#[], args, []⟩).memory := laidMet_laidAll _ (by kernel_rfl) (by kernel_rfl)
end Go.Proofs.YtindpcpdkikdmaaGreatDoor
