/- What the rows of this seat read: types, lists of numbers, the listed tables. No condition. -/
import Derived.Test.YtdikgijfekfaoaaGreatDoorAbsc
import Derived.Test.YtdikgijfekfaoaaGreatDoorRows
import Derived.Test.YtdikgijfekfaoaaGreatDoorT1
import Derived.Test.YtdikgijfekfaoaaGreatDoorT8
import Derived.Lay
set_option linter.all false
set_option linter.unusedSimpArgs false
set_option linter.unusedVariables false
namespace Go.Proofs.YtdikgijfekfaoaaGreatDoor
open Go.Proofs.YtdikgijfekfaoaaGreatDoor.Abs

theorem knobs : ownKnob Tryz.prog.godebug = none := by kernel_rfl
theorem laysOut : laidOutB Tryz.prog = true := by kernel_rfl
def plainTs : List TypeId := [3, 4, 9, 22, 23, 25, 26, 206, 207]
theorem plain_ts : plainB Tryz.prog plainTs = true := by kernel_rfl

def laidL : List (String × DataW Unit) := Rows.typesFormsRow.laid
def kwD : String × DataW Unit := laidL.getD 6 ("", .nil)
def syD : String × DataW Unit := laidL.getD 7 ("", .nil)
theorem noHandles : laidL.filter (fun x => x.2.handleName?.isSome) = [] := by kernel_rfl
theorem kw_in : (kwD.1, kwD.2) ∈ laidL := List.mem_of_getElem? (i := 6) rfl
theorem sy_in : (syD.1, syD.2) ∈ laidL := List.mem_of_getElem? (i := 7) rfl
theorem kw_glob : Tryz.prog.globalNamed kwD.1 = some 4 := by kernel_rfl
theorem sy_glob : Tryz.prog.globalNamed syD.1 = some 5 := by kernel_rfl
theorem kw_type : (Tryz.prog.globals[4]?).map (·.type) = some 206 := by kernel_rfl
theorem sy_type : (Tryz.prog.globals[5]?).map (·.type) = some 207 := by kernel_rfl
theorem kw_cells : (dOf kwD.2).cells = kwCells := by kernel_rfl
theorem sy_cells : (dOf syD.2).cells = syCells := by kernel_rfl

/-- The tables, in a world that meets the row's list. -/
theorem tables {W : World} (hL : laidMetH Tryz.prog laidL W) : Globs cx (allI W) W := by
  intro g cs hg
  have hg' : (bif Nat.beq g 4 then some kwCells else bif Nat.beq g 5 then some syCells else none) = some cs := hg
  cases h4 : Nat.beq g 4 with
  | true =>
    rw [h4] at hg'
    simp only [cond_true, Option.some.injEq] at hg'
    subst hg'
    rw [Nat.eq_of_beq_eq_true h4, ← kw_cells]
    exact laid_glob noHandles hL kw_in kw_glob kw_type plain_ts rfl
  | false =>
    rw [h4] at hg'
    simp only [cond_false] at hg'
    cases h5 : Nat.beq g 5 with
    | true =>
      rw [h5] at hg'
      simp only [cond_true, Option.some.injEq] at hg'
      subst hg'
      rw [Nat.eq_of_beq_eq_true h5, ← sy_cells]
      exact laid_glob noHandles hL sy_in sy_glob sy_type plain_ts rfl
    | false => rw [h5] at hg'; simp at hg'

theorem strs_of {H : Type} : ∀ {elems : List (DataW H)}, (∀ (i : Nat) x, elems[i]? = some x → ∃ s, x = .lit (.string s)) → ∃ l : List (List UInt8), dOfL elems = l.map .str ∧ szS l = Rows.uptoBulkAll elems
  | [], _ => ⟨[], rfl, rfl⟩
  | x :: r, h => by
    obtain ⟨s, rfl⟩ := h 0 x rfl
    obtain ⟨l, h1, h2⟩ := strs_of (elems := r) (fun i y hy => h (i + 1) y (by simpa using hy))
    exact ⟨s :: l, by simp [dOfL, dOf, h1], by simp [szS, Rows.uptoBulkAll, Rows.uptoBulk, h2]⟩
theorem tys_of {H : Type} : ∀ {elems : List (DataW H)}, (∀ (i : Nat) x, elems[i]? = some x → ∃ t : Ty, dOf x = t.enc ∧ t.sz + 1 ≤ Rows.uptoBulk x) → ∃ l : List Ty, dOfL elems = l.map Ty.enc ∧ Ty.szL l ≤ Rows.uptoBulkAll elems
  | [], _ => ⟨[], rfl, Nat.le_refl _⟩
  | x :: r, h => by
    obtain ⟨t, h1, h2⟩ := h 0 x rfl
    obtain ⟨l, h3, h4⟩ := tys_of (elems := r) (fun i y hy => h (i + 1) y (by simpa using hy))
    exact ⟨t :: l, by simp [dOfL, h1, h3], by simp only [Ty.szL, Rows.uptoBulkAll]; omega⟩

theorem ints_list {H : Type} : ∀ {elems : List (DataW H)}, (∀ (i : Nat) x, elems[i]? = some x → ∃ n, x = .lit (.int .i64 n) ∧ -9223372036854775808 ≤ n ∧ n ≤ 9223372036854775807) → ∃ l : List Int, dOfL elems = l.map (.int .i64) ∧ i64L l ∧ l.length ≤ Rows.uptoBulkAll elems
  | [], _ => ⟨[], rfl, by simp [i64L], Nat.le_refl _⟩
  | x :: r, key => by
    obtain ⟨n, rfl, hn⟩ := key 0 x rfl
    obtain ⟨l, h1, h2, h3⟩ := ints_list (elems := r) (fun i y hy => key (i + 1) y (by simpa using hy))
    refine ⟨n :: l, by simp [dOfL, dOf, h1], ?_, by simp [Rows.uptoBulkAll, Rows.uptoBulk]; omega⟩
    intro y hy
    simp only [List.mem_cons] at hy
    rcases hy with rfl | hy
    · exact hn
    · exact h2 y hy

section
variable {H : Type} {enc : TypeId × Value → H} {w : World} {sp : Nat → Bool} {held : Bool}

theorem names_of {fuel : Nat} {cs : List Value} {d : DataW H} {ps : List MemPlace} (h : DataW.trod enc Tryz.prog w 0 sp held fuel 22 cs = some (d, ps)) : ∃ l : List (List UInt8), dOf d = .imm (l.map .str) ∧ szS l + 1 ≤ Rows.uptoBulk d := by
  cases fuel with
  | zero => simp [DataW.trod] at h
  | succ fuel =>
    rcases trod_slice Tryz.underlying22 h with ⟨_, rfl⟩ | ⟨a, len, cap, elems, spare, _, rfl, _, _, hel⟩
    · exact ⟨[], rfl, by simp [szS, Rows.uptoBulk]⟩
    · obtain ⟨l, h1, h2⟩ := strs_of (elems := elems) (fun i x hx => by
        obtain ⟨cs', ps', _, q⟩ := hel i x hx
        cases fuel with
        | zero => simp [DataW.trod] at q
        | succ fuel =>
          obtain ⟨s, _, rfl⟩ := trod_string Tryz.underlying9 q
          exact ⟨_, rfl⟩)
      exact ⟨l, by simp [dOf, h1], by simp only [Rows.uptoBulk]; omega⟩

theorem ints_of {fuel : Nat} {cs : List Value} {d : DataW H} {ps : List MemPlace} (h : DataW.trod enc Tryz.prog w 0 sp held fuel 26 cs = some (d, ps)) : ∃ l : List Int, dOf d = .imm (l.map (.int .i64)) ∧ i64L l ∧ l.length + 1 ≤ Rows.uptoBulk d := by
  cases fuel with
  | zero => simp [DataW.trod] at h
  | succ fuel =>
    rcases trod_slice Tryz.underlying26 h with ⟨_, rfl⟩ | ⟨a, len, cap, elems, spare, _, rfl, _, _, hel⟩
    · exact ⟨[], rfl, by simp [i64L], by simp [Rows.uptoBulk]⟩
    · have key : ∀ (i : Nat) x, elems[i]? = some x → ∃ n, x = .lit (.int .i64 n) ∧ -9223372036854775808 ≤ n ∧ n ≤ 9223372036854775807 := fun i x hx => by
        obtain ⟨cs', ps', _, q⟩ := hel i x hx
        cases fuel with
        | zero => simp [DataW.trod] at q
        | succ fuel =>
          obtain ⟨n, _, rfl, hw⟩ := trod_int Tryz.underlying3 q
          refine ⟨n, rfl, ?_⟩
          simpa [Lit.wf, IntKind.min, IntKind.max, IntKind.signed, IntKind.bits] using hw
      obtain ⟨l, h1, h2, h3⟩ := ints_list key
      exact ⟨l, by simp [dOf, h1], h2, by simp only [Rows.uptoBulk]; omega⟩

set_option maxRecDepth 100000 in
theorem ty_of : ∀ (fuel : Nat) (cs : List Value) (d : DataW H) (ps : List MemPlace), DataW.trod enc Tryz.prog w 0 sp held fuel 25 cs = some (d, ps) → ∃ t : Ty, dOf d = t.enc ∧ t.sz + 1 ≤ Rows.uptoBulk d
  | 0, cs, d, ps, h => by simp [DataW.trod] at h
  | 1, cs, d, ps, h => by
    obtain ⟨parts, _, _, _, hel⟩ := trod_struct Tryz.underlying25 h
    obtain ⟨x, ps', _, q⟩ := hel 0 _ rfl
    simp [DataW.trod] at q
  | fuel + 2, cs, d, ps, h => by
    obtain ⟨parts, rfl, _, hlen, hel⟩ := trod_struct Tryz.underlying25 h
    obtain ⟨x0, _, p0, q0⟩ := hel 0 _ rfl
    obtain ⟨x1, _, p1, q1⟩ := hel 1 _ rfl
    obtain ⟨x2, _, p2, q2⟩ := hel 2 _ rfl
    obtain ⟨x3, _, p3, q3⟩ := hel 3 _ rfl
    obtain ⟨x4, _, p4, q4⟩ := hel 4 _ rfl
    have hp : parts = [x0, x1, x2, x3, x4] := by
      match parts, hlen with
      | [a, b, c, d, e], _ => simp at p0 p1 p2 p3 p4; rw [p0, p1, p2, p3, p4]
    obtain ⟨k, _, rfl, _⟩ := trod_int Tryz.underlying3 q0
    obtain ⟨s, _, rfl⟩ := trod_string Tryz.underlying9 q1
    obtain ⟨n, _, rfl, _⟩ := trod_int Tryz.underlying3 q2
    obtain ⟨l, h3, b3⟩ := names_of q3
    have kids : ∃ ks : List Ty, dOf x4 = .imm (ks.map Ty.enc) ∧ Ty.szL ks + 1 ≤ Rows.uptoBulk x4 := by
      rcases trod_slice Tryz.underlying23 q4 with ⟨_, rfl⟩ | ⟨a, len, cap, elems, spare, _, rfl, _, _, hk⟩
      · exact ⟨[], rfl, by simp [Ty.szL, Rows.uptoBulk]⟩
      · obtain ⟨ks, h1, h2⟩ := tys_of (elems := elems) (fun i x hx => by
          obtain ⟨cs', ps', _, q⟩ := hk i x hx
          exact ty_of fuel cs' x ps' q)
        exact ⟨ks, by simp [dOf, h1], by simp only [Rows.uptoBulk]; omega⟩
    obtain ⟨ks, h4, b4⟩ := kids
    refine ⟨.mk k s.data.toList n l ks, ?_, ?_⟩
    · subst hp
      rw [Ty.enc_v]
      simp [dOf, dOfC, h3, h4, AVal.cells, Ty.v, Ty.kind, Ty.name, Ty.n, Ty.names, Ty.kids]
    · subst hp
      simp only [Rows.uptoBulk, Rows.uptoBulkAll, Ty.sz]
      omega
end

theorem readable (t : TypeId) (h : ([25, 26, 3] : List TypeId).contains t = true) : Tryz.prog.readableRec t = true ∧ t < Tryz.prog.types.size := by
  simp at h
  rcases h with rfl | rfl | rfl
  · exact ⟨by kernel_rfl, of_decide_eq_true (by kernel_rfl)⟩
  · exact ⟨by kernel_rfl, of_decide_eq_true (by kernel_rfl)⟩
  · exact ⟨by kernel_rfl, of_decide_eq_true (by kernel_rfl)⟩

/-- A world for the witness: the listed variables laid. -/
noncomputable def laidW (os : Os) : World := World.laidAll Tryz.prog os laidL
theorem laidW_met (os : Os) (args : Array Value) : laidMet Tryz.prog laidL ((laidW os).forCall (fun _ _ => 0) ⟨#[], args, []⟩).memory := laidMet_laidAll _ (by kernel_rfl) (by kernel_rfl)
/-- The zero type, as a value. -/
def zeroV : Value := .agg #[.int .i64 0, .string ⟨#[]⟩, .int .i64 0, .slice none 0 0, .slice none 0 0]
end Go.Proofs.YtdikgijfekfaoaaGreatDoor
