/- What the row of TypesStorable reads: lists of sums. No condition. -/
import Derived.Test.YtdikgijfekfaoaaGreatDoorR3
import Derived.Test.YtdikgijfekfaoaaGreatDoorU1
set_option linter.all false
set_option linter.unusedSimpArgs false
set_option linter.unusedVariables false
namespace Go.Proofs.YtdikgijfekfaoaaGreatDoor
open Go.Proofs.YtdikgijfekfaoaaGreatDoor.Abs
def plainSs : List TypeId := [3, 4, 9, 22, 23, 25, 26, 41, 44, 45, 47]
theorem plain_ss : plainB Tryz.prog plainSs = true := by kernel_rfl

section
variable {H : Type}
/-- A list of things, each read by its own. -/
theorem list_of {α : Type} {enc : α → AVal} {p : α → Nat → Prop} (hp : ∀ a n m, p a n → n ≤ m → p a m) : ∀ {elems : List (DataW H)}, (∀ (i : Nat) x, elems[i]? = some x → ∃ a : α, dOf x = enc a ∧ p a (Rows.uptoBulk x)) →
    ∃ l : List α, dOfL elems = l.map enc ∧ (∀ a ∈ l, p a (Rows.uptoBulkAll elems)) ∧ l.length ≤ Rows.uptoBulkAll elems
  | [], _ => ⟨[], rfl, by simp, Nat.le_refl _⟩
  | x :: r, h => by
    obtain ⟨a, h1, h2⟩ := h 0 x rfl
    obtain ⟨l, h3, h4, h5⟩ := list_of hp (elems := r) (fun i y hy => h (i + 1) y (by simpa using hy))
    have h1' : 1 ≤ Rows.uptoBulk x := by
      cases x with
      | lit l => cases l <;> simp [Rows.uptoBulk]
      | _ => simp [Rows.uptoBulk]
    refine ⟨a :: l, by simp [dOfL, h1, h3], ?_, by simp only [List.length_cons, Rows.uptoBulkAll]; omega⟩
    intro b hb
    simp only [List.mem_cons] at hb
    rcases hb with rfl | hb
    · exact hp _ _ _ h2 (by simp only [Rows.uptoBulkAll]; omega)
    · exact hp _ _ _ (h4 b hb) (by simp only [Rows.uptoBulkAll]; omega)
variable {enc : TypeId × Value → H} {w : World} {sp : Nat → Bool} {held : Bool}
/-- A slice of things, each read by its own. -/
theorem slice_of {α : Type} {e' : α → AVal} {p : α → Nat → Prop} (hp : ∀ a n m, p a n → n ≤ m → p a m) {t e : TypeId} (ht : Tryz.prog.underlying t = some (.slice e)) {fuel : Nat} {cs : List Value} {d : DataW H} {ps : List MemPlace} (h : DataW.trod enc Tryz.prog w 0 sp held fuel t cs = some (d, ps))
    (he : ∀ fuel cs x ps, DataW.trod enc Tryz.prog w 0 sp held fuel e cs = some (x, ps) → ∃ a : α, dOf x = e' a ∧ p a (Rows.uptoBulk x)) : ∃ l : List α, dOf d = .imm (l.map e') ∧ (∀ a ∈ l, p a (Rows.uptoBulk d)) ∧ l.length + 1 ≤ Rows.uptoBulk d := by
  cases fuel with
  | zero => simp [DataW.trod] at h
  | succ fuel =>
    rcases trod_slice ht h with ⟨_, rfl⟩ | ⟨a, len, cap, elems, spare, _, rfl, _, _, hel⟩
    · exact ⟨[], rfl, by simp, by simp [Rows.uptoBulk]⟩
    · obtain ⟨l, h1, h2, h3⟩ := list_of hp (enc := e') (elems := elems) (fun i x hx => by
        obtain ⟨cs', ps', _, q⟩ := hel i x hx
        exact he _ _ _ _ q)
      refine ⟨l, by simp [dOf, h1], fun a ha => hp _ _ _ (h2 a ha) (by simp only [Rows.uptoBulk]; omega), by simp only [Rows.uptoBulk]; omega⟩

set_option maxRecDepth 100000 in
theorem ct_of (fuel : Nat) (cs : List Value) (d : DataW H) (ps : List MemPlace) (h : DataW.trod enc Tryz.prog w 0 sp held fuel 44 cs = some (d, ps)) : ∃ c : Ct, dOf d = c.v ∧ c.arg.sz ≤ Rows.uptoBulk d := by
  match fuel, h with
  | 0, h => simp [DataW.trod] at h
  | 1, h =>
    obtain ⟨parts, _, _, _, hel⟩ := trod_struct Tryz.underlying44 h
    obtain ⟨x, ps', _, q⟩ := hel 0 _ rfl
    simp [DataW.trod] at q
  | fuel + 2, h =>
    obtain ⟨parts, rfl, _, hlen, hel⟩ := trod_struct Tryz.underlying44 h
    obtain ⟨x0, _, p0, q0⟩ := hel 0 _ rfl
    obtain ⟨x1, _, p1, q1⟩ := hel 1 _ rfl
    obtain ⟨x2, _, p2, q2⟩ := hel 2 _ rfl
    have hp : parts = [x0, x1, x2] := by
      match parts, hlen with
      | [a, b, c], _ => simp at p0 p1 p2; rw [p0, p1, p2]
    obtain ⟨s, _, rfl⟩ := trod_string Tryz.underlying9 q0
    obtain ⟨b, _, rfl⟩ := trod_bool Tryz.underlying4 q1
    obtain ⟨t, e2, b2⟩ := ty_of _ _ _ _ q2
    refine ⟨⟨s.data.toList, b, t⟩, ?_, ?_⟩
    · subst hp
      simp only [dOf, dOfC, e2, ty_cells]
      simp [AVal.cells, Ct.v]
    · subst hp
      simp only [Rows.uptoBulk, Rows.uptoBulkAll]
      omega

def suOk (s : Su) (n : Nat) : Prop := s.ctors.length ≤ n ∧ ∀ c ∈ s.ctors, c.arg.sz ≤ n
set_option maxRecDepth 100000 in
theorem su_of (fuel : Nat) (cs : List Value) (d : DataW H) (ps : List MemPlace) (h : DataW.trod enc Tryz.prog w 0 sp held fuel 47 cs = some (d, ps)) : ∃ s : Su, dOf d = s.v ∧ suOk s (Rows.uptoBulk d) := by
  match fuel, h with
  | 0, h => simp [DataW.trod] at h
  | 1, h =>
    obtain ⟨parts, _, _, _, hel⟩ := trod_struct Tryz.underlying47 h
    obtain ⟨x, ps', _, q⟩ := hel 0 _ rfl
    simp [DataW.trod] at q
  | fuel + 2, h =>
    obtain ⟨parts, rfl, _, hlen, hel⟩ := trod_struct Tryz.underlying47 h
    obtain ⟨x0, _, p0, q0⟩ := hel 0 _ rfl
    obtain ⟨x1, _, p1, q1⟩ := hel 1 _ rfl
    have hp : parts = [x0, x1] := by
      match parts, hlen with
      | [a, b], _ => simp at p0 p1; rw [p0, p1]
    obtain ⟨s, _, rfl⟩ := trod_string Tryz.underlying9 q0
    obtain ⟨l, e1, b1, b2⟩ := slice_of (e' := Ct.v) (p := fun (c : Ct) n => c.arg.sz ≤ n) (fun _ _ _ h1 h2 => Nat.le_trans h1 h2) Tryz.underlying45 q1 ct_of
    refine ⟨⟨s.data.toList, l⟩, ?_, ?_, ?_⟩
    · subst hp
      simp [dOf, dOfC, e1, AVal.cells, Su.v]
    · subst hp
      simp only [Rows.uptoBulk, Rows.uptoBulkAll]
      omega
    · intro c hc
      have := b1 c hc
      subst hp
      simp only [Rows.uptoBulk, Rows.uptoBulkAll]
      omega

theorem sus_of {fuel : Nat} {cs : List Value} {d : DataW H} {ps : List MemPlace} (h : DataW.trod enc Tryz.prog w 0 sp held fuel 41 cs = some (d, ps)) (hb : Rows.uptoBulk d ≤ 1048576) : ∃ l : List Su, dOf d = .imm (l.map Su.v) ∧ okS l := by
  obtain ⟨l, h1, h2, h3⟩ := slice_of (e' := Su.v) (p := suOk) (fun _ _ _ q1 q2 => ⟨Nat.le_trans q1.1 q2, fun c hc => Nat.le_trans (q1.2 c hc) q2⟩) Tryz.underlying41 h su_of
  have hz : okC Su.zero.ctors := ⟨by decide, fun j => by simp [Su.zero, Ct.zero, Ty.zero, Ty.sz, szS, Ty.szL]⟩
  refine ⟨l, h1, by omega, fun i => ?_⟩
  by_cases hi : i < l.length
  · rw [List.getD_eq_getElem?_getD, List.getElem?_eq_getElem hi]
    obtain ⟨g1, g2⟩ := h2 l[i] (List.getElem_mem hi)
    refine ⟨by show l[i].ctors.length < _; omega, fun j => ?_⟩
    show (l[i].ctors.getD j Ct.zero).arg.sz < _
    by_cases hj : j < l[i].ctors.length
    · rw [List.getD_eq_getElem?_getD, List.getElem?_eq_getElem hj]
      have := g2 _ (List.getElem_mem hj)
      show (l[i].ctors[j]).arg.sz < _
      omega
    · rw [List.getD_eq_getElem?_getD, List.getElem?_eq_none (by omega)]; exact hz.2 0
  · rw [List.getD_eq_getElem?_getD, List.getElem?_eq_none (by omega)]; exact hz
end
theorem readable_ss (t : TypeId) (h : ([41, 25, 26] : List TypeId).contains t = true) : Tryz.prog.readableRec t = true ∧ t < Tryz.prog.types.size := by
  simp at h
  rcases h with rfl | rfl | rfl
  · exact ⟨by kernel_rfl, of_decide_eq_true (by kernel_rfl)⟩
  · exact ⟨by kernel_rfl, of_decide_eq_true (by kernel_rfl)⟩
  · exact ⟨by kernel_rfl, of_decide_eq_true (by kernel_rfl)⟩
end Go.Proofs.YtdikgijfekfaoaaGreatDoor
