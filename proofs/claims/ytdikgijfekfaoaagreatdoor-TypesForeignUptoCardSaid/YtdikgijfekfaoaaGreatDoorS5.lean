/- strings.IndexAny of a quote or a line feed in whatever text. Condition: the text is shorter than 1000000000 bytes. -/
import Derived.Test.YtdikgijfekfaoaaGreatDoorL1
import Derived.Test.YtdikgijfekfaoaaGreatDoorShelf
import Derived.Test.YtdikgijfekfaoaaGreatDoorS
import Derived.Test.YtdikgijfekfaoaaGreatDoorAbsc
import Derived.Shelf.Strings.IndexAnyAll
set_option linter.all false
set_option linter.unusedSimpArgs false
set_option linter.unusedVariables false
namespace Go.Proofs.YtdikgijfekfaoaaGreatDoor
open Go.Proofs.YtdikgijfekfaoaaGreatDoor.Abs Go.RowKit

theorem qIdx_any : ∀ s : List UInt8, Lib.indexAny s [34, 10] = qIdx s
  | [] => rfl
  | c :: s => by
    have ih := qIdx_any s
    have hq : ([34, 10] : List UInt8).contains c = isQ c := by simp only [isQ, List.contains_cons, List.contains_nil, Bool.or_false]
    rw [Lib.indexAny, hq, ih]
    unfold qIdx
    rw [List.findIdx?_cons]
    cases hc : isQ c with
    | true => simp
    | false =>
      simp only [Bool.false_eq_true, if_false]
      cases s.findIdx? isQ with
      | none => rfl
      | some n => simp

theorem set153 : (Tryz.prog.info? (Tryz.lays153_ren.t 116)).map (fun i => (i.zero, i.size)) = some (some (.agg (Array.replicate 256 (.bool false))), 256) := by kernel_rfl
theorem indexAny_any (s : ByteArray) (w : World) (hs : s.size < 1000000000) :
    Calls Tryz.prog 152 #[.string s, .string qnl] w fun e w' => e = .returned (.int .i64 (Lib.indexAny s.data.toList qnl.data.toList)) ∧ Below w.heap.size w w' := by
  by_cases h8 : s.size ≤ 8
  · exact indexAny_short Tryz.lays153 s w h8
  · refine (Any.strings_IndexAny_long Tryz.lays153 (zero_of_info set153).1 (zero_of_info set153).2 s qnl w (by decide) (by omega) (by omega) (by decide) ?_).mono fun e w' ⟨h1, h2⟩ => ⟨h1, ?_⟩
    · intro j b hb
      match j with
      | 0 => simp [qnl] at hb; subst hb; decide
      | 1 => simp [qnl] at hb; subst hb; decide
      | j + 2 => simp [qnl] at hb
    · rw [h2]
      exact ((Below.refl _ _).alloc (Nat.le_refl _) _).alloc (by simp) _

theorem indexAny_spec (s : List UInt8) (hs : s.length < 1000000000) : CallsP cx 152 [.str s, .str [34, 10]] (.int .i64 (qIdx s)) := by
  refine CallsP_of_below (cv := .int .i64 (qIdx s)) ⟨_, Tryz.func152, rfl, rfl⟩ rfl ?_
  intro ρ w cargs hv
  obtain ⟨u, v, rfl, h1, h2⟩ := hv.two
  cases h1
  cases h2
  refine (indexAny_any ⟨s.toArray⟩ w (by simpa [ByteArray.size] using hs)).mono ?_
  rintro e w' ⟨rfl, hb⟩
  refine ⟨?_, hb⟩
  rw [← qIdx_any]
  rfl
end Go.Proofs.YtdikgijfekfaoaaGreatDoor
