/- strings.IndexAny of a quote or a line feed in a short text, whatever its bytes. No condition. -/
import Derived.Laws.RangeAny
import Derived.Shelf.Strings.Runes
import Derived.Shelf.Small.Utf8
import Derived.Laws.RangeString
import Derived.Laws.Runes
import Derived.Laws.Strings3
import Derived.Deep.LoopGhost
import Derived.WalkMore
import Derived.Shelf.RegionOpenPlain
import Derived.Shelf.Strings.IndexAny
import Derived.Below
set_option linter.all false
set_option linter.unusedSimpArgs false
set_option linter.unusedVariables false
namespace Go.Proofs.YtdikgijfekfaoaaGreatDoor
open Go
theorem decode_skip (s : ByteArray) (pos : Nat) (h : pos < s.size) (ha : 128 ≤ (s[pos]'h).toNat) :
    pos + (Utf8.decode s pos).2 ≤ s.size ∧ (∀ k, k < (Utf8.decode s pos).2 → 128 ≤ (s.get! (pos + k)).toNat) ∧ Utf8.valid (Utf8.decode s pos).1 = true := by
  have e0 := get_at s pos h
  have h0 : 128 ≤ (s.get! (pos + 0)).toNat := by rw [e0]; exact ha
  have hb : ∀ k, (s.get! (pos + k)).toNat < 256 := fun k => (s.get! (pos + k)).toNat_lt
  have hb0 := hb 0; have hb1 := hb 1; have hb2 := hb 2; have hb3 := hb 3
  have one : (∀ k, k < 1 → 128 ≤ (s.get! (pos + k)).toNat) := by intro k hk; have e : k = 0 := (by omega); rw [e]; exact h0
  have er : Utf8.valid ((Utf8.runeError : Nat) : Int) = true := by decide
  have c2 : ∀ {x : Nat}, x / 64 = 2 → 128 ≤ x := by intro x hx; omega
  simp only [Utf8.decode]
  rw [if_neg (by omega)]
  split
  · rename_i h1
    simp only [Bool.and_eq_true, beq_iff_eq, decide_eq_true_eq] at h1
    split
    · refine ⟨by simp only; omega, ?_, ?_⟩
      · intro k hk
        simp only at hk
        rcases (by omega : k = 0 ∨ k = 1) with rfl | rfl
        · exact h0
        · exact c2 h1.2.2
      · simp only [Utf8.valid, Bool.or_eq_true, Bool.and_eq_true, decide_eq_true_eq]; left; omega
    · exact ⟨by simp only; omega, one, er⟩
  · split
    · rename_i h1
      simp only [Bool.and_eq_true, beq_iff_eq, decide_eq_true_eq] at h1
      split
      · rename_i h2
        simp only [Bool.and_eq_true, decide_eq_true_eq] at h2
        refine ⟨by simp only; omega, ?_, by simpa using h2.2⟩
        intro k hk
        simp only at hk
        rcases (by omega : k = 0 ∨ k = 1 ∨ k = 2) with rfl | rfl | rfl
        · exact h0
        · exact c2 h1.1.2.2
        · exact c2 h1.2.2
      · exact ⟨by simp only; omega, one, er⟩
    · split
      · rename_i h1
        simp only [Bool.and_eq_true, beq_iff_eq, decide_eq_true_eq] at h1
        split
        · rename_i h2
          simp only [Bool.and_eq_true, decide_eq_true_eq] at h2
          refine ⟨by simp only; omega, ?_, by simpa using h2.2⟩
          intro k hk
          simp only at hk
          rcases (by omega : k = 0 ∨ k = 1 ∨ k = 2 ∨ k = 3) with rfl | rfl | rfl | rfl
          · exact h0
          · exact c2 h1.1.1.2.2
          · exact c2 h1.1.2.2
          · exact c2 h1.2.2
        · exact ⟨by simp only; omega, one, er⟩
      · exact ⟨by simp only; omega, one, er⟩
end Go.Proofs.YtdikgijfekfaoaaGreatDoor
namespace Go.Proofs.YtdikgijfekfaoaaGreatDoor
open Go Go.Proofs Go.Shelf Go.RowKit Go.Lib
variable {P : Program} {ρ : Ren}

def qnl : ByteArray := ⟨#[34, 10]⟩
theorem qnl_low (i : Nat) (hi : i < qnl.size) : (qnl[i]'hi).toNat < 128 := by
  have h2 : qnl.size = 2 := rfl
  rcases (by omega : i = 0 ∨ i = 1) with rfl | rfl
  · show (34 : UInt8).toNat < 128; decide
  · show (10 : UInt8).toNat < 128; decide

set_option maxHeartbeats 4000000 in
set_option maxRecDepth 1000000 in
/-- The rune that stands for an error. -/
theorem indexRune_error (L : Lays.n152 P ρ) (w : World) :
    Calls P (ρ.f 152) #[.string qnl, .int .i32 65533] w fun e w' => e = .returned (.int .i64 (-1)) ∧ ∃ pos, w' = w.iter qnl pos := by
  have t3 := L.t3; have a3 := L.a3; have z3 := L.z3; have v3 := L.v3
  have t4 := L.t4; have a4 := L.a4; have z4 := L.z4; have v4 := L.v4
  have t5 := L.t5; have a5 := L.a5; have z5 := L.z5; have v5 := L.v5
  have t9 := L.t9; have a9 := L.a9; have z9 := L.z9; have v9 := L.v9
  have t21 := L.t21; have a21 := L.a21; have z21 := L.z21; have v21 := L.v21
  have hq0 : qnl.size = 2 := rfl
  go_enter L.f152, Body.n152_ntmps ρ
  go_wp2
  go_loopg [5, 6] 2 (fun g _ _ wx => ∃ i : Nat, i + g = 2 ∧ wx = w.iter qnl i)
  case atStart => exact ⟨0, by omega, rfl⟩
  case round =>
    obtain ⟨i, hig, rfl⟩ := hrel
    cases gk with
    | zero =>
      obtain rfl : i = 2 := by omega
      have hnx := run_next_end (P := P) w qnl 2
      go_wp2
      go_ret
      exact ⟨rfl, _, rfl⟩
    | succ g =>
      have hi : i < qnl.size := by omega
      obtain ⟨x, hx⟩ : ∃ x : UInt8, qnl[i]'hi = x := ⟨_, rfl⟩
      have hx128 : x.toNat < 128 := by
        rw [← hx]
        exact qnl_low i hi
      have hnx := fun ty => run_next_ascii (P := P) w qnl i ty hi (by rw [hx]; exact hx128)
      rw [hx] at hnx
      clear hx
      have hne : ((x.toNat : Int) == 65533) = false := beq_eq_false_iff_ne.2 (by omega)
      go_wp2
      go_roundg g
      case measure => omega
      case rel => exact ⟨i + 1, by omega, rfl⟩

theorem validRune_of {r : Int} (hv : Utf8.valid r = true) : Lib.validRune r = true := by
  simp only [Utf8.valid, Lib.validRune] at *
  simp at *
  omega

set_option maxHeartbeats 4000000 in
set_option maxRecDepth 1000000 in
theorem indexRune_high (L : Lays.n152 P ρ) (r : Int) (w : World) (h0 : 128 ≤ r) (hv : Utf8.valid r = true) (hne : r ≠ 65533) :
    Calls P (ρ.f 152) #[.string qnl, .int .i32 r] w fun e w' => e = .returned (.int .i64 (-1)) ∧ Below w.heap.size w w' := by
  have t3 := L.t3; have a3 := L.a3; have z3 := L.z3; have v3 := L.v3
  have t4 := L.t4; have a4 := L.a4; have z4 := L.z4; have v4 := L.v4
  have t5 := L.t5; have a5 := L.a5; have z5 := L.z5; have v5 := L.v5
  have t9 := L.t9; have a9 := L.a9; have z9 := L.z9; have v9 := L.v9
  have t21 := L.t21; have a21 := L.a21; have z21 := L.z21; have v21 := L.v21
  have hq0 : qnl.size = 2 := rfl
  have hr1 : (r == 65533) = false := beq_eq_false_iff_ne.2 hne
  have hr2 : ¬ (r < 128) := by omega
  have hvr := validRune_of hv
  have e119 : ∀ args w, (callFunc (ρ.f 119) args).run P w = .ok (.enter (ρ.f 119) args) w := enters_of L.f119 (by kernel_rfl) rfl
  have e137 : ∀ args w, (callFunc (ρ.f 137) args).run P w = .ok (.enter (ρ.f 137) args) w := enters_of L.f137 (by kernel_rfl) rfl
  go_enter L.f152, Body.n152_ntmps ρ
  have mixed := L.mixed
  have hcv := fun w => run_convert_int_string (P := P) w (ρ.t 21) (ρ.t 9) .i32 r (by rw [t21]; rfl) t9
  obtain ⟨g1, g2, g3⟩ := encode_facts r hv h0
  generalize Utf8.encode r = rs at hcv g1 g2 g3
  obtain ⟨c, hc⟩ : ∃ c : UInt8, rs[rs.size - 1]'(by omega) = c := ⟨_, rfl⟩
  have g3 := g3 (by omega)
  rw [hc] at g3
  obtain ⟨k, hk⟩ : ∃ k, rs.size = k + 1 := ⟨rs.size - 1, by omega⟩
  go_wp2_with (go_at_fn (ρ.f 119); refine (Any.utf8_ValidRune { L with } _ _).mono ?_; rintro e w' ⟨rfl, hw⟩; rw [hw, hvr])
  go_step3
  go_wp2
  go_loopg [9, 10] 0 (fun _ s9 s10 wx => s9 = .int .i64 k ∧ s10 = .int .i64 0 ∧ wx = w)
  case atStart => exact ⟨rfl, rfl, rfl⟩
  case round =>
    obtain ⟨rfl, rfl, rfl⟩ := hrel
    by_cases hk1 : k = 1
    · subst hk1
      have hlt : (1 : Int) < (qnl.size : Int) := by rw [hq0]; omega
      have hlr : (1 : Int) < (rs.size : Int) := by omega
      have hcr : rs[1]'(by omega) = c := by rw [← hc]; congr 1; omega
      have hq1 : qnl[1]'(by rw [hq0]; omega) = 10 := rfl
      have hcn : ((10 : Int) == (c.toNat : Int)) = false := beq_eq_false_iff_ne.2 (by omega)
      have hIB : ∀ w, Calls P (ρ.f 137) #[.string ByteArray.empty, .int .u8 c.toNat] w fun e w' => e = .returned (.int .i64 (-1)) ∧ w' = w := fun w => Any.strings_IndexByte { L with } ByteArray.empty c.toNat w
      go_wp2
      go_step3
      go_wp2
      go_region_o
      go_wp2
      have hw2 : IntKind.i64.wrap 2 = 2 := by decide
      have h2q : (2 : Int) ≤ (qnl.size : Int) := by rw [hq0]; omega
      go_quiet_o (first | (refine (hIB _).mono ?_; rintro e w' ⟨rfl, rfl⟩; exact ⟨rfl, _, rfl⟩))
      go_wp2
      go_wp2
      rw [Exit.noGoto_ret]
      go_wp2
      (try rw [Exit.noGoto_ret])
      go_ret
      exact ⟨rfl, rfl, rfl, rfl, Nat.le_refl _, fun _ _ => rfl⟩
    · have hlt : ¬ ((k : Int) < (qnl.size : Int)) := by rw [hq0]; omega
      go_wp2
      go_ret
      exact ⟨rfl, Below.refl _ _⟩
end Go.Proofs.YtdikgijfekfaoaaGreatDoor
namespace Go.Proofs.YtdikgijfekfaoaaGreatDoor
open Go Go.Proofs Go.Shelf Go.RowKit Go.Lib
variable {P : Program} {ρ : Ren}

theorem run_next_gen (W : World) (b : Nat) (s : ByteArray) (pos : Nat) (hb : W.heap[b]? = some (.stringIter s pos)) (h : pos < s.size) :
    ∃ W2, (∀ ty, (Instr.next (.pointer (some ⟨b, 0, none⟩)) true ty).run P W = .ok (.tuple #[.bool true, .int .i64 pos, .int .i32 (Utf8.decode s pos).1]) W2) ∧
      W2.heap[b]? = some (.stringIter s (pos + (Utf8.decode s pos).2)) ∧ Below b W W2 ∧ W2.heap.size = W.heap.size := by
  refine ⟨{ W with heap := W.heap.setIfInBounds b (.stringIter s (pos + (Utf8.decode s pos).2)) }, ?_, ?_, ?_, ?_⟩
  · intro ty
    simp only [Instr.next, getObj, setObj, Sem.run_bind, Sem.run, hb, Result.andThen, h, if_true]
    simp [goInt]
  · have hlt : b < W.heap.size := (Array.getElem?_eq_some_iff.1 hb).1
    simp [hlt]
  · refine ⟨rfl, rfl, rfl, by simp, fun k hk => ?_⟩
    simp only [Array.getElem?_setIfInBounds]
    rw [if_neg (by omega)]
  · simp
theorem run_next_stop (W : World) (b : Nat) (s : ByteArray) (pos : Nat) (hb : W.heap[b]? = some (.stringIter s pos)) (h : ¬ pos < s.size) (ty : TypeId) :
    (Instr.next (.pointer (some ⟨b, 0, none⟩)) true ty).run P W = .ok (.tuple #[.bool false]) W := by
  simp [Instr.next, getObj, Sem.run, hb, h]

theorem qnl_high (x : UInt8) (h : 128 ≤ x.toNat) : qnl.data.toList.contains x = false := by
  simp only [qnl, List.contains_cons, List.contains_nil, Bool.or_false, Bool.or_eq_false_iff, beq_eq_false_iff_ne]
  refine ⟨?_, ?_⟩ <;> (rintro rfl; simp at h)

/-- What IndexRune answers for a rune that was read. -/
theorem indexRune_read (L : Lays.n152 P ρ) (s : ByteArray) (pos : Nat) (h : pos < s.size) (w : World) :
    ∃ a : Int, (Calls P (ρ.f 152) #[.string qnl, .int .i32 (Utf8.decode s pos).1] w fun e w' => e = .returned (.int .i64 a) ∧ Below w.heap.size w w') ∧
      decide (0 ≤ a) = qnl.data.toList.contains (s[pos]'h) := by
  by_cases hx : (s[pos]'h).toNat < 128
  · refine ⟨_, ?_, (Lib.contains_iff_indexByte qnl.data.toList (s[pos]'h)).symm⟩
    rw [decode_ascii s pos h hx]
    have hback : ((((s[pos]'h).toNat : Nat) : Int)).toNat.toUInt8 = s[pos]'h := by simp
    have := Any.strings_IndexRune_ascii L qnl (s[pos]'h).toNat w (by omega) (by omega)
    rw [hback] at this
    exact this.mono fun e w' ⟨h1, h2⟩ => ⟨h1, by rw [h2]; exact Below.refl _ _⟩
  · have hd := decode_high s pos h (by omega)
    have hs := decode_skip s pos h (by omega)
    refine ⟨-1, ?_, by rw [qnl_high _ (by omega)]; rfl⟩
    by_cases he : (Utf8.decode s pos).1 = 65533
    · rw [he]
      refine (indexRune_error L w).mono ?_
      rintro e w' ⟨h1, pos, rfl⟩
      exact ⟨h1, (Below.refl _ _).alloc (Nat.le_refl _) _⟩
    · exact indexRune_high L _ w (by omega) hs.2.2 (by omega)

theorem noAny_read {s : ByteArray} {pos : Nat} (h : pos < s.size) (hn : Lib.NoAny s.data.toList qnl.data.toList pos) (hc : qnl.data.toList.contains (s[pos]'h) = false) :
    pos + (Utf8.decode s pos).2 ≤ s.size ∧ 1 ≤ (Utf8.decode s pos).2 ∧ Lib.NoAny s.data.toList qnl.data.toList (pos + (Utf8.decode s pos).2) := by
  have hsz := Lib.size_eq s
  by_cases hx : (s[pos]'h).toNat < 128
  · rw [decode_ascii s pos h hx]
    exact ⟨by show pos + 1 ≤ _; omega, Nat.le_refl _, hn.succ (Lib.data_getElem? s pos h) hc⟩
  · have hd := decode_high s pos h (by omega)
    have hs := decode_skip s pos h (by omega)
    refine ⟨hs.1, hd.2, fun j b hj hb => ?_⟩
    by_cases hjp : j < pos
    · exact hn j b hjp hb
    · have := hs.2.1 (j - pos) (by omega)
      rw [show pos + (j - pos) = j by omega] at this
      have hjs : j < s.size := by
        rw [hsz]
        exact (List.getElem?_eq_some_iff.1 hb).1
      have e1 := Lib.data_getElem? s j hjs
      rw [hb] at e1
      cases e1
      have e2 := get_at s j hjs
      rw [Nat.add_zero] at e2
      rw [e2] at this
      exact qnl_high _ this

set_option maxHeartbeats 8000000 in
set_option maxRecDepth 1000000 in
theorem indexAny_short (L : Lays.n153 P ρ) (s : ByteArray) (w : World) (h8 : s.size ≤ 8) :
    Calls P (ρ.f 153) #[.string s, .string qnl] w fun e w' => e = .returned (.int .i64 (Lib.indexAny s.data.toList qnl.data.toList)) ∧ Below w.heap.size w w' := by
  have hemp : qnl.toList.isEmpty = false := by rw [Lib.toList_data]; rfl
  have hn1 : ((qnl.size : Int) == 1) = false := rfl
  have h8z : decide ((8 : Int) < (s.size : Int)) = false := decide_eq_false (by omega)
  have t3 := L.t3; have a3 := L.a3; have z3 := L.z3; have v3 := L.v3
  have t4 := L.t4; have a4 := L.a4; have z4 := L.z4; have v4 := L.v4
  have t5 := L.t5; have a5 := L.a5; have z5 := L.z5; have v5 := L.v5
  have t9 := L.t9; have a9 := L.a9; have z9 := L.z9; have v9 := L.v9
  have t21 := L.t21; have a21 := L.a21; have z21 := L.z21; have v21 := L.v21
  have e152 : ∀ args w, (callFunc (ρ.f 152) args).run P w = .ok (.enter (ρ.f 152) args) w := enters_of L.f152 (by kernel_rfl) rfl
  have e226 : ∀ args w, (callFunc (ρ.f 226) args).run P w = .ok (.enter (ρ.f 226) args) w := enters_of L.f226 (by kernel_rfl) rfl
  go_enter L.f153, Body.n153_ntmps ρ
  go_wp2_with (go_at_fn (ρ.f 226); refine (Any.strings_shouldUseASCIISet { L with } _ _).mono ?_; rintro e w' ⟨rfl, hw⟩; rw [hw, h8z])
  go_loopg [9, 10] s.size (fun g _ _ wx => ∃ i : Nat, i + g = s.size ∧ wx.heap[w.heap.size]? = some (.stringIter s i) ∧ Below w.heap.size w wx ∧ Lib.NoAny s.data.toList qnl.data.toList i)
  case atStart => exact ⟨0, by omega, World.iter_heap _ _ _, (Below.refl _ _).alloc (Nat.le_refl _) _, Lib.NoAny.zero _ _⟩
  case round =>
    obtain ⟨i, hig, hit, hbel, hno⟩ := hrel
    have HN : Aside (Lib.NoAny s.data.toList qnl.data.toList i) := hno
    have HB : Aside (Below w.heap.size w wr) := hbel
    clear hno hbel
    cases gk with
    | zero =>
      obtain rfl : i = s.size := by omega
      have hnx := run_next_stop (P := P) wr w.heap.size s s.size hit (by omega)
      clear hit
      go_wp2
      go_ret
      exact ⟨by rw [Lib.indexAny_none (by rw [← Lib.size_eq]; exact HN.out)]; rfl, HB.out⟩
    | succ g =>
      have hi : i < s.size := by omega
      obtain ⟨W2, hnx, hit2, hb2, hs2⟩ := run_next_gen (P := P) wr w.heap.size s i hit hi
      obtain ⟨a, hcall, hdec⟩ := indexRune_read (P := P) (ρ := ρ) { L with } s i hi W2
      have HI : Aside (W2.heap[w.heap.size]? = some (.stringIter s (i + (Utf8.decode s i).2))) := hit2
      have HB2 : Aside (Below w.heap.size wr W2) := hb2
      have HD : Aside (decide (0 ≤ a) = qnl.data.toList.contains (s[i]'hi)) := hdec
      have HL : Aside (w.heap.size < W2.heap.size) := (Array.getElem?_eq_some_iff.1 hit2).1
      clear hit hit2 hb2 hs2 hdec
      by_cases ha : (0 : Int) ≤ a
      · go_wp2_with (go_at_fn (ρ.f 152); refine hcall.mono ?_; rintro e w' ⟨rfl, hw⟩)
        go_ret
        have hc : qnl.data.toList.contains (s[i]'hi) = true := by rw [← HD.out]; exact decide_eq_true ha
        refine ⟨by rw [Lib.indexAny_hit HN.out (Lib.data_getElem? s i hi) hc]; rfl, (HB.out.trans HB2.out).trans (hw.mono (Nat.le_of_lt HL.out))⟩
      · go_wp2_with (go_at_fn (ρ.f 152); refine hcall.mono ?_; rintro e w' ⟨rfl, hw⟩)
        have hc : qnl.data.toList.contains (s[i]'hi) = false := by rw [← HD.out]; exact decide_eq_false (by omega)
        obtain ⟨q1, q2, q3⟩ := noAny_read hi HN.out hc
        go_roundg (s.size - (i + (Utf8.decode s i).2))
        case measure => omega
        case rel => exact ⟨i + (Utf8.decode s i).2, by omega, (hw.block _ HL.out).trans HI.out, (HB.out.trans HB2.out).trans (hw.mono (Nat.le_of_lt HL.out)), q3⟩
end Go.Proofs.YtdikgijfekfaoaaGreatDoor
