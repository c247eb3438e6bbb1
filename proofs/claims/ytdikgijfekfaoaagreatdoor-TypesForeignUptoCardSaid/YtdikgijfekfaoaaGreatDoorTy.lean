/- The types of the program as the layer has them; plain functions of the lexer. No condition. -/
import Derived.Test.YtdikgijfekfaoaaGreatDoorAbsb
import Derived.Test.YtdikgijfekfaoaaGreatDoorProg
import Derived.Test.YtdikgijfekfaoaaGreatDoorAbsc
set_option linter.all false
set_option linter.unusedSimpArgs false
set_option linter.unusedVariables false
namespace Go.Proofs.YtdikgijfekfaoaaGreatDoor
open Go.Proofs.YtdikgijfekfaoaaGreatDoor.Abs
theorem ty3 : tyOf Tryz.prog 3 = some ⟨.int .i64, 1, 8, .int .i64 0⟩ := by kernel_rfl
theorem ty4 : tyOf Tryz.prog 4 = some ⟨.bool, 1, 1, .bool false⟩ := by kernel_rfl
theorem ty9 : tyOf Tryz.prog 9 = some ⟨.str, 1, 16, .str []⟩ := by kernel_rfl
theorem ty22 : tyOf Tryz.prog 22 = some ⟨.slice 9, 1, 24, .full []⟩ := by kernel_rfl
theorem ty23 : tyOf Tryz.prog 23 = some ⟨.slice 25, 1, 24, .full []⟩ := by kernel_rfl
theorem ty25 : tyOf Tryz.prog 25 = some ⟨.struct [(0, 3), (1, 9), (2, 3), (3, 22), (4, 23)], 5, 80, .agg [.int .i64 0, .str [], .int .i64 0, .full [], .full []]⟩ := by kernel_rfl
theorem ty26 : tyOf Tryz.prog 26 = some ⟨.slice 3, 1, 24, .full []⟩ := by kernel_rfl
theorem ty54 : tyOf Tryz.prog 54 = some ⟨.slice 105, 1, 24, .full []⟩ := by kernel_rfl
theorem ty71 : tyOf Tryz.prog 71 = some ⟨.map 3 4, 1, 8, .nilm⟩ := by kernel_rfl
theorem ty72 : tyOf Tryz.prog 72 = some ⟨.map 3 22, 1, 8, .nilm⟩ := by kernel_rfl
theorem ty77 : tyOf Tryz.prog 77 = some ⟨.slice 80, 1, 24, .full []⟩ := by kernel_rfl
theorem ty80 : tyOf Tryz.prog 80 = some ⟨.struct [(0, 3), (1, 4), (2, 22)], 3, 40, .agg [.int .i64 0, .bool false, .full []]⟩ := by kernel_rfl
theorem ty88 : tyOf Tryz.prog 88 = some ⟨.map 3 93, 1, 8, .nilm⟩ := by kernel_rfl
theorem ty93 : tyOf Tryz.prog 93 = some ⟨.struct [(0, 4), (1, 3), (2, 4), (3, 25), (8, 22)], 9, 128, .agg [.bool false, .int .i64 0, .bool false, .int .i64 0, .str [], .int .i64 0, .full [], .full [], .full []]⟩ := by kernel_rfl
theorem ty105 : tyOf Tryz.prog 105 = some ⟨.struct [(0, 4), (1, 3), (2, 4), (3, 25), (8, 22)], 9, 128, .agg [.bool false, .int .i64 0, .bool false, .int .i64 0, .str [], .int .i64 0, .full [], .full [], .full []]⟩ := by kernel_rfl
theorem ty106 : tyOf Tryz.prog 106 = some ⟨.map 9 25, 1, 8, .nilm⟩ := by kernel_rfl
theorem ty119 : tyOf Tryz.prog 119 = some ⟨.struct [(0, 3), (1, 9), (2, 3)], 3, 32, .agg [.int .i64 0, .str [], .int .i64 0]⟩ := by kernel_rfl
theorem ty141 : tyOf Tryz.prog 141 = some ⟨.slice 119, 1, 24, .full []⟩ := by kernel_rfl
theorem ty152 : tyOf Tryz.prog 152 = some ⟨.int .u64, 1, 8, .int .u64 0⟩ := by kernel_rfl
end Go.Proofs.YtdikgijfekfaoaaGreatDoor
namespace Go.Proofs.YtdikgijfekfaoaaGreatDoor
open Go.Proofs.YtdikgijfekfaoaaGreatDoor.Abs
def inB (c lo hi : UInt8) : Bool := decide (lo ≤ c) && decide (c ≤ hi)
def isSp (c : UInt8) : Bool := c == 9 || c == 10 || c == 13 || c == 32
def isDg (c : UInt8) : Bool := inB c 48 57
def isLo (c : UInt8) : Bool := inB c 97 122
def isUp (c : UInt8) : Bool := inB c 65 90
def isWd (c : UInt8) : Bool := isLo c || isDg c || c == 95
def isNm (c : UInt8) : Bool := isLo c || isUp c || isDg c
def isLn (c : UInt8) : Bool := c != 10
theorem tw_len (p : UInt8 → Bool) : ∀ (s : List UInt8) (k : Nat), k ≤ s.length → (∀ i, i < k → p (s.getD i 0) = true) → (k = s.length ∨ p (s.getD k 0) = false) → (s.takeWhile p).length = k
  | [], k, h, _, _ => by simp at h; simp [h]
  | c :: s, 0, _, _, h => by
    rcases h with h | h
    · simp at h
    · simp at h; simp [List.takeWhile, h]
  | c :: s, k + 1, h, ha, hz => by
    have h0 : p c = true := by simpa using ha 0 (by omega)
    have ih := tw_len p s k (by simpa using h) (fun i hi => by simpa using ha (i + 1) (by omega)) (by simpa using hz)
    simp [List.takeWhile, h0, ih]
theorem tw_le (p : UInt8 → Bool) (s : List UInt8) : (s.takeWhile p).length ≤ s.length := (List.takeWhile_sublist p).length_le

/-! The order of strings. -/
theorem sLess_trans : ∀ (a b c : List UInt8), sLess a b = true → sLess b c = true → sLess a c = true
  | _, _, [], _, h => by simp [sLess, Op.bytesLess] at h
  | _, [], _ :: _, h, _ => by simp [sLess, Op.bytesLess] at h
  | [], _ :: _, _ :: _, _, _ => by simp [sLess, Op.bytesLess]
  | x :: a, y :: b, z :: c, h1, h2 => by
    simp only [sLess, Op.bytesLess, Bool.or_eq_true, Bool.and_eq_true, decide_eq_true_eq, beq_iff_eq] at h1 h2 ⊢
    rcases h1 with h1 | ⟨rfl, h1⟩ <;> rcases h2 with h2 | ⟨rfl, h2⟩
    · exact .inl (UInt8.lt_trans h1 h2)
    · exact .inl h1
    · exact .inl h2
    · exact .inr ⟨rfl, sLess_trans a b c h1 h2⟩
theorem sLess_irrefl : ∀ a : List UInt8, sLess a a = false
  | [] => rfl
  | x :: a => by simp [sLess, Op.bytesLess]; exact sLess_irrefl a
theorem sLess_total : ∀ a b : List UInt8, sLess a b = false → a = b ∨ sLess b a = true
  | [], [], _ => .inl rfl
  | [], _ :: _, h => by simp [sLess, Op.bytesLess] at h
  | _ :: _, [], _ => .inr (by simp [sLess, Op.bytesLess])
  | x :: a, y :: b, h => by
    simp only [sLess, Op.bytesLess, Bool.or_eq_false_iff, decide_eq_false_iff_not, Bool.and_eq_false_iff] at h
    simp only [sLess, Op.bytesLess, Bool.or_eq_true, Bool.and_eq_true, decide_eq_true_eq, beq_iff_eq]
    by_cases e : x = y
    · subst e
      rcases h.2 with h2 | h2
      · simp at h2
      · rcases sLess_total a b h2 with rfl | h3
        · exact .inl rfl
        · exact .inr (.inr ⟨rfl, h3⟩)
    · right; left
      rcases UInt8.lt_or_lt_of_ne (Ne.symm e) with h3 | h3
      · exact h3
      · exact absurd h3 h.1

def kws : List (List UInt8) := [[97, 110, 100], [97, 115], [99, 104, 101, 99, 107], [100, 101, 108, 101, 116, 101], [101, 108, 115, 101], [102, 97, 108, 115, 101], [102, 117, 110], [105, 102], [105, 110], [105, 110, 115, 101, 114, 116], [107, 101, 121], [108, 101, 116], [109, 97, 116, 99, 104], [110, 111, 116], [111, 114], [112, 114, 111, 99], [114, 101, 102], [115, 101, 116], [116, 97, 98, 108, 101], [116, 104, 101, 110], [116, 111], [116, 114, 117, 101], [116, 121, 112, 101], [117, 112, 100, 97, 116, 101], [119, 104, 101, 114, 101], [119, 105, 116, 104]]
def syms : List (List UInt8) := [[61, 61], [33, 61], [60, 61], [60, 45], [45, 62], [43, 43], [60], [62], [61], [43], [45], [42], [40], [41], [123], [125], [91], [93], [44], [46], [58], [124], [59], [63]]
def isKw (s : List UInt8) : Bool := kws.contains s
def hasPre (s p : List UInt8) : Bool := s.take p.length == p
def symLen (s : List UInt8) : Nat := match syms.find? (hasPre s) with
  | some x => x.length
  | none => 0
def isQ (c : UInt8) : Bool := c == 34 || c == 10
def qIdx (s : List UInt8) : Int := match s.findIdx? isQ with
  | some n => (n : Nat)
  | none => -1
theorem qIdx_ge (s : List UInt8) : -1 ≤ qIdx s := by unfold qIdx; split <;> omega
theorem qIdx_lt (s : List UInt8) : qIdx s < (s.length : Nat) := by
  unfold qIdx
  split
  · rename_i n hn
    have := (List.findIdx?_eq_some_iff_getElem.1 hn).1
    omega
  · omega
def quotedN (s : List UInt8) : Nat := if qIdx (s.drop 1) < 0 then 0 else if s.getD (1 + qIdx (s.drop 1)).toNat 0 = 10 then 0 else (qIdx (s.drop 1) + 2).toNat
def good (s : List UInt8) : Int × Nat :=
  if isSp (s.getD 0 0) then (0, (s.takeWhile isSp).length)
  else if s.getD 0 0 = 35 then (1, (s.takeWhile isLn).length)
  else if isLo (s.getD 0 0) then (if isKw (s.take (s.takeWhile isWd).length) then 7 else 2, (s.takeWhile isWd).length)
  else if isUp (s.getD 0 0) then (3, (s.takeWhile isNm).length)
  else if isDg (s.getD 0 0) then (4, (s.takeWhile isDg).length)
  else if s.getD 0 0 = 34 then (5, quotedN s)
  else (6, symLen s)
/-- From n on, the first place where a good token or a quotation mark stands. -/
def badTo (s : List UInt8) : Nat → Nat → Nat
  | 0, n => n
  | f + 1, n => if n < s.length ∧ s.getD n 0 ≠ 34 ∧ (good (s.drop n)).2 = 0 then badTo s f (n + 1) else n
def next (s : List UInt8) : Int × Nat :=
  if 0 < (good s).2 then good s
  else if s.getD 0 0 = 34 then (8, (s.takeWhile isLn).length)
  else (8, badTo s (s.length - 1) 1)
theorem badTo_succ {s : List UInt8} {n : Nat} (h1 : n < s.length) (h2 : s.getD n 0 ≠ 34) (h3 : (good (s.drop n)).2 = 0) : badTo s (s.length - n) n = badTo s (s.length - (n + 1)) (n + 1) := by
  have : s.length - n = (s.length - (n + 1)) + 1 := by omega
  rw [this, badTo, if_pos ⟨h1, h2, h3⟩]
theorem badTo_stop {s : List UInt8} {f n : Nat} (h : ¬ (n < s.length ∧ s.getD n 0 ≠ 34 ∧ (good (s.drop n)).2 = 0)) : badTo s f n = n := by
  cases f with
  | zero => rfl
  | succ f => rw [badTo, if_neg h]
def single (s : List UInt8) : Int × Bool := if s = [] then (0, false) else ((next s).1, decide ((next s).2 = s.length))
def fitsW (want : Int) (s : List UInt8) : Bool := decide ((single s).2 = true ∧ (single s).1 = want ∧ s.length ≤ 16)
/-! The reference's own words. -/
def rkws : List (List UInt8) := [[116, 121, 112, 101], [116, 97, 98, 108, 101], [107, 101, 121], [114, 101, 102], [116, 111], [99, 104, 101, 99, 107], [102, 117, 110], [112, 114, 111, 99], [108, 101, 116], [105, 110], [105, 102], [116, 104, 101, 110], [101, 108, 115, 101], [109, 97, 116, 99, 104], [105, 110, 115, 101, 114, 116], [100, 101, 108, 101, 116, 101], [97, 115], [119, 104, 101, 114, 101], [117, 112, 100, 97, 116, 101], [115, 101, 116], [119, 105, 116, 104], [97, 110, 100], [111, 114], [110, 111, 116], [116, 114, 117, 101], [102, 97, 108, 115, 101]]
def cls (c : UInt8) : Int := if isSp c then 0 else if isLo c then 1 else if isUp c then 2 else if isDg c then 3 else if c = 95 then 4 else 5
theorem rkws_contains (s : List UInt8) : rkws.contains s = isKw s := by
  rw [Bool.eq_iff_iff]
  simp only [isKw, List.contains_iff_mem]
  constructor
  · intro h
    have : ∀ x ∈ rkws, x ∈ kws := by decide
    exact this s h
  · intro h
    have : ∀ x ∈ kws, x ∈ rkws := by decide
    exact this s h
theorem u8_all {p : UInt8 → Prop} (h : ∀ n, n < 256 → p (UInt8.ofNat n)) : ∀ c, p c := by
  intro c
  have := h c.toNat c.toNat_lt
  simpa using this
theorem cls_sp : ∀ c : UInt8, cls c = 0 ↔ isSp c = true := u8_all (by decide +kernel)
theorem cls_lo : ∀ c : UInt8, cls c = 1 ↔ isLo c = true := u8_all (by decide +kernel)
theorem cls_up : ∀ c : UInt8, cls c = 2 ↔ isUp c = true := u8_all (by decide +kernel)
theorem cls_dg : ∀ c : UInt8, cls c = 3 ↔ isDg c = true := u8_all (by decide +kernel)
theorem cls_wd : ∀ c : UInt8, (cls c = 1 ∨ cls c = 3 ∨ cls c = 4) ↔ isWd c = true := u8_all (by decide +kernel)
theorem cls_nm : ∀ c : UInt8, (1 ≤ cls c ∧ cls c ≤ 3) ↔ isNm c = true := u8_all (by decide +kernel)
/-- The run of p that begins at a place. -/
theorem tw_at (p : UInt8 → Bool) (s : List UInt8) (at' k : Nat) (h0 : at' ≤ k) (h1 : k ≤ s.length) (ha : ∀ i, at' ≤ i → i < k → p (s.getD i 0) = true) (hz : k = s.length ∨ p (s.getD k 0) = false) :
    at' + ((s.drop at').takeWhile p).length = k := by
  have e : ∀ i, (s.drop at').getD i 0 = s.getD (at' + i) 0 := fun i => by simp [List.getD_eq_getElem?_getD]
  have := tw_len p (s.drop at') (k - at') (by simp; omega) (fun i hi => by rw [e]; exact ha _ (by omega) (by omega)) (by
    rcases hz with h | h
    · left; simp; omega
    · right; rw [e, show at' + (k - at') = k by omega]; exact h)
  omega
def has2 (u : List UInt8) : Nat := if 2 ≤ u.length ∧ syms.contains (u.take 2) = true then 2 else if syms.contains (u.take 1) = true then 1 else 0
def rtok (u : List UInt8) : Int × Nat := if u.getD 0 0 = 34 ∧ quotedN u = 0 then (8, 0) else good u
end Go.Proofs.YtdikgijfekfaoaaGreatDoor
namespace Go.Proofs.YtdikgijfekfaoaaGreatDoor
open Go.Proofs.YtdikgijfekfaoaaGreatDoor.Abs
theorem dropD (s : List UInt8) (q i : Nat) : (s.drop q).getD i 0 = s.getD (q + i) 0 := by simp [List.getD_eq_getElem?_getD]
theorem dropD0 (s : List UInt8) (q : Nat) : (s.drop q).getD 0 0 = s.getD q 0 := by rw [dropD, Nat.add_zero]
theorem tw_facts (p : UInt8 → Bool) : ∀ (s : List UInt8), (∀ i, i < (s.takeWhile p).length → p (s.getD i 0) = true) ∧ ((s.takeWhile p).length = s.length ∨ p (s.getD (s.takeWhile p).length 0) = false)
  | [] => by simp
  | c :: s => by
    obtain ⟨h1, h2⟩ := tw_facts p s
    cases hc : p c with
    | true =>
      simp only [List.takeWhile, hc, List.length_cons]
      refine ⟨fun i hi => ?_, by simpa using h2⟩
      cases i with
      | zero => simpa using hc
      | succ i => simpa using h1 i (by omega)
    | false => simp [List.takeWhile, hc]
theorem tw_facts_at (p : UInt8 → Bool) (s : List UInt8) (q : Nat) (hq : q ≤ s.length) :
    (∀ i, q ≤ i → i < q + ((s.drop q).takeWhile p).length → p (s.getD i 0) = true) ∧ (q + ((s.drop q).takeWhile p).length = s.length ∨ p (s.getD (q + ((s.drop q).takeWhile p).length) 0) = false) := by
  obtain ⟨h1, h2⟩ := tw_facts p (s.drop q)
  refine ⟨fun i h3 h4 => ?_, ?_⟩
  · have := h1 (i - q) (by omega)
    rwa [dropD, show q + (i - q) = i by omega] at this
  · rcases h2 with h2 | h2
    · left; rw [h2]; simp; omega
    · right; rwa [dropD] at h2
theorem isQ_false {c : UInt8} (h1 : c ≠ 34) (h2 : c ≠ 10) : isQ c = false := by simp [isQ, h1, h2]
theorem qIdx_found (u : List UInt8) (n : Nat) (hn : n < u.length) (h1 : ∀ i, i < n → isQ (u.getD i 0) = false) (h2 : isQ (u.getD n 0) = true) : qIdx u = (n : Nat) := by
  have : u.findIdx? isQ = some n := by
    rw [List.findIdx?_eq_some_iff_getElem]
    have e : ∀ i (h : i < u.length), u.getD i 0 = u[i] := fun i h => by rw [List.getD_eq_getElem?_getD, List.getElem?_eq_getElem h]; rfl
    refine ⟨hn, by rw [← e n hn]; exact h2, fun j hj => ?_⟩
    rw [← e j (by omega), h1 j hj]; simp
  simp [qIdx, this]
theorem qIdx_none (u : List UInt8) (h1 : ∀ i, i < u.length → isQ (u.getD i 0) = false) : qIdx u = -1 := by
  have : u.findIdx? isQ = none := by
    rw [List.findIdx?_eq_none_iff]
    intro x hx
    obtain ⟨i, hi, rfl⟩ := List.getElem_of_mem hx
    have := h1 i hi
    rwa [List.getD_eq_getElem?_getD, List.getElem?_eq_getElem hi] at this
  simp [qIdx, this]
/-- A closed string literal. -/
theorem quotedN_found (s : List UInt8) (q k : Nat) (hq : q < k) (hk : k < s.length) (h34 : s.getD k 0 = 34) (h1 : ∀ i, q < i → i < k → s.getD i 0 ≠ 34 ∧ s.getD i 0 ≠ 10) : quotedN (s.drop q) = k - q + 1 := by
  have e : ∀ i, ((s.drop q).drop 1).getD i 0 = s.getD (q + 1 + i) 0 := fun i => by simp [List.getD_eq_getElem?_getD]
  have hx : qIdx ((s.drop q).drop 1) = ((k - q - 1 : Nat) : Int) := by
    refine qIdx_found _ _ (by simp; omega) (fun i hi => ?_) ?_
    · rw [e]
      obtain ⟨g1, g2⟩ := h1 (q + 1 + i) (by omega) (by omega)
      exact isQ_false g1 g2
    · rw [e, show q + 1 + (k - q - 1) = k by omega, h34]; rfl
  unfold quotedN
  rw [hx, if_neg (by omega), dropD, show q + (1 + ((k - q - 1 : Nat) : Int)).toNat = k by omega, h34, if_neg (by decide)]
  omega
/-- No end of the literal on its line. -/
theorem quotedN_open (s : List UInt8) (q e : Nat) (hq : q < e) (he : e ≤ s.length) (h1 : ∀ i, q < i → i < e → s.getD i 0 ≠ 34 ∧ s.getD i 0 ≠ 10) (hz : e = s.length ∨ s.getD e 0 = 10) : quotedN (s.drop q) = 0 := by
  have ee : ∀ i, ((s.drop q).drop 1).getD i 0 = s.getD (q + 1 + i) 0 := fun i => by simp [List.getD_eq_getElem?_getD]
  have h2 : ∀ i, i < e - q - 1 → isQ (((s.drop q).drop 1).getD i 0) = false := by
    intro i hi
    rw [ee]
    obtain ⟨g1, g2⟩ := h1 (q + 1 + i) (by omega) (by omega)
    exact isQ_false g1 g2
  by_cases hl : e = s.length
  · have hx : qIdx ((s.drop q).drop 1) = -1 := qIdx_none _ (fun i hi => h2 i (by simp at hi; omega))
    unfold quotedN; rw [hx]; rfl
  · have h10 : s.getD e 0 = 10 := hz.resolve_left hl
    have hx : qIdx ((s.drop q).drop 1) = ((e - q - 1 : Nat) : Int) := by
      refine qIdx_found _ _ (by simp; omega) h2 ?_
      rw [ee, show q + 1 + (e - q - 1) = e by omega, h10]; rfl
    unfold quotedN
    rw [hx, if_neg (by omega), dropD, show q + (1 + ((e - q - 1 : Nat) : Int)).toNat = e by omega, h10, if_pos rfl]
theorem isLn_iff (c : UInt8) : isLn c = true ↔ c ≠ 10 := by simp [isLn]
/-! Symbols. -/
theorem find_pre (l : List (List UInt8)) (n : Nat) (hl : ∀ x ∈ l, x.length = n) (u : List UInt8) : (l.find? (hasPre u) = some (u.take n) ∧ l.contains (u.take n) = true) ∨ (l.find? (hasPre u) = none ∧ l.contains (u.take n) = false) := by
  induction l with
  | nil => right; simp
  | cons x l ih =>
    have hx := hl x (by simp)
    have ih := ih (fun y hy => hl y (by simp [hy]))
    by_cases h : u.take n = x
    · left
      have : hasPre u x = true := by simp [hasPre, hx, h]
      simp [List.find?, this, h]
    · have hp : hasPre u x = false := by simp [hasPre, hx, h]
      simp only [List.find?, hp]
      rcases ih with ⟨i1, i2⟩ | ⟨i1, i2⟩
      · left; exact ⟨i1, by rw [List.contains_cons, i2, Bool.or_true]⟩
      · right
        refine ⟨i1, ?_⟩
        rw [List.contains_cons, i2, Bool.or_false]
        simp [h]
def syms2 : List (List UInt8) := [[61, 61], [33, 61], [60, 61], [60, 45], [45, 62], [43, 43]]
def syms1 : List (List UInt8) := [[60], [62], [61], [43], [45], [42], [40], [41], [123], [125], [91], [93], [44], [46], [58], [124], [59], [63]]
theorem syms_app : syms = syms2 ++ syms1 := rfl
theorem contains_len {l : List (List UInt8)} {x : List UInt8} {n : Nat} (hl : ∀ y ∈ l, y.length = n) (hx : x.length ≠ n) : l.contains x = false := by
  rw [Bool.eq_false_iff]
  intro h
  rw [List.contains_iff_mem] at h
  exact hx (hl x h)
theorem symLen_has2 (u : List UInt8) (hu : 0 < u.length) : symLen u = has2 u := by
  have l2 : ∀ y ∈ syms2, y.length = 2 := by decide
  have l1 : ∀ y ∈ syms1, y.length = 1 := by decide
  have t1 : (u.take 1).length = 1 := by simp; omega
  have c1 : syms.contains (u.take 1) = syms1.contains (u.take 1) := by
    rw [syms_app]
    have h := contains_len l2 (show (u.take 1).length ≠ 2 by omega)
    rw [Bool.eq_iff_iff]
    simp only [List.contains_iff_mem, List.mem_append]
    refine ⟨fun q => q.resolve_left fun q => ?_, .inr⟩
    rw [← List.contains_iff_mem, h] at q; cases q
  unfold symLen has2
  rw [c1, syms_app, List.find?_append]
  rcases find_pre syms2 2 l2 u with ⟨f2, m2⟩ | ⟨f2, m2⟩
  · have hlen : 2 ≤ u.length := by
      rw [List.contains_iff_mem] at m2
      have := l2 _ m2
      simp at this; omega
    have c2 : (syms2 ++ syms1).contains (u.take 2) = true := by
      rw [List.contains_iff_mem] at m2 ⊢
      simp [m2]
    rw [f2, c2, if_pos ⟨hlen, rfl⟩]
    simp; omega
  · have c2 : ¬ (2 ≤ u.length ∧ (syms2 ++ syms1).contains (u.take 2) = true) := by
      rintro ⟨hlen, h⟩
      rw [List.contains_iff_mem, List.mem_append] at h
      rcases h with h | h
      · rw [← List.contains_iff_mem, m2] at h; cases h
      · have := l1 _ h
        simp at this; omega
    rw [f2, if_neg c2]
    rcases find_pre syms1 1 l1 u with ⟨f1, m1⟩ | ⟨f1, m1⟩
    · rw [f1, m1]; simp; omega
    · rw [f1, m1]; simp
theorem rtok_leaf (s : List UInt8) (q k : Nat) (n : Int) (m : Nat) (h1 : q + m = k) (h : rtok (s.drop q) = (n, m)) : n = (rtok (s.drop q)).1 ∧ ((k : Nat) : Int) = (((q + (rtok (s.drop q)).2 : Nat)) : Int) := by
  rw [h, ← h1]; exact ⟨rfl, rfl⟩
end Go.Proofs.YtdikgijfekfaoaaGreatDoor
