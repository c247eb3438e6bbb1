/- The hooks of the evaluator at this seat; the examples of the chapter hold: lives() returns true. No condition. -/
import Derived.Test.YtindpcpdkikdmaaGreatDoorS2
set_option linter.all false
namespace Go.Proofs.YtindpcpdkikdmaaGreatDoor
open Go.Proofs.YtindpcpdkikdmaaGreatDoor.Abs Go.RowKit Go.Shelf Go.Maps Go.Sort

def sCmp (a b : List UInt8) : Int := bif sLess a b then -1 else bif sLess b a then 1 else 0
theorem sCmp_eq : ∀ a b, sCmp a b = Lib.compareBytes a b
  | [], [] => by simp [sCmp, sLess, Op.bytesLess, Lib.compareBytes]
  | [], _ :: _ => by simp [sCmp, sLess, Op.bytesLess, Lib.compareBytes]
  | _ :: _, [] => by simp [sCmp, sLess, Op.bytesLess, Lib.compareBytes]
  | x :: a, y :: b => by
    have ih := sCmp_eq a b
    simp only [sCmp, sLess] at ih ⊢
    rw [Lib.compareBytes, ← ih]
    by_cases h : x = y
    · subst h
      simp [Op.bytesLess, UInt8.lt_irrefl]
    · have h' : ¬ y = x := fun e => h e.symm
      by_cases h1 : x < y
      · simp [Op.bytesLess, h1, h]
      · have h2 : y < x := by
          rcases Nat.lt_trichotomy x.toNat y.toNat with q | q | q
          · exact absurd (UInt8.lt_iff_toNat_lt.2 q) h1
          · exact absurd (UInt8.toNat_inj.1 q) h
          · exact UInt8.lt_iff_toNat_lt.2 q
        have hb : (x == y) = false := by simpa using h
        simp [Op.bytesLess, h1, h2, hb]

set_option maxRecDepth 100000 in
theorem compare_spec (a b : List UInt8) : CallsP cx 52 [.str a, .str b] (.int .i64 (sCmp a b)) := by
  refine CallsP_of_below ⟨_, Tryz.func52, rfl, rfl⟩ rfl fun ρ w cargs hv => ?_
  obtain ⟨u, v, rfl, hu, hv2⟩ := hv.two
  cases hu; cases hv2
  rw [sCmp_eq]
  refine (Any.strings_Compare Tryz.lays106 ⟨a.toArray⟩ ⟨b.toArray⟩ w).mono ?_
  rintro e w' ⟨rfl, rfl⟩
  exact ⟨rfl, Below.refl _ _⟩

def strsOf : List AVal → Option (List (List UInt8))
  | [] => some []
  | .str s :: l => match strsOf l with
    | some r => some (s :: r)
    | none => none
  | _ => none
theorem strsOf_map : ∀ {l : List AVal} {ss : List (List UInt8)}, strsOf l = some ss → l = ss.map .str
  | [], ss, h => by simp [strsOf] at h; subst h; rfl
  | x :: l, ss, h => by
    cases x <;> simp only [strsOf] at h <;> try (simp at h; done)
    rename_i s
    cases hl : strsOf l with
    | none => rw [hl] at h; simp at h
    | some r =>
      rw [hl] at h
      simp at h
      subst h
      rw [strsOf_map hl]
      rfl

def sortedRun : List AVal → AHeap → Option (AVal × AHeap)
  | [.fn (.func 207) [] [.ptr o 0]], h => match h[o]? with
    | some (.box [x]) => match aelems h x with
      | some l => match strsOf l with
        | some ss => bif Nat.ble ss.length 1000000 then some (.imm ((sSort ss).map .str), h) else none
        | none => none
      | none => none
    | _ => none
  | _, _ => none
theorem sortedRun_ok {args : List AVal} {h : AHeap} {r : AVal × AHeap} (hr : sortedRun args h = some r) : CallsA cx 166 args h fun v h' => v = r.1 ∧ h' = r.2 := by
  unfold sortedRun at hr
  split at hr <;> try (simp at hr; done)
  rename_i o
  split at hr <;> try (simp at hr; done)
  rename_i x ho
  split at hr <;> try (simp at hr; done)
  rename_i l hl
  split at hr <;> try (simp at hr; done)
  rename_i ss hs
  cases hc : Nat.ble ss.length 1000000 with
  | false => rw [hc] at hr; simp at hr
  | true =>
    rw [hc] at hr
    simp only [cond_true, Option.some.injEq] at hr
    subst hr
    rw [strsOf_map hs] at hl
    exact sortedV_spec ho hl (Nat.le_of_ble_eq_true hc)
def compareRun : List AVal → AHeap → Option (AVal × AHeap)
  | [.str a, .str b], h => some (.int .i64 (sCmp a b), h)
  | _, _ => none
theorem compareRun_ok {args : List AVal} {h : AHeap} {r : AVal × AHeap} (hr : compareRun args h = some r) : CallsA cx 52 args h fun v h' => v = r.1 ∧ h' = r.2 := by
  unfold compareRun at hr
  split at hr <;> try (simp at hr; done)
  simp only [Option.some.injEq] at hr
  subst hr
  exact callp (compare_spec _ _) (by simp [frzL, AVal.frz]) (by simp [belL, AVal.bel]) ⟨rfl, rfl⟩

def hookRun2 : XRun := fun f args h =>
  bif Nat.beq f 166 then sortedRun args h
  else bif Nat.beq f 52 then compareRun args h
  else none
theorem hookRun2_ok : RunOk cx hookRun2 := by
  intro f args h r hr
  unfold hookRun2 at hr
  cases h1 : Nat.beq f 166 with
  | true =>
    rw [h1] at hr
    rw [Nat.eq_of_beq_eq_true h1]
    exact sortedRun_ok hr
  | false =>
    cases h2 : Nat.beq f 52 with
    | true =>
      rw [h1, h2] at hr
      rw [Nat.eq_of_beq_eq_true h2]
      exact compareRun_ok hr
    | false => rw [h1, h2] at hr; simp at hr
def hook2 : XCall := fun f args h => bif Nat.beq f 166 || Nat.beq f 52 then xcall (fun _ _ _ => none) hookRun2 (fun _ => false) f args h else hook f args h
theorem hook2_ok : ∀ f args h r, hook2 f args h = some r → FCall cx f args h r.1 r.2.1 r.2.2 := by
  intro f args h r hr
  unfold hook2 at hr
  cases hc : Nat.beq f 166 || Nat.beq f 52 with
  | false => rw [hc] at hr; exact hook_ok f args h r hr
  | true =>
    rw [hc] at hr
    simp only [cond_true] at hr
    exact xcall_sound (raw := fun _ => false) (hook := fun _ _ _ => none) (by simp) hookRun2_ok f args h r hr
end Go.Proofs.YtindpcpdkikdmaaGreatDoor
