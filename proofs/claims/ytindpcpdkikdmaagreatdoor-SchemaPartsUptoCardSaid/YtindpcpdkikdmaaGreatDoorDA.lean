/- The types of the rows of the tables that the generator Schema makes, run by the evaluator. No condition. -/
import Derived.Test.YtindpcpdkikdmaaGreatDoorCL
set_option linter.all false
namespace Go.Proofs.YtindpcpdkikdmaaGreatDoor
open Go.Proofs.YtindpcpdkikdmaaGreatDoor.Abs
set_option maxRecDepth 100000
def rowT (t : Tb) : Ty := t.cols.foldl (fun o c => putT o c.name c.type) rec0
noncomputable def rowRun (f : Nat) (t : Tb) : Option AVal := (xfun cx.P cx.G hook2 xp 60 false f [t.v] []).map (fun r => r.1.frz r.2)
theorem run_P {f : Nat} {args : List AVal} {v : AVal} (h : (xfun cx.P cx.G hook2 xp 60 false f args []).map (fun r => r.1.frz r.2) = some v) (hb : v.bel 0 = true) : CallsP cx f args v := by
  cases hx : xfun cx.P cx.G hook2 xp 60 false f args [] with
  | none => rw [hx] at h; cases h
  | some r =>
    rw [hx] at h
    exact CallsP_post (xfun_sound cxM names_fine hook2_ok 60 false f args [] r hx) (by rintro v' h' ⟨rfl, rfl⟩; exact Option.some.inj h) hb
def itV (a : Ty) (r : List Rf) (x : Ex) : Tb := ⟨[105, 116, 101, 109], [⟨[105, 100], tInt⟩, ⟨[110], tInt⟩, ⟨[97, 116], a⟩, ⟨[115, 105, 122, 101], tSiz⟩], [[105, 100]], r, x⟩
def plV (a : Ty) (c : List Co) : Tb := ⟨[112, 108, 97, 99, 101], [⟨[105, 100], a⟩, ⟨[110, 97, 109, 101], tTxt⟩, ⟨[111, 112, 101, 110], tBol⟩] ++ c, [[105, 100]], [], litX 2 1⟩
def shV (k : List (List UInt8)) (r : List Rf) : Tb := ⟨[115, 104, 111, 112], shC, k, r, litX 2 1⟩
def rfI : Rf := ⟨[97, 116], [112, 108, 97, 99, 101]⟩
def rfS : Rf := ⟨[115, 101, 108, 108, 115], [105, 116, 101, 109]⟩
def coC : Co := ⟨[99, 111, 108, 111, 114], tCol⟩
def tyFine (r : Ty) : Prop := (xfun cx.P cx.G hook2 xp 60 false 20 [r.v] []).map (fun r => r.1.frz r.2) = some (.bool true) ∧ Nat.ble r.sz 1000 = true
def rowFine (t : Tb) : Prop := rowRun 17 t = some (rowT t).v ∧ rowRun 19 t = some (rowT t).v ∧ tyFine (rowT t) ∧ Nat.beq (rowT t).names.length t.cols.length = true
theorem ty_zero : tyFine (rowT Tb.zero) := ⟨by kernel_rfl, by kernel_rfl⟩
theorem ty_it_tInt : tyFine (rowT (itV tInt [] opX)) := ⟨by kernel_rfl, by kernel_rfl⟩
theorem ty_it_tTxt : tyFine (rowT (itV tTxt [] opX)) := ⟨by kernel_rfl, by kernel_rfl⟩
theorem ty_pl_tInt_0 : tyFine (rowT (plV tInt [])) := ⟨by kernel_rfl, by kernel_rfl⟩
theorem ty_pl_tInt_1 : tyFine (rowT (plV tInt [coC])) := ⟨by kernel_rfl, by kernel_rfl⟩
theorem ty_pl_tTxt_0 : tyFine (rowT (plV tTxt [])) := ⟨by kernel_rfl, by kernel_rfl⟩
theorem ty_pl_tTxt_1 : tyFine (rowT (plV tTxt [coC])) := ⟨by kernel_rfl, by kernel_rfl⟩
theorem ty_sh : tyFine (rowT (shV [] [])) := ⟨by kernel_rfl, by kernel_rfl⟩
theorem row_zero : rowFine Tb.zero := ⟨by kernel_rfl, by kernel_rfl, ty_zero, by kernel_rfl⟩
theorem row_it_tInt_0_0 : rowFine (itV tInt [] opX) := ⟨by kernel_rfl, by kernel_rfl, ty_it_tInt, by kernel_rfl⟩
theorem row_it_tInt_0_1 : rowFine (itV tInt [] (litX 2 1)) := ⟨by kernel_rfl, by kernel_rfl, ty_it_tInt, by kernel_rfl⟩
theorem row_it_tInt_1_0 : rowFine (itV tInt [rfI] opX) := ⟨by kernel_rfl, by kernel_rfl, ty_it_tInt, by kernel_rfl⟩
theorem row_it_tInt_1_1 : rowFine (itV tInt [rfI] (litX 2 1)) := ⟨by kernel_rfl, by kernel_rfl, ty_it_tInt, by kernel_rfl⟩
theorem row_it_tTxt_0_0 : rowFine (itV tTxt [] opX) := ⟨by kernel_rfl, by kernel_rfl, ty_it_tTxt, by kernel_rfl⟩
theorem row_it_tTxt_0_1 : rowFine (itV tTxt [] (litX 2 1)) := ⟨by kernel_rfl, by kernel_rfl, ty_it_tTxt, by kernel_rfl⟩
theorem row_it_tTxt_1_0 : rowFine (itV tTxt [rfI] opX) := ⟨by kernel_rfl, by kernel_rfl, ty_it_tTxt, by kernel_rfl⟩
theorem row_it_tTxt_1_1 : rowFine (itV tTxt [rfI] (litX 2 1)) := ⟨by kernel_rfl, by kernel_rfl, ty_it_tTxt, by kernel_rfl⟩
theorem row_pl_tInt_0 : rowFine (plV tInt []) := ⟨by kernel_rfl, by kernel_rfl, ty_pl_tInt_0, by kernel_rfl⟩
theorem row_pl_tInt_1 : rowFine (plV tInt [coC]) := ⟨by kernel_rfl, by kernel_rfl, ty_pl_tInt_1, by kernel_rfl⟩
theorem row_pl_tTxt_0 : rowFine (plV tTxt []) := ⟨by kernel_rfl, by kernel_rfl, ty_pl_tTxt_0, by kernel_rfl⟩
theorem row_pl_tTxt_1 : rowFine (plV tTxt [coC]) := ⟨by kernel_rfl, by kernel_rfl, ty_pl_tTxt_1, by kernel_rfl⟩
theorem row_sh_2_0 : rowFine (shV [[105, 100], [115, 101, 108, 108, 115]] []) := ⟨by kernel_rfl, by kernel_rfl, ty_sh, by kernel_rfl⟩
theorem row_sh_2_1 : rowFine (shV [[105, 100], [115, 101, 108, 108, 115]] [rfS]) := ⟨by kernel_rfl, by kernel_rfl, ty_sh, by kernel_rfl⟩
theorem row_sh_1_0 : rowFine (shV [[105, 100]] []) := ⟨by kernel_rfl, by kernel_rfl, ty_sh, by kernel_rfl⟩
theorem row_sh_1_1 : rowFine (shV [[105, 100]] [rfS]) := ⟨by kernel_rfl, by kernel_rfl, ty_sh, by kernel_rfl⟩
theorem row_it {a : Ty} {r : List Rf} {x : Ex} (ha : a = tInt ∨ a = tTxt) (hr : r = [] ∨ r = [rfI]) (hx : x = opX ∨ x = litX 2 1) : rowFine (itV a r x) := by
  rcases ha with rfl | rfl <;> rcases hr with rfl | rfl <;> rcases hx with rfl | rfl
  · exact row_it_tInt_0_0
  · exact row_it_tInt_0_1
  · exact row_it_tInt_1_0
  · exact row_it_tInt_1_1
  · exact row_it_tTxt_0_0
  · exact row_it_tTxt_0_1
  · exact row_it_tTxt_1_0
  · exact row_it_tTxt_1_1
theorem idT (l : List Int) : idsL.getD (pickI l 0 2).toNat Ty.zero = tInt ∨ idsL.getD (pickI l 0 2).toNat Ty.zero = tTxt := by
  have h := pickI_bd l 0 2 (by decide)
  have : pickI l 0 2 = 0 ∨ pickI l 0 2 = 1 := by omega
  rcases this with e | e <;> rw [e]
  · exact .inl rfl
  · exact .inr rfl
theorem plC_at (l : List Int) : ((plC l).getD 0 Co.zero).type = idsL.getD (pickI l 0 2).toNat Ty.zero := by unfold plC plC0; split <;> rfl
theorem row_itT (l : List Int) {r : List Rf} (hr : r = [] ∨ r = [rfI]) : rowFine (itT l r) := by
  have e : itT l r = itV ((plC l).getD 0 Co.zero).type r (itX l) := rfl
  rw [e, plC_at]
  refine row_it (idT l) hr ?_
  unfold itX; split
  · exact .inl rfl
  · exact .inr rfl
theorem row_plT (l : List Int) : rowFine (plT l) := by
  have e : plT l = plV (idsL.getD (pickI l 0 2).toNat Ty.zero) [] ∨ plT l = plV (idsL.getD (pickI l 0 2).toNat Ty.zero) [coC] := by
    unfold plT plC; split
    · exact .inr rfl
    · exact .inl rfl
  rcases e with e | e <;> rw [e] <;> rcases idT l with h | h <;> rw [h]
  · exact row_pl_tInt_0
  · exact row_pl_tTxt_0
  · exact row_pl_tInt_1
  · exact row_pl_tTxt_1
theorem row_shT (l : List Int) : rowFine (shT l) := by
  have e : shT l = shV (shK l) (shR l) := rfl
  have hk : shK l = [[105, 100], [115, 101, 108, 108, 115]] ∨ shK l = [[105, 100]] := by
    unfold shK; split
    · exact .inl rfl
    · exact .inr rfl
  have hr : shR l = [] ∨ shR l = [rfS] := by
    unfold shR; split
    · exact .inr rfl
    · exact .inl rfl
  rw [e]
  rcases hk with hk | hk <;> rcases hr with hr | hr <;> rw [hk, hr]
  · exact row_sh_2_0
  · exact row_sh_2_1
  · exact row_sh_1_0
  · exact row_sh_1_1
theorem itR_or (l : List Int) : itR l = [] ∨ itR l = [rfI] := by
  unfold itR; split
  · exact .inr rfl
  · exact .inl rfl
theorem scOf_rows (l : List Int) : ∀ t ∈ (scOf l).tabs, rowFine t := by
  unfold scOf
  intro t ht
  split at ht
  · simp only [List.mem_cons, List.not_mem_nil, or_false] at ht
    subst ht; exact row_itT l (.inl rfl)
  · split at ht
    · simp only [List.mem_cons, List.not_mem_nil, or_false] at ht
      rcases ht with rfl | rfl
      · exact row_itT l (itR_or l)
      · exact row_plT l
    · simp only [List.mem_cons, List.not_mem_nil, or_false] at ht
      rcases ht with rfl | rfl | rfl
      · exact row_itT l (itR_or l)
      · exact row_plT l
      · exact row_shT l
theorem row_spec {t : Tb} (h : rowFine t) : CallsP cx 17 [t.v] (rowT t).v := run_P h.1 (by simp)
theorem rrow_spec {t : Tb} (h : rowFine t) : CallsP cx 19 [t.v] (rowT t).v := run_P h.2.1 (by simp)
theorem row_len {t : Tb} (h : rowFine t) : (rowT t).names.length = t.cols.length := Nat.eq_of_beq_eq_true h.2.2.2
theorem row_sz {t : Tb} (h : rowFine t) : (rowT t).sz < 100000000 := Nat.lt_of_le_of_lt (Nat.le_of_ble_eq_true h.2.2.1.2) (by decide)
end Go.Proofs.YtindpcpdkikdmaaGreatDoor
