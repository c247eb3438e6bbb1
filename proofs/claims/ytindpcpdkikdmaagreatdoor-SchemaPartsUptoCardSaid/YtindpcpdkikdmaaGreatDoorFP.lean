/- SchemaParts returns true for all arguments of bulk at most 1048576, and leaves its arguments: the statement SchemaPartsUptoCardSaid. Its conditions: those of the statement. -/
import Derived.Test.YtindpcpdkikdmaaGreatDoorCards
import Derived.Test.YtindpcpdkikdmaaGreatDoorTie
import Derived.Test.YtindpcpdkikdmaaGreatDoorR3
import Derived.Test.YtindpcpdkikdmaaGreatDoorDD
import Derived.ProofKit
import Derived.OpenShut
import Derived.JoinedCond
import Derived.Deep.DeepHandedRow
import Derived.Deep.DeepWitnessRowRef
namespace Go.Proofs.YtindpcpdkikdmaaGreatDoor
namespace SchemaParts
open Go.Proofs.YtindpcpdkikdmaaGreatDoor.Abs Go.RowKit Go.ChangeShapes Go.ChangeAt

set_option maxRecDepth 100000 in
theorem contract (H : Type) (enc : TypeId × Value → H) (W : World) (base : Nat) (args : Array Value) (ds gs : List (DataW H)) (before : List MemPlace)
    (hval : ∀ (j : Nat) t v, Tryz.f4.params[j]? = some t → args[j]? = some v → Value.okWide Tryz.prog W .any base t v)
    (hW : DataW.Whole enc Tryz.prog Tryz.f4.params.toList Rows.schemaPartsSpec.vars false W args.toList ds gs before) (hk : Rows.uptoSmall H (ds ++ gs) = true) (hL : laidMetH Tryz.prog laidL W) :
    Calls Tryz.prog 4 args W fun e W' => ∃ v, e = .returned v ∧ Rows.schemaPartsSpec.post enc Tryz.prog Tryz.f4 false true false false W args v W' := by
  have hW' := hW
  obtain ⟨p, q, hA0, hV, rfl, hfz, hnd⟩ := hW
  have hA : DataW.TrodAll enc Tryz.prog W 0 (fun _ => true) true Tryz.f4.params.toList args.toList ds p := hA0
  rw [Tryz.params4] at hA hval
  obtain ⟨v0, vs0, d0, ds0, p0, q0, hargs, rfl, rfl, h0, r0⟩ := trodAll_cons hA
  obtain ⟨v1, vs1, d1, ds1, p1, q1, rfl, rfl, rfl, h1, r1⟩ := trodAll_cons r0
  obtain ⟨rfl, rfl, rfl⟩ := trodAll_nil r1
  obtain rfl : args = #[v0, v1] := by cases args; simp_all
  obtain ⟨rfl, rfl⟩ := trodVars_none hV
  have hb : Rows.uptoBulkAll ([d0, d1] ++ []) ≤ 1048576 := of_decide_eq_true hk
  simp only [List.append_nil, Rows.uptoBulkAll] at hb
  have o0 : Value.okWide Tryz.prog W .any base 22 v0 := hval 0 22 v0 rfl rfl
  have a0 := arg_VR plain_ts (t := 22) rfl o0 h0
  have o1 : Value.okWide Tryz.prog W .any base 9 v1 := hval 1 9 v1 rfl rfl
  have a1 := arg_VR plain_ts (t := 9) rfl o1 h1
  obtain ⟨f0, h0⟩ := h0
  obtain ⟨f1, h1⟩ := h1
  obtain ⟨l, e0, hl, b0⟩ := ints_of h0
  rw [e0] at a0
  obtain ⟨x, e1, b1⟩ := str_of h1
  rw [e1] at a1
  have hv : VRs (allI W) [] W [.imm (l.map (.int .i64)), .str x] #[v0, v1] := by
    refine ⟨rfl, fun i x v hx hv => ?_⟩
    match i with
    | 0 => simp at hx hv; subst hx hv; exact a0
    | 1 => simp at hx hv; subst hx hv; exact a1
    | i + 2 => simp at hx
  refine (calls_of_P (parts_spec l x hl (by omega)) hv (tables hL)).mono ?_
  rintro e W' ⟨rfl, hbel⟩
  refine ⟨_, rfl, post_true laysOut rfl rfl Tryz.underlying4 ?_ hW' rfl hbel⟩
  intro t ht
  refine readable t ?_
  rw [Tryz.params4] at ht
  simp at ht
  rcases ht with rfl | rfl <;> rfl

theorem reads (os : Os) {H : Type} (enc : TypeId × Value → H) : ∃ places, DataW.whole enc Tryz.prog ((laidW os).forCall (fun _ _ => 0) ⟨#[], #[.slice none 0 0, .string ⟨#[]⟩], []⟩).memory Tryz.f4.params.toList Rows.schemaPartsSpec.vars false #[.slice none 0 0, .string ⟨#[]⟩].toList 8 =
    some ([.nil, .lit (.string [])], [], places) :=
  ⟨[], by kernel_rfl⟩

set_option maxRecDepth 100000 in
theorem lifted (os : Os) (started : os.Started) (H : Type) (enc : TypeId × Value → H) (F : Stop.Interp) :
    ReturnsInHanded {} Tryz.checked os 4 .any ((Rows.OpenSpec.upto Rows.schemaPartsSpec).preRow enc Tryz.prog Tryz.f4 Rows.schemaPartsUptoRow.domain false Rows.schemaPartsUptoRow.laid) (((Rows.OpenSpec.upto Rows.schemaPartsSpec).at F).post enc Tryz.prog Tryz.f4 false true false false) := by
  obtain ⟨places, hx⟩ := reads os enc
  refine returnsInHanded_of_row (C := Tryz.checked) (s := Rows.OpenSpec.upto Rows.schemaPartsSpec) knobs started (by kernel_rfl) Tryz.func4
    (witness_row_atRef (enc := enc) (C := Tryz.checked) false (laidW os) #[.slice none 0 0, .string ⟨#[]⟩] (World.laidAll_os _ _ _) (by kernel_rfl) (by kernel_rfl) (by kernel_rfl)
      (OpenSpec.preRow_of_cond 8 hx (by kernel_rfl) (fun k hk => by cases hk; kernel_rfl) (by kernel_rfl) (laidW_met os _))) ?_
  intro W base args ds gs before hval hW _ hcond _ hL _ _
  exact contract H enc W base args ds gs before hval hW (hcond _ rfl) hL

theorem said : Rows.SchemaPartsUptoSaid :=
  OpenClaim.holds_of_cond 4 Tryz.f4 rfl rfl rfl rfl rfl rfl rfl ⟨rfl, rfl, rfl, rfl, rfl⟩ rfl rfl rfl rfl rfl (by kernel_rfl) Tryz.func4 (by kernel_rfl)
    (of_decide_eq_true (by kernel_rfl)) (by unfold Func.isWrapper; first | (rw [if_pos (by decide +kernel)]; kernel_rfl) | (rw [if_neg (by decide +kernel)]; exact ⟨rfl, rfl⟩))
    (fun os started H enc _ F => by rw [OpenClaim.pre_eq_preRow]; exact lifted os started H enc F)

theorem plain (f : FuncId) (fn : Func) (hf : Tryz.pinned.checked.prog.funcNamed Rows.schemaPartsUptoRow.func = some f) (hfn : Tryz.pinned.checked.prog.funcs[f]? = some fn) :
    true = Tryz.pinned.checked.prog.looks [] ∧ ∀ (j : Nat) t, fn.params[j]? = some t → Tryz.pinned.checked.prog.wantsStandIn t = false := by
  obtain rfl : f = 4 := Option.some.inj ((show Tryz.prog.funcNamed Rows.schemaPartsUptoRow.func = some 4 by kernel_rfl).symm.trans hf) |>.symm
  obtain rfl : fn = Tryz.f4 := (Option.some.inj (Tryz.func4.symm.trans hfn)).symm
  refine ⟨by kernel_rfl, fun j t ht => ?_⟩
  rw [Tryz.params4] at ht
  have h22 : Tryz.prog.wantsStandIn 22 = false := by kernel_rfl
  have h9 : Tryz.prog.wantsStandIn 9 = false := by kernel_rfl
  have hm := Array.mem_of_getElem? ht
  simp at hm
  rcases hm with rfl | rfl
  · exact h22
  · exact h9
end SchemaParts

theorem schemaParts_holds : Rows.SchemaPartsUptoCardSaid :=
  Claim7.holds_tied_plain_at .later [] _ _ _ _ SchemaParts.said (fun _ h => by cases h) (by kernel_rfl) (fun _ h => by cases h) schemaPartsUpto_row_tie rfl ⟨rfl, rfl⟩ (by kernel_rfl) rfl SchemaParts.plain (by kernel_rfl)
end Go.Proofs.YtindpcpdkikdmaaGreatDoor
