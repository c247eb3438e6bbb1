/- TypesLevels returns true for all arguments of bulk at most 1048576, and leaves its arguments: the statement TypesLevelsUptoCardSaid. Its conditions: those of the statement. -/
import Derived.Test.YtdikgijfekfaoaaGreatDoorCards
import Derived.Test.YtdikgijfekfaoaaGreatDoorTie
import Derived.ProofKit
import Derived.OpenShut
import Derived.JoinedCond
import Derived.Deep.DeepHandedRow
import Derived.Deep.DeepWitnessRowRef
import Derived.Test.YtdikgijfekfaoaaGreatDoorP6
set_option linter.all false
namespace Go.Proofs.YtdikgijfekfaoaaGreatDoor
namespace TypesLevels
open Go.Proofs.YtdikgijfekfaoaaGreatDoor.Abs Go.RowKit Go.ChangeShapes Go.ChangeAt
set_option maxRecDepth 100000 in
theorem wI (H:Type) (enc:TypeId×Value→H) (W:World) (base:Nat) (args:Array Value) (ds gs:List (DataW H)) (before:List MemPlace)
 (hval:∀ (j:Nat) t v,Tryz.f11.params[j]?=some t→args[j]?=some v→Value.okWide Tryz.prog W .any base t v)
 (hW:DataW.Whole enc Tryz.prog Tryz.f11.params.toList Rows.typesLevelsSpec.vars false W args.toList ds gs before) (hk:Rows.uptoSmall H (ds++gs)=true) (hL:laidMetH Tryz.prog lX W) :
 Calls Tryz.prog 11 args W fun e W'=>∃ v,e=.returned v∧Rows.typesLevelsSpec.post enc Tryz.prog Tryz.f11 false true false false W args v W':=by
 have hW':=hW
 obtain ⟨p,q,hA0,hV,rfl,hfz,hnd⟩:=hW
 have hA:DataW.TrodAll enc Tryz.prog W 0 (fun _=>true) true Tryz.f11.params.toList args.toList ds p:=hA0
 rw [Tryz.params11] at hA hval
 obtain ⟨v0,vs0,d0,ds0,p0,q0,hargs,rfl,rfl,h0,r0⟩:=trodAll_cons hA
 obtain ⟨v1,vs1,d1,ds1,p1,q1,rfl,rfl,rfl,h1,r1⟩:=trodAll_cons r0
 obtain ⟨rfl,rfl,rfl⟩:=trodAll_nil r1
 obtain rfl:args=#[v0,v1]:=by cases args;simp_all
 obtain ⟨rfl,rfl⟩:=trodVars_none hV
 have hb:Rows.uptoBulkAll ([d0,d1]++[])≤1048576:=of_decide_eq_true hk
 simp only [List.append_nil,Rows.uptoBulkAll] at hb
 have o0:Value.okWide Tryz.prog W .any base 26 v0:=hval 0 26 v0 rfl rfl
 have a0:=D4 l7 (t:=26) rfl o0 h0
 have o1:Value.okWide Tryz.prog W .any base 26 v1:=hval 1 26 v1 rfl rfl
 have a1:=D4 l7 (t:=26) rfl o1 h1
 obtain ⟨f0,h0⟩:=h0
 obtain ⟨f1,h1⟩:=h1
 obtain ⟨l,e0,hl,b0⟩:=Ax h0
 rw [e0] at a0
 obtain ⟨m,e1,hm,b1⟩:=Ax h1
 rw [e1] at a1
 have hv:VRs (m9 W) [] W [.imm (l.map (.int .i64)),.imm (m.map (.int .i64))] #[v0,v1]:=by
  refine ⟨rfl,fun i x v hx hv=>?_⟩
  match i with
  | 0=>simp at hx hv;subst hx hv;exact a0
  | 1=>simp at hx hv;subst hx hv;exact a1
  | i+2=>simp at hx
 refine (yR (xE l m hl hm) hv (DL hL)).mono ?_
 rintro e W' ⟨rfl,hbel⟩
 refine ⟨_,rfl,A8 FQ rfl rfl Tryz.underlying4 ?_ hW' rfl hbel⟩
 intro t ht
 refine C3 t ?_
 rw [Tryz.params11] at ht
 simp at ht
 subst ht;rfl
theorem GA (os:Os) {H:Type} (enc:TypeId×Value→H):∃ places,DataW.whole enc Tryz.prog ((C0 os).forCall (fun _ _=>0) ⟨#[],#[.slice none 0 0,.slice none 0 0],[]⟩).memory Tryz.f11.params.toList Rows.typesLevelsSpec.vars false #[.slice none 0 0,.slice none 0 0].toList 8 =
 some ([.nil,.nil],[],places) :=
 ⟨[],by kernel_rfl⟩
set_option maxRecDepth 100000 in
theorem G5 (os:Os) (started:os.Started) (H:Type) (enc:TypeId×Value→H) (F:Stop.Interp) :
 ReturnsInHanded {} Tryz.checked os 11 .any ((Rows.OpenSpec.upto Rows.typesLevelsSpec).preRow enc Tryz.prog Tryz.f11 Rows.typesLevelsUptoRow.domain false Rows.typesLevelsUptoRow.laid) (((Rows.OpenSpec.upto Rows.typesLevelsSpec).at F).post enc Tryz.prog Tryz.f11 false true false false):=by
 obtain ⟨places,hx⟩:=GA os enc
 refine returnsInHanded_of_row (C:=Tryz.checked) (s:=Rows.OpenSpec.upto Rows.typesLevelsSpec) I8 started kq Tryz.func11
  (witness_row_atRef (enc:=enc) (C:=Tryz.checked) false (C0 os) #[.slice none 0 0,.slice none 0 0] (World.laidAll_os _ _ _) kq kq kq
   (OpenSpec.preRow_of_cond 8 hx kq (fun k hk=>by cases hk;kernel_rfl) kq (Bq os _))) ?_
 intro W base args ds gs before hval hW _ hcond _ hL _ _
 exact wI H enc W base args ds gs before hval hW (hcond _ rfl) hL
theorem said:Rows.TypesLevelsUptoSaid :=
 OpenClaim.holds_of_cond 11 Tryz.f11 rfl rfl rfl rfl rfl rfl rfl ⟨rfl,rfl,rfl,rfl,rfl⟩ rfl rfl rfl rfl rfl kq Tryz.func11 kq
  (of_decide_eq_true kq) (by unfold Func.isWrapper;first|(rw [if_pos (by decide +kernel)];kernel_rfl)|(rw [if_neg (by decide +kernel)];exact ⟨rfl,rfl⟩))
  (fun os started H enc _ F=>by rw [OpenClaim.pre_eq_preRow];exact G5 os started H enc F)
theorem plain (f:FuncId) (fn:Func) (hf:Tryz.pinned.checked.prog.funcNamed Rows.typesLevelsUptoRow.func=some f) (hfn:Tryz.pinned.checked.prog.funcs[f]?=some fn) :
 true=Tryz.pinned.checked.prog.looks []∧∀ (j:Nat) t,fn.params[j]?=some t→Tryz.pinned.checked.prog.wantsStandIn t=false:=by
 obtain rfl:f=11:=Option.some.inj ((show Tryz.prog.funcNamed Rows.typesLevelsUptoRow.func=some 11 by kernel_rfl).symm.trans hf) |>.symm
 obtain rfl:fn=Tryz.f11:=(Option.some.inj (Tryz.func11.symm.trans hfn)).symm
 refine ⟨by kernel_rfl,fun j t ht=>?_⟩
 rw [Tryz.params11] at ht
 have h26:Tryz.prog.wantsStandIn 26=false:=by kernel_rfl
 have hm:=Array.mem_of_getElem? ht
 simp at hm
 subst hm;exact h26
end TypesLevels
theorem typesLevels_holds:Rows.TypesLevelsUptoCardSaid :=
 Claim7.holds_tied_plain_at .later [] _ _ _ _ TypesLevels.said (fun _ h=>by cases h) kq (fun _ h=>by cases h) typesLevelsUpto_row_tie rfl ⟨rfl,rfl⟩ kq rfl TypesLevels.plain kq
end Go.Proofs.YtdikgijfekfaoaaGreatDoor
