/- SchemaMany returns true for all arguments of bulk at most 1048576, and leaves its arguments: the statement SchemaManyUptoCardSaid. Its conditions: those of the statement. -/
import Derived.Test.YtcpklndelobigaaGreatDoorCards
import Derived.Test.YtcpklndelobigaaGreatDoorTie
import Derived.Test.YtcpklndelobigaaGreatDoorR3
import Derived.Test.YtcpklndelobigaaGreatDoorMG
import Derived.ProofKit
import Derived.OpenShut
import Derived.JoinedCond
import Derived.Deep.DeepHandedRow
import Derived.Deep.DeepWitnessRowRef
set_option linter.all false
namespace Go.Proofs.YtcpklndelobigaaGreatDoor
namespace SchemaMany
open Go.Proofs.YtcpklndelobigaaGreatDoor.Abs Go.RowKit Go.ChangeShapes Go.ChangeAt
set_option maxRecDepth 100000 in
theorem pJ (H:Type) (enc:TypeId×Value→H) (W:World) (base:Nat) (args:Array Value) (ds gs:List (DataW H)) (before:List MemPlace)
 (hval:∀ (j:Nat) t v,Tryz.f4.params[j]?=some t→args[j]?=some v→Value.okWide Tryz.prog W .any base t v)
 (hW:DataW.Whole enc Tryz.prog Tryz.f4.params.toList Rows.schemaManySpec.vars false W args.toList ds gs before) (hk:Rows.uptoSmall H (ds++gs)=true) (hL:laidMetH Tryz.prog jm W) :
 Calls Tryz.prog 4 args W fun e W'=>∃ v,e=.returned v∧Rows.schemaManySpec.post enc Tryz.prog Tryz.f4 false true false false W args v W':=by
 have hW':=hW
 obtain ⟨p,q,hA0,hV,rfl,hfz,hnd⟩:=hW
 have hA:DataW.TrodAll enc Tryz.prog W 0 (fun _=>true) true Tryz.f4.params.toList args.toList ds p:=hA0
 rw [Tryz.params4] at hA hval
 obtain ⟨v0,vs0,d0,ds0,p0,q0,hargs,rfl,rfl,h0,r0⟩:=trodAll_cons hA
 obtain ⟨v1,vs1,d1,ds1,p1,q1,rfl,rfl,rfl,h1,r1⟩:=trodAll_cons r0
 obtain ⟨rfl,rfl,rfl⟩:=trodAll_nil r1
 obtain rfl:args=#[v0,v1]:=by cases args;simp_all
 obtain ⟨rfl,rfl⟩:=trodVars_none hV
 have hb:Rows.uptoBulkAll ([d0,d1]++[])≤1048576:=of_decide_eq_true hk
 simp only [List.append_nil,Rows.uptoBulkAll] at hb
 have o0:Value.okWide Tryz.prog W .any base 3 v0:=hval 0 3 v0 rfl rfl
 have a0:=uZ jB (t:=3) rfl o0 h0
 have o1:Value.okWide Tryz.prog W .any base 22 v1:=hval 1 22 v1 rfl rfl
 have a1:=uZ jB (t:=22) rfl o1 h1
 obtain ⟨f0,h0⟩:=h0
 obtain ⟨f1,h1⟩:=h1
 obtain ⟨a,e0,ha⟩:=ze h0
 rw [e0] at a0
 obtain ⟨l,e1,hl,b1⟩:=xQ h1
 rw [e1] at a1
 have hv:VRs (jQ W) [] W [.int .i64 a,.imm (l.map (.int .i64))] #[v0,v1]:=by
  refine ⟨rfl,fun i x v hx hv=>?_⟩
  match i with
  | 0=>simp at hx hv;subst hx hv;exact a0
  | 1=>simp at hx hv;subst hx hv;exact a1
  | i+2=>simp at hx
 refine (sb (tX a l ha hl) hv (fq hL)).mono ?_
 rintro e W' ⟨rfl,hbel⟩
 refine ⟨_,rfl,tZ x6 rfl rfl Tryz.underlying4 ?_ hW' rfl hbel⟩
 intro t ht
 refine wC t ?_
 rw [Tryz.params4] at ht
 simp at ht
 rcases ht with rfl|rfl <;> rfl
theorem wl (os:Os) {H:Type} (enc:TypeId×Value→H):∃ places,DataW.whole enc Tryz.prog ((vg os).forCall (fun _ _=>0) ⟨#[],#[.int .i64 0,.slice none 0 0],[]⟩).memory Tryz.f4.params.toList Rows.schemaManySpec.vars false #[.int .i64 0,.slice none 0 0].toList 8 =
 some ([.lit (.int .i64 0),.nil],[],places) :=
 ⟨[],by kernel_rfl⟩
set_option maxRecDepth 100000 in
theorem zu (os:Os) (started:os.Started) (H:Type) (enc:TypeId×Value→H) (F:Stop.Interp) :
 ReturnsInHanded {} Tryz.checked os 4 .any ((Rows.OpenSpec.upto Rows.schemaManySpec).preRow enc Tryz.prog Tryz.f4 Rows.schemaManyUptoRow.domain false Rows.schemaManyUptoRow.laid) (((Rows.OpenSpec.upto Rows.schemaManySpec).at F).post enc Tryz.prog Tryz.f4 false true false false):=by
 obtain ⟨places,hx⟩:=wl os enc
 refine returnsInHanded_of_row (C:=Tryz.checked) (s:=Rows.OpenSpec.upto Rows.schemaManySpec) Bj started kq Tryz.func4
  (witness_row_atRef (enc:=enc) (C:=Tryz.checked) false (vg os) #[.int .i64 0,.slice none 0 0] (World.laidAll_os _ _ _) kq kq kq
   (OpenSpec.preRow_of_cond 8 hx kq (fun k hk=>by cases hk;kernel_rfl) kq (t7 os _))) ?_
 intro W base args ds gs before hval hW _ hcond _ hL _ _
 exact pJ H enc W base args ds gs before hval hW (hcond _ rfl) hL
theorem k1:Tryz.pinned.checked.prog.funcNamed Rows.schemaManyUptoRow.func=some 4:=by kernel_rfl
theorem k2:joinedFacts Tryz.pinned.checked.prog 4 Tryz.f4 (Rows.OpenSpec.upto Rows.schemaManySpec).bare Rows.schemaManyUptoRow=true:=by kernel_rfl
theorem said:Rows.SchemaManyUptoSaid :=
 OpenClaim.holds_of_cond 4 Tryz.f4 rfl rfl rfl rfl rfl rfl rfl ⟨rfl,rfl,rfl,rfl,rfl⟩ rfl rfl rfl rfl rfl k1 Tryz.func4 k2
  (of_decide_eq_true kq) (by unfold Func.isWrapper;first|(rw [if_pos (by decide +kernel)];kernel_rfl)|(rw [if_neg (by decide +kernel)];exact ⟨rfl,rfl⟩))
  (fun os started H enc _ F=>by rw [OpenClaim.pre_eq_preRow];exact zu os started H enc F)
theorem plain (f:FuncId) (fn:Func) (hf:Tryz.pinned.checked.prog.funcNamed Rows.schemaManyUptoRow.func=some f) (hfn:Tryz.pinned.checked.prog.funcs[f]?=some fn) :
 true=Tryz.pinned.checked.prog.looks []∧∀ (j:Nat) t,fn.params[j]?=some t→Tryz.pinned.checked.prog.wantsStandIn t=false:=by
 obtain rfl:f=4:=Option.some.inj ((show Tryz.prog.funcNamed Rows.schemaManyUptoRow.func=some 4 by kernel_rfl).symm.trans hf) |>.symm
 obtain rfl:fn=Tryz.f4:=(Option.some.inj (Tryz.func4.symm.trans hfn)).symm
 refine ⟨by kernel_rfl,fun j t ht=>?_⟩
 rw [Tryz.params4] at ht
 have h3:Tryz.prog.wantsStandIn 3=false:=by kernel_rfl
 have h22:Tryz.prog.wantsStandIn 22=false:=by kernel_rfl
 have hm:=Array.mem_of_getElem? ht
 simp at hm
 rcases hm with rfl|rfl
 · exact h3
 · exact h22
end SchemaMany
theorem schemaMany_holds:Rows.SchemaManyUptoCardSaid :=
 Claim7.holds_tied_plain_at .later [] _ _ _ _ SchemaMany.said (fun _ h=>by cases h) kq (fun _ h=>by cases h) schemaManyUpto_row_tie rfl ⟨rfl,rfl⟩ kq rfl SchemaMany.plain kq
end Go.Proofs.YtcpklndelobigaaGreatDoor
