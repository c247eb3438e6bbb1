/- SchemaDecls returns true for all arguments of bulk at most 1048576, and leaves its arguments: the statement SchemaDeclsUptoCardSaid. Its conditions: those of the statement. -/
import Derived.Test.YtcpklndelobigaaGreatDoorCards
import Derived.Test.YtcpklndelobigaaGreatDoorTie
import Derived.Test.YtcpklndelobigaaGreatDoorR3
import Derived.Test.YtcpklndelobigaaGreatDoorCK
import Derived.ProofKit
import Derived.OpenShut
import Derived.JoinedCond
import Derived.Deep.DeepHandedRow
import Derived.Deep.DeepWitnessRowRef
set_option linter.all false
namespace Go.Proofs.YtcpklndelobigaaGreatDoor
namespace SchemaDecls
open Go.Proofs.YtcpklndelobigaaGreatDoor.Abs Go.RowKit Go.ChangeShapes Go.ChangeAt
set_option maxRecDepth 100000 in
theorem Aj (H:Type) (enc:TypeId×Value->H) (W:World) (base:Nat) (args:Array Value) (ds gs:List (DataW H)) (before:List MemPlace)
 (hval:∀ (j:Nat) t v,Tryz.f5.params[j]?=some t->args[j]?=some v->Value.okWide Tryz.prog W .any base t v)
 (hW:DataW.Whole enc Tryz.prog Tryz.f5.params.toList Rows.schemaDeclsSpec.vars false W args.toList ds gs before) (hk:Rows.uptoSmall H (ds++gs)=true) (hL:laidMetH Tryz.prog oj W) :
 Calls Tryz.prog 5 args W fun e W'=>∃ v,e=.returned v/\Rows.schemaDeclsSpec.post enc Tryz.prog Tryz.f5 false true false false W args v W':=by
 have hW':=hW;obtain ⟨p,q,hA0,hV,rfl,hfz,hnd⟩:=hW;have hA:DataW.TrodAll enc Tryz.prog W 0 (fun _=>true) true Tryz.f5.params.toList args.toList ds p:=hA0;rw [Tryz.params5] at hA hval;obtain ⟨v0,vs0,d0,ds0,p0,q0,hargs,rfl,rfl,h0,r0⟩:=trodAll_cons hA;obtain ⟨v1,vs1,d1,ds1,p1,q1,rfl,rfl,rfl,h1,r1⟩:=trodAll_cons r0;obtain ⟨v2,vs2,d2,ds2,p2,q2,rfl,rfl,rfl,h2,r2⟩:=trodAll_cons r1;obtain ⟨rfl,rfl,rfl⟩:=trodAll_nil r2;obtain rfl:args=#[v0,v1,v2]:=by cases args;simp_all
 obtain ⟨rfl,rfl⟩:=trodVars_none hV;have hb:Rows.uptoBulkAll ([d0,d1,d2]++[])<=1048576:=of_decide_eq_true hk;simp only [List.append_nil,Rows.uptoBulkAll] at hb;have o0:Value.okWide Tryz.prog W .any base 22 v0:=hval 0 22 v0 rfl rfl;have a0:=Cb l4 (t:=22) rfl o0 h0;have o1:Value.okWide Tryz.prog W .any base 22 v1:=hval 1 22 v1 rfl rfl;have a1:=Cb l4 (t:=22) rfl o1 h1;have o2:Value.okWide Tryz.prog W .any base 4 v2:=hval 2 4 v2 rfl rfl;have a2:=Cb l4 (t:=4) rfl o2 h2;obtain ⟨f0,h0⟩:=h0;obtain ⟨f1,h1⟩:=h1;obtain ⟨f2,h2⟩:=h2;obtain ⟨l,e0,hl,b0⟩:=DQ h0;rw [e0] at a0;obtain ⟨m,e1,hm,b1⟩:=DQ h1;rw [e1] at a1;obtain ⟨f_,e2⟩:=ND h2;rw [e2] at a2
 have hv:VRs (p5 W) [] W [.imm (l.map (.int .i64)),.imm (m.map (.int .i64)),.bool f_] #[v0,v1,v2]:=by
  refine ⟨rfl,fun i x v hx hv=>?_⟩
  match i with
  | 0=>simp at hx hv;subst hx hv;exact a0
  | 1=>simp at hx hv;subst hx hv;exact a1
  | 2=>simp at hx hv;subst hx hv;exact a2
  | i+3=>simp at hx
 refine (BV (Fu l m f_ hl hm) hv (jS hL)).mono ?_;rintro e W' ⟨rfl,hbel⟩;refine ⟨_,rfl,F5 KT rfl rfl Tryz.underlying4 ?_ hW' rfl hbel⟩;intro t ht;refine HR t ?_;rw [Tryz.params5] at ht;simp at ht;rcases ht with rfl|rfl|rfl <;> rfl
theorem KC (os:Os) {H:Type} (enc:TypeId×Value->H):∃ places,DataW.whole enc Tryz.prog ((KB os).forCall (fun _ _=>0) ⟨#[],#[.slice none 0 0,.slice none 0 0,.bool false],[]⟩).memory Tryz.f5.params.toList Rows.schemaDeclsSpec.vars false #[.slice none 0 0,.slice none 0 0,.bool false].toList 8 =
 some ([.nil,.nil,.lit (.bool false)],[],places) :=
 ⟨[],by kernel_rfl⟩
set_option maxRecDepth 100000 in
theorem QK (os:Os) (started:os.Started) (H:Type) (enc:TypeId×Value->H) (F:Stop.Interp) :
 ReturnsInHanded {} Tryz.checked os 5 .any ((Rows.OpenSpec.upto Rows.schemaDeclsSpec).preRow enc Tryz.prog Tryz.f5 Rows.schemaDeclsUptoRow.domain false Rows.schemaDeclsUptoRow.laid) (((Rows.OpenSpec.upto Rows.schemaDeclsSpec).at F).post enc Tryz.prog Tryz.f5 false true false false):=by
 obtain ⟨places,hx⟩:=KC os enc
 refine returnsInHanded_of_row (C:=Tryz.checked) (s:=Rows.OpenSpec.upto Rows.schemaDeclsSpec) SM started kq Tryz.func5
  (witness_row_atRef (enc:=enc) (C:=Tryz.checked) false (KB os) #[.slice none 0 0,.slice none 0 0,.bool false] (World.laidAll_os _ _ _) kq kq kq
   (OpenSpec.preRow_of_cond 8 hx kq (fun k hk=>by cases hk;kernel_rfl) kq (GM os _))) ?_
 intro W base args ds gs before hval hW _ hcond _ hL _ _;exact Aj H enc W base args ds gs before hval hW (hcond _ rfl) hL
theorem k1:Tryz.pinned.checked.prog.funcNamed Rows.schemaDeclsUptoRow.func=some 5:=by kernel_rfl
theorem k2:joinedFacts Tryz.pinned.checked.prog 5 Tryz.f5 (Rows.OpenSpec.upto Rows.schemaDeclsSpec).bare Rows.schemaDeclsUptoRow=true:=by kernel_rfl
theorem said:Rows.SchemaDeclsUptoSaid :=
 OpenClaim.holds_of_cond 5 Tryz.f5 rfl rfl rfl rfl rfl rfl rfl ⟨rfl,rfl,rfl,rfl,rfl⟩ rfl rfl rfl rfl rfl k1 Tryz.func5 k2
  (of_decide_eq_true kq) (by unfold Func.isWrapper;first|(rw [if_pos (by decide +kernel)];kernel_rfl)|(rw [if_neg (by decide +kernel)];exact ⟨rfl,rfl⟩))
  (fun os started H enc _ F=>by rw [OpenClaim.pre_eq_preRow];exact QK os started H enc F)
theorem plain (f:FuncId) (fn:Func) (hf:Tryz.pinned.checked.prog.funcNamed Rows.schemaDeclsUptoRow.func=some f) (hfn:Tryz.pinned.checked.prog.funcs[f]?=some fn) :
 true=Tryz.pinned.checked.prog.looks []/\∀ (j:Nat) t,fn.params[j]?=some t->Tryz.pinned.checked.prog.wantsStandIn t=false:=by
 obtain rfl:f=5:=Option.some.inj ((show Tryz.prog.funcNamed Rows.schemaDeclsUptoRow.func=some 5 by kernel_rfl).symm.trans hf) |>.symm;obtain rfl:fn=Tryz.f5:=(Option.some.inj (Tryz.func5.symm.trans hfn)).symm;refine ⟨by kernel_rfl,fun j t ht=>?_⟩;rw [Tryz.params5] at ht;have h4:Tryz.prog.wantsStandIn 4=false:=by kernel_rfl
 have h22:Tryz.prog.wantsStandIn 22=false:=by kernel_rfl
 have hm:=Array.mem_of_getElem? ht;simp at hm;rcases hm with rfl|rfl
 . exact h22
 . exact h4
end SchemaDecls
theorem schemaDecls_holds:Rows.SchemaDeclsUptoCardSaid :=
 Claim7.holds_tied_plain_at .later [] _ _ _ _ SchemaDecls.said (fun _ h=>by cases h) kq (fun _ h=>by cases h) schemaDeclsUpto_row_tie rfl ⟨rfl,rfl⟩ kq rfl SchemaDecls.plain kq
end Go.Proofs.YtcpklndelobigaaGreatDoor
