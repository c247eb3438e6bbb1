/- SchemaEqual returns true for all arguments of bulk at most 1048576, and leaves its arguments: the statement SchemaEqualUptoCardSaid. Its conditions: those of the statement. -/
import Derived.Test.YtindpcpdkikdmaaGreatDoorCards
import Derived.Test.YtindpcpdkikdmaaGreatDoorTie
import Derived.Test.YtindpcpdkikdmaaGreatDoorR3
import Derived.Test.YtindpcpdkikdmaaGreatDoorCN
import Derived.ProofKit
import Derived.OpenShut
import Derived.JoinedCond
import Derived.Deep.DeepHandedRow
import Derived.Deep.DeepWitnessRowRef
set_option linter.all false
namespace Go.Proofs.YtindpcpdkikdmaaGreatDoor
namespace SchemaEqual
open Go.Proofs.YtindpcpdkikdmaaGreatDoor.Abs Go.RowKit Go.ChangeShapes Go.ChangeAt
set_option maxRecDepth 100000 in
theorem contract (H:Type) (enc:TypeId×Value→H) (W:World) (base:Nat) (args:Array Value) (ds gs:List (DataW H)) (before:List MemPlace)
 (hval:∀ (j:Nat) t v,Tryz.f3.params[j]?=some t→args[j]?=some v→Value.okWide Tryz.prog W .any base t v)
 (hW:DataW.Whole enc Tryz.prog Tryz.f3.params.toList Rows.schemaEqualSpec.vars false W args.toList ds gs before) (hk:Rows.uptoSmall H (ds++gs)=true) (hL:laidMetH Tryz.prog laidL W) :
 Calls Tryz.prog 3 args W fun e W'=>∃ v,e=.returned v∧Rows.schemaEqualSpec.post enc Tryz.prog Tryz.f3 false true false false W args v W':=by
 have hW':=hW
 obtain ⟨p,q,hA0,hV,rfl,hfz,hnd⟩:=hW
 have hA:DataW.TrodAll enc Tryz.prog W 0 (fun _=>true) true Tryz.f3.params.toList args.toList ds p:=hA0
 rw [Tryz.params3] at hA hval
 obtain ⟨v0,vs0,d0,ds0,p0,q0,hargs,rfl,rfl,h0,r0⟩:=trodAll_cons hA
 obtain ⟨v1,vs1,d1,ds1,p1,q1,rfl,rfl,rfl,h1,r1⟩:=trodAll_cons r0
 obtain ⟨v2,vs2,d2,ds2,p2,q2,rfl,rfl,rfl,h2,r2⟩:=trodAll_cons r1
 obtain ⟨rfl,rfl,rfl⟩:=trodAll_nil r2
 obtain rfl:args=#[v0,v1,v2]:=by cases args;simp_all
 obtain ⟨rfl,rfl⟩:=trodVars_none hV
 have hb:Rows.uptoBulkAll ([d0,d1,d2]++[])≤1048576:=of_decide_eq_true hk
 simp only [List.append_nil,Rows.uptoBulkAll] at hb
 have o0:Value.okWide Tryz.prog W .any base 22 v0:=hval 0 22 v0 rfl rfl
 have a0:=arg_VR plain_ts (t:=22) rfl o0 h0
 have o1:Value.okWide Tryz.prog W .any base 22 v1:=hval 1 22 v1 rfl rfl
 have a1:=arg_VR plain_ts (t:=22) rfl o1 h1
 have o2:Value.okWide Tryz.prog W .any base 22 v2:=hval 2 22 v2 rfl rfl
 have a2:=arg_VR plain_ts (t:=22) rfl o2 h2
 obtain ⟨f0,h0⟩:=h0
 obtain ⟨f1,h1⟩:=h1
 obtain ⟨f2,h2⟩:=h2
 obtain ⟨l,e0,hl,b0⟩:=ints_of h0
 rw [e0] at a0
 obtain ⟨m,e1,hm,b1⟩:=ints_of h1
 rw [e1] at a1
 obtain ⟨n,e2,hn,b2⟩:=ints_of h2
 rw [e2] at a2
 have hv:VRs (allI W) [] W [.imm (l.map (.int .i64)),.imm (m.map (.int .i64)),.imm (n.map (.int .i64))] #[v0,v1,v2]:=by
  refine ⟨rfl,fun i x v hx hv=>?_⟩
  match i with
  | 0=>simp at hx hv;subst hx hv;exact a0
  | 1=>simp at hx hv;subst hx hv;exact a1
  | 2=>simp at hx hv;subst hx hv;exact a2
  | i+3=>simp at hx
 refine (calls_of_P (equal_spec l m n hl hm hn) hv (tables hL)).mono ?_
 rintro e W' ⟨rfl,hbel⟩
 refine ⟨_,rfl,post_true laysOut rfl rfl Tryz.underlying4 ?_ hW' rfl hbel⟩
 intro t ht
 refine readable t ?_
 rw [Tryz.params3] at ht
 simp at ht
 subst ht;rfl
theorem reads (os:Os) {H:Type} (enc:TypeId×Value→H):∃ places,DataW.whole enc Tryz.prog ((laidW os).forCall (fun _ _=>0) ⟨#[],#[.slice none 0 0,.slice none 0 0,.slice none 0 0],[]⟩).memory Tryz.f3.params.toList Rows.schemaEqualSpec.vars false #[.slice none 0 0,.slice none 0 0,.slice none 0 0].toList 8 =
 some ([.nil,.nil,.nil],[],places) :=
 ⟨[],by kernel_rfl⟩
set_option maxRecDepth 100000 in
theorem lifted (os:Os) (started:os.Started) (H:Type) (enc:TypeId×Value→H) (F:Stop.Interp) :
 ReturnsInHanded {} Tryz.checked os 3 .any ((Rows.OpenSpec.upto Rows.schemaEqualSpec).preRow enc Tryz.prog Tryz.f3 Rows.schemaEqualUptoRow.domain false Rows.schemaEqualUptoRow.laid) (((Rows.OpenSpec.upto Rows.schemaEqualSpec).at F).post enc Tryz.prog Tryz.f3 false true false false):=by
 obtain ⟨places,hx⟩:=reads os enc
 refine returnsInHanded_of_row (C:=Tryz.checked) (s:=Rows.OpenSpec.upto Rows.schemaEqualSpec) knobs started kq Tryz.func3
  (witness_row_atRef (enc:=enc) (C:=Tryz.checked) false (laidW os) #[.slice none 0 0,.slice none 0 0,.slice none 0 0] (World.laidAll_os _ _ _) kq kq kq
   (OpenSpec.preRow_of_cond 8 hx kq (fun k hk=>by cases hk;kernel_rfl) kq (laidW_met os _))) ?_
 intro W base args ds gs before hval hW _ hcond _ hL _ _
 exact contract H enc W base args ds gs before hval hW (hcond _ rfl) hL
theorem said:Rows.SchemaEqualUptoSaid :=
 OpenClaim.holds_of_cond 3 Tryz.f3 rfl rfl rfl rfl rfl rfl rfl ⟨rfl,rfl,rfl,rfl,rfl⟩ rfl rfl rfl rfl rfl kq Tryz.func3 kq
  (of_decide_eq_true kq) (by unfold Func.isWrapper;first|(rw [if_pos (by decide +kernel)];kernel_rfl)|(rw [if_neg (by decide +kernel)];exact ⟨rfl,rfl⟩))
  (fun os started H enc _ F=>by rw [OpenClaim.pre_eq_preRow];exact lifted os started H enc F)
theorem plain (f:FuncId) (fn:Func) (hf:Tryz.pinned.checked.prog.funcNamed Rows.schemaEqualUptoRow.func=some f) (hfn:Tryz.pinned.checked.prog.funcs[f]?=some fn) :
 true=Tryz.pinned.checked.prog.looks []∧∀ (j:Nat) t,fn.params[j]?=some t→Tryz.pinned.checked.prog.wantsStandIn t=false:=by
 obtain rfl:f=3:=Option.some.inj ((show Tryz.prog.funcNamed Rows.schemaEqualUptoRow.func=some 3 by kernel_rfl).symm.trans hf) |>.symm
 obtain rfl:fn=Tryz.f3:=(Option.some.inj (Tryz.func3.symm.trans hfn)).symm
 refine ⟨by kernel_rfl,fun j t ht=>?_⟩
 rw [Tryz.params3] at ht
 have h22:Tryz.prog.wantsStandIn 22=false:=by kernel_rfl
 have hm:=Array.mem_of_getElem? ht
 simp at hm
 subst hm;exact h22
end SchemaEqual
theorem schemaEqual_holds:Rows.SchemaEqualUptoCardSaid :=
 Claim7.holds_tied_plain_at .later [] _ _ _ _ SchemaEqual.said (fun _ h=>by cases h) kq (fun _ h=>by cases h) schemaEqualUpto_row_tie rfl ⟨rfl,rfl⟩ kq rfl SchemaEqual.plain kq
end Go.Proofs.YtindpcpdkikdmaaGreatDoor
