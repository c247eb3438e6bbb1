/- The reference's Equal of sums. Condition: sizes that can be had. -/
import Derived.Test.YtcpklndelobigaaGreatDoorC6
set_option linter.all false
namespace Go.Proofs.YtcpklndelobigaaGreatDoor
open Go.Proofs.YtcpklndelobigaaGreatDoor.Abs
set_option maxRecDepth 20000
set_option maxHeartbeats 4000000
noncomputable def c40:Code:=aT Tryz.f40
theorem pd (a b:Sm) (hs:a.sm):ao cx 40 [Sm.v a,Sm.v b] (.bool (a.beq b)):=by
 have hz1:=hs.1
 have hz2:∀ i,i<a.ctors.length→(a.ctors.getD i Ct.zero).arg.sz<100000000:=fun i h=>hs.2 _ (c5 _ _ _ h)
 refine aC (cx:=cx) 73 0 [(ResultVar.tmp 4)] Tryz.func40 rfl rfl rfl rfl rfl zq ?_
 show wpA cx 73 0 (at_ c40 []) _ _ _
 refine qZ [(0,Sm.v a),(1,Sm.v b)] [] ?_ ?_
 refine qW 3 [(2,.ptr 0 0),(3,.ptr 1 0)] [.box [.str a.name,.imm (a.ctors.map Ct.v)],.box [.str b.name,.imm (b.ctors.map Ct.v)]] ?_ ?_
 refine az ?_ ?_
 refine qV 6 ?_ ?_
 by_cases hb1:a.name=b.name
 refine qm [11,12] (x:=(!(a.name==b.name))) (congrArg not (beq_iff_eq.2 hb1)) ?_ ?_
 refine qr 2 ?_ ?_
 refine qy (aw (l:=a.ctors) (enc:=Ct.v) kq mz) ?_ ?_ ?_
 refine qr 2 ?_ ?_
 refine qy (aw (l:=b.ctors) (enc:=Ct.v) kq mz) ?_ ?_ ?_
 refine qR 2 [(2,.ptr 0 0),(3,.ptr 1 0),(20,.bool (((a.ctors.length:Nat):Int) != ((b.ctors.length:Nat):Int)))] [.box [.str a.name,.imm (a.ctors.map Ct.v)],.box [.str b.name,.imm (b.ctors.map Ct.v)]] ?_ ?_
 by_cases hb2:((a.ctors.length:Nat):Int)=((b.ctors.length:Nat):Int)
 refine qf (x:=(((a.ctors.length:Nat):Int) != ((b.ctors.length:Nat):Int))) (bne_eq_false_iff_eq.2 hb2) ?_ ?_
 refine qK ?_ ?_
 refine qz [(2,.ptr 0 0),(3,.ptr 1 0)] ?_ ?_
 refine az ?_ ?_
 refine qU 1 [(2,.ptr 0 0),(3,.ptr 1 0),(5,.int .i64 0)] ?_ ?_
 refine qB 0 ?_ ?_ ?_
 refine bn (σ:=Nat) (fun k=>[(2,.ptr 0 0),(3,.ptr 1 0),(5,.int .i64 ((k:Nat):Int))]) (fun k=>[.box [.str a.name,.imm (a.ctors.map Ct.v)],.box [.str b.name,.imm (b.ctors.map Ct.v)]]) (fun k=>k≤a.ctors.length∧∀ i,i<k→(a.ctors.getD i Ct.zero).beq (b.ctors.getD i Ct.zero)=true) (fun k=>a.ctors.length - k) 0 kq zq ⟨⟨kq,kq,kq,trivial⟩,by simp [aG,aa.bel],by simp,kq,by simp [ai.belO]⟩ ?_
 rintro k ⟨hk,ha⟩
 refine az ?_ ?_
 refine qV 3 ?_ ?_
 refine qy (aw (l:=a.ctors) (enc:=Ct.v) kq mz) ?_ ?_ ?_
 refine qR 1 [(2,.ptr 0 0),(3,.ptr 1 0),(5,nI k),(25,.bool (decide (((k:Nat):Int)<((a.ctors.length:Nat):Int))))] [.box [.str a.name,.imm (a.ctors.map Ct.v)],.box [.str b.name,.imm (b.ctors.map Ct.v)]] ?_ ?_
 by_cases hb3:((k:Nat):Int)<((a.ctors.length:Nat):Int)
 refine qt (decide_eq_true hb3) ?_ ?_
 refine qK ?_ ?_
 refine qz [(2,.ptr 0 0),(3,.ptr 1 0),(5,nI k)] ?_ ?_
 refine az ?_ ?_
 refine qB 1 ?_ ?_ ?_
 refine az ?_ ?_
 refine b6 cxM kq ap (aU ?_)
 refine qu 3 ?_ ?_
 refine qd ((aA (k:=.i64) (l:=a.ctors) (enc:=Ct.v) (i:=((k:Nat):Int)) Ct.zero kq mz l6 (fun _=>rfl) oq oq).trans (congrArg (fun cs=>some (aa.pimm cs 0,_)) (fJ (a.ctors.getD k Ct.zero)))) ?_ ?_ ?_ ?_
 refine qu 5 ?_ ?_
 refine qd ((aA (k:=.i64) (l:=b.ctors) (enc:=Ct.v) (i:=((k:Nat):Int)) Ct.zero kq mz l6 (fun _=>rfl) oq oq).trans (congrArg (fun cs=>some (aa.pimm cs 0,_)) (fJ (b.ctors.getD k Ct.zero)))) ?_ ?_ ?_ ?_
 refine qu 2 ?_ ?_
 refine cc (args:=[.agg [.int .i64 ((a.ctors.getD k Ct.zero).arg.kind),.str (a.ctors.getD k Ct.zero).arg.name,.int .i64 ((a.ctors.getD k Ct.zero).arg.n),.imm ((a.ctors.getD k Ct.zero).arg.names.map aa.str),.imm ((a.ctors.getD k Ct.zero).arg.kids.map Ty.enc)],.agg [.int .i64 ((b.ctors.getD k Ct.zero).arg.kind),.str (b.ctors.getD k Ct.zero).arg.name,.int .i64 ((b.ctors.getD k Ct.zero).arg.n),.imm ((b.ctors.getD k Ct.zero).arg.names.map aa.str),.imm ((b.ctors.getD k Ct.zero).arg.kids.map Ty.enc)]]) kq kq kq kq kq (gP ((a.ctors.getD k Ct.zero).arg) ((b.ctors.getD k Ct.zero).arg) (hz2 k oq)) (by intro _;simp [Ty.v,Ex.v,Ct.v,Co.v,Rf.v,Sm.v,Tb.v]) (by simp [Ty.v,Ex.v,Ct.v,Co.v,Rf.v,Sm.v,Tb.v]) (by simp [Ty.v,Ex.v,Ct.v,Co.v,Rf.v,Sm.v,Tb.v]) ?_
 refine qu 1 ?_ ?_
 refine bG kq ⟨kq,?_⟩
 refine ab ?_
 refine qZ [(2,.ptr 0 0),(3,.ptr 1 0),(5,nI k),(6,.bool (((a.ctors.getD k Ct.zero).arg).beq ((b.ctors.getD k Ct.zero).arg)))] [.box [.str a.name,.imm (a.ctors.map Ct.v)],.box [.str b.name,.imm (b.ctors.map Ct.v)]] ?_ ?_
 refine az ?_ ?_
 refine b6 cxM kq ap (aU ?_)
 refine qu 3 ?_ ?_
 by_cases hb4:(((a.ctors.getD k Ct.zero).arg).beq ((b.ctors.getD k Ct.zero).arg))=true
 refine bQ 42 (.bool (!(((a.ctors.getD k Ct.zero).arg).beq ((b.ctors.getD k Ct.zero).arg)))) (.bool false) (bO ap) kq (congrArg aa.bool (congrArg not (hb4))) ?_
 refine bQ 43 (.bool (!(((a.ctors.getD k Ct.zero).arg).beq ((b.ctors.getD k Ct.zero).arg)))) (.bool false) (bO ap) kq (congrArg aa.bool (congrArg not (hb4))) ?_
 refine qu 3 ?_ ?_
 refine qd ((aA (k:=.i64) (l:=a.ctors) (enc:=Ct.v) (i:=((k:Nat):Int)) Ct.zero kq mz l6 (fun _=>rfl) oq oq).trans (congrArg (fun cs=>some (aa.pimm cs 0,_)) (fJ (a.ctors.getD k Ct.zero)))) ?_ ?_ ?_ ?_
 refine qu 5 ?_ ?_
 refine qd ((aA (k:=.i64) (l:=b.ctors) (enc:=Ct.v) (i:=((k:Nat):Int)) Ct.zero kq mz l6 (fun _=>rfl) oq oq).trans (congrArg (fun cs=>some (aa.pimm cs 0,_)) (fJ (b.ctors.getD k Ct.zero)))) ?_ ?_ ?_ ?_
 refine qu 5 ?_ ?_
 by_cases hb5:(a.ctors.getD k Ct.zero).name=(b.ctors.getD k Ct.zero).name
 refine bQ 56 (.bool (!((a.ctors.getD k Ct.zero).name==(b.ctors.getD k Ct.zero).name))) (.bool false) (bO ap) kq (congrArg aa.bool (congrArg not (beq_iff_eq.2 hb5))) ?_
 refine bQ 57 (.bool (!((a.ctors.getD k Ct.zero).name==(b.ctors.getD k Ct.zero).name))) (.bool false) (bO ap) kq (congrArg aa.bool (congrArg not (beq_iff_eq.2 hb5))) ?_
 refine bQ 58 (.bool (!((a.ctors.getD k Ct.zero).name==(b.ctors.getD k Ct.zero).name))) (.bool false) (bO ap) kq (congrArg aa.bool (congrArg not (beq_iff_eq.2 hb5))) ?_
 refine qu 3 ?_ ?_
 refine qd ((aA (k:=.i64) (l:=a.ctors) (enc:=Ct.v) (i:=((k:Nat):Int)) Ct.zero kq mz l6 (fun _=>rfl) oq oq).trans (congrArg (fun cs=>some (aa.pimm cs 0,_)) (fJ (a.ctors.getD k Ct.zero)))) ?_ ?_ ?_ ?_
 refine qu 5 ?_ ?_
 refine qd ((aA (k:=.i64) (l:=b.ctors) (enc:=Ct.v) (i:=((k:Nat):Int)) Ct.zero kq mz l6 (fun _=>rfl) oq oq).trans (congrArg (fun cs=>some (aa.pimm cs 0,_)) (fJ (b.ctors.getD k Ct.zero)))) ?_ ?_ ?_ ?_
 refine qu 4 ?_ ?_
 refine bG kq ⟨kq,?_⟩
 refine ab ?_
 refine qZ [(2,.ptr 0 0),(3,.ptr 1 0),(5,nI k),(44,.ptr 0 1),(45,.imm (a.ctors.map Ct.v)),(46,nI k),(47,.pimm [.str (a.ctors.getD k Ct.zero).name,.bool ((a.ctors.getD k Ct.zero).has),.int .i64 ((a.ctors.getD k Ct.zero).arg.kind),.str (a.ctors.getD k Ct.zero).arg.name,.int .i64 ((a.ctors.getD k Ct.zero).arg.n),.imm ((a.ctors.getD k Ct.zero).arg.names.map aa.str),.imm ((a.ctors.getD k Ct.zero).arg.kids.map Ty.enc)] 0),(48,.pimm [.str (a.ctors.getD k Ct.zero).name,.bool ((a.ctors.getD k Ct.zero).has),.int .i64 ((a.ctors.getD k Ct.zero).arg.kind),.str (a.ctors.getD k Ct.zero).arg.name,.int .i64 ((a.ctors.getD k Ct.zero).arg.n),.imm ((a.ctors.getD k Ct.zero).arg.names.map aa.str),.imm ((a.ctors.getD k Ct.zero).arg.kids.map Ty.enc)] 0),(49,.str (a.ctors.getD k Ct.zero).name),(50,.ptr 1 1),(51,.imm (b.ctors.map Ct.v)),(52,nI k),(53,.pimm [.str (b.ctors.getD k Ct.zero).name,.bool ((b.ctors.getD k Ct.zero).has),.int .i64 ((b.ctors.getD k Ct.zero).arg.kind),.str (b.ctors.getD k Ct.zero).arg.name,.int .i64 ((b.ctors.getD k Ct.zero).arg.n),.imm ((b.ctors.getD k Ct.zero).arg.names.map aa.str),.imm ((b.ctors.getD k Ct.zero).arg.kids.map Ty.enc)] 0),(54,.pimm [.str (b.ctors.getD k Ct.zero).name,.bool ((b.ctors.getD k Ct.zero).has),.int .i64 ((b.ctors.getD k Ct.zero).arg.kind),.str (b.ctors.getD k Ct.zero).arg.name,.int .i64 ((b.ctors.getD k Ct.zero).arg.n),.imm ((b.ctors.getD k Ct.zero).arg.names.map aa.str),.imm ((b.ctors.getD k Ct.zero).arg.kids.map Ty.enc)] 0),(55,.str (b.ctors.getD k Ct.zero).name),(56,.bool false),(59,.ptr 0 1),(60,.imm (a.ctors.map Ct.v)),(61,nI k),(62,.pimm [.str (a.ctors.getD k Ct.zero).name,.bool ((a.ctors.getD k Ct.zero).has),.int .i64 ((a.ctors.getD k Ct.zero).arg.kind),.str (a.ctors.getD k Ct.zero).arg.name,.int .i64 ((a.ctors.getD k Ct.zero).arg.n),.imm ((a.ctors.getD k Ct.zero).arg.names.map aa.str),.imm ((a.ctors.getD k Ct.zero).arg.kids.map Ty.enc)] 0),(63,.pimm [.str (a.ctors.getD k Ct.zero).name,.bool ((a.ctors.getD k Ct.zero).has),.int .i64 ((a.ctors.getD k Ct.zero).arg.kind),.str (a.ctors.getD k Ct.zero).arg.name,.int .i64 ((a.ctors.getD k Ct.zero).arg.n),.imm ((a.ctors.getD k Ct.zero).arg.names.map aa.str),.imm ((a.ctors.getD k Ct.zero).arg.kids.map Ty.enc)] 1),(64,.bool ((a.ctors.getD k Ct.zero).has)),(65,.ptr 1 1),(66,.imm (b.ctors.map Ct.v)),(67,nI k),(68,.pimm [.str (b.ctors.getD k Ct.zero).name,.bool ((b.ctors.getD k Ct.zero).has),.int .i64 ((b.ctors.getD k Ct.zero).arg.kind),.str (b.ctors.getD k Ct.zero).arg.name,.int .i64 ((b.ctors.getD k Ct.zero).arg.n),.imm ((b.ctors.getD k Ct.zero).arg.names.map aa.str),.imm ((b.ctors.getD k Ct.zero).arg.kids.map Ty.enc)] 0),(69,.pimm [.str (b.ctors.getD k Ct.zero).name,.bool ((b.ctors.getD k Ct.zero).has),.int .i64 ((b.ctors.getD k Ct.zero).arg.kind),.str (b.ctors.getD k Ct.zero).arg.name,.int .i64 ((b.ctors.getD k Ct.zero).arg.n),.imm ((b.ctors.getD k Ct.zero).arg.names.map aa.str),.imm ((b.ctors.getD k Ct.zero).arg.kids.map Ty.enc)] 1),(70,.bool ((b.ctors.getD k Ct.zero).has)),(71,.bool (!(((a.ctors.getD k Ct.zero).has)==((b.ctors.getD k Ct.zero).has)))),(72,.bool (!(((a.ctors.getD k Ct.zero).has)==((b.ctors.getD k Ct.zero).has))))] [.box [.str a.name,.imm (a.ctors.map Ct.v)],.box [.str b.name,.imm (b.ctors.map Ct.v)]] ?_ ?_
 by_cases hb6:(!(((a.ctors.getD k Ct.zero).has)==((b.ctors.getD k Ct.zero).has)))=true
 refine qt (hb6) ?_ ?_
 refine qV 1 ?_ ?_
 refine qT ?_ ?_
 apply iR
 apply aR
 apply aR
 apply iR
 apply aR
 refine a7 (b:=false) (.inr rfl) kq ?_
 rotate_left
 iterate 3 kernel_rfl
 refine qf (Bool.eq_false_iff.2 hb6) ?_ ?_
 refine qk ?_ ?_
 refine ah ?_
 refine ab ?_
 refine qz [(2,.ptr 0 0),(3,.ptr 1 0),(5,nI k),(44,.ptr 0 1),(45,.imm (a.ctors.map Ct.v)),(46,nI k),(47,.pimm [.str (a.ctors.getD k Ct.zero).name,.bool ((a.ctors.getD k Ct.zero).has),.int .i64 ((a.ctors.getD k Ct.zero).arg.kind),.str (a.ctors.getD k Ct.zero).arg.name,.int .i64 ((a.ctors.getD k Ct.zero).arg.n),.imm ((a.ctors.getD k Ct.zero).arg.names.map aa.str),.imm ((a.ctors.getD k Ct.zero).arg.kids.map Ty.enc)] 0),(48,.pimm [.str (a.ctors.getD k Ct.zero).name,.bool ((a.ctors.getD k Ct.zero).has),.int .i64 ((a.ctors.getD k Ct.zero).arg.kind),.str (a.ctors.getD k Ct.zero).arg.name,.int .i64 ((a.ctors.getD k Ct.zero).arg.n),.imm ((a.ctors.getD k Ct.zero).arg.names.map aa.str),.imm ((a.ctors.getD k Ct.zero).arg.kids.map Ty.enc)] 0),(49,.str (a.ctors.getD k Ct.zero).name),(50,.ptr 1 1),(51,.imm (b.ctors.map Ct.v)),(52,nI k),(53,.pimm [.str (b.ctors.getD k Ct.zero).name,.bool ((b.ctors.getD k Ct.zero).has),.int .i64 ((b.ctors.getD k Ct.zero).arg.kind),.str (b.ctors.getD k Ct.zero).arg.name,.int .i64 ((b.ctors.getD k Ct.zero).arg.n),.imm ((b.ctors.getD k Ct.zero).arg.names.map aa.str),.imm ((b.ctors.getD k Ct.zero).arg.kids.map Ty.enc)] 0),(54,.pimm [.str (b.ctors.getD k Ct.zero).name,.bool ((b.ctors.getD k Ct.zero).has),.int .i64 ((b.ctors.getD k Ct.zero).arg.kind),.str (b.ctors.getD k Ct.zero).arg.name,.int .i64 ((b.ctors.getD k Ct.zero).arg.n),.imm ((b.ctors.getD k Ct.zero).arg.names.map aa.str),.imm ((b.ctors.getD k Ct.zero).arg.kids.map Ty.enc)] 0),(55,.str (b.ctors.getD k Ct.zero).name),(56,.bool false),(59,.ptr 0 1),(60,.imm (a.ctors.map Ct.v)),(61,nI k),(62,.pimm [.str (a.ctors.getD k Ct.zero).name,.bool ((a.ctors.getD k Ct.zero).has),.int .i64 ((a.ctors.getD k Ct.zero).arg.kind),.str (a.ctors.getD k Ct.zero).arg.name,.int .i64 ((a.ctors.getD k Ct.zero).arg.n),.imm ((a.ctors.getD k Ct.zero).arg.names.map aa.str),.imm ((a.ctors.getD k Ct.zero).arg.kids.map Ty.enc)] 0),(63,.pimm [.str (a.ctors.getD k Ct.zero).name,.bool ((a.ctors.getD k Ct.zero).has),.int .i64 ((a.ctors.getD k Ct.zero).arg.kind),.str (a.ctors.getD k Ct.zero).arg.name,.int .i64 ((a.ctors.getD k Ct.zero).arg.n),.imm ((a.ctors.getD k Ct.zero).arg.names.map aa.str),.imm ((a.ctors.getD k Ct.zero).arg.kids.map Ty.enc)] 1),(64,.bool ((a.ctors.getD k Ct.zero).has)),(65,.ptr 1 1),(66,.imm (b.ctors.map Ct.v)),(67,nI k),(68,.pimm [.str (b.ctors.getD k Ct.zero).name,.bool ((b.ctors.getD k Ct.zero).has),.int .i64 ((b.ctors.getD k Ct.zero).arg.kind),.str (b.ctors.getD k Ct.zero).arg.name,.int .i64 ((b.ctors.getD k Ct.zero).arg.n),.imm ((b.ctors.getD k Ct.zero).arg.names.map aa.str),.imm ((b.ctors.getD k Ct.zero).arg.kids.map Ty.enc)] 0),(69,.pimm [.str (b.ctors.getD k Ct.zero).name,.bool ((b.ctors.getD k Ct.zero).has),.int .i64 ((b.ctors.getD k Ct.zero).arg.kind),.str (b.ctors.getD k Ct.zero).arg.name,.int .i64 ((b.ctors.getD k Ct.zero).arg.n),.imm ((b.ctors.getD k Ct.zero).arg.names.map aa.str),.imm ((b.ctors.getD k Ct.zero).arg.kids.map Ty.enc)] 1),(70,.bool ((b.ctors.getD k Ct.zero).has)),(71,.bool (!(((a.ctors.getD k Ct.zero).has)==((b.ctors.getD k Ct.zero).has))))] ?_ ?_
 refine qo ?_ ?_
 refine qr 1 ?_ ?_
 refine qy (aI (a:=((k:Nat):Int)) (b:=1) kq oq oq) ?_ ?_ ?_
 refine qr 1 ?_ ?_
 refine qe ?_ ?_
 refine ab ⟨k+1,?_,?_,⟨⟨kq,kq,kq,trivial⟩,by simp [aG,aa.bel],by simp,kq,by simp [ai.belO]⟩⟩
 · omega
 · refine ⟨by omega,fun i hi=>?_⟩
   rcases Nat.lt_succ_iff_lt_or_eq.1 hi with h|h
   · exact ha i h
   · subst h;simp_all [Ct.beq]
 iterate 19 kernel_rfl
 refine bQ 56 (.bool (!((a.ctors.getD k Ct.zero).name==(b.ctors.getD k Ct.zero).name))) (.bool true) (bO ap) kq (congrArg aa.bool (congrArg not (beq_eq_false_iff_ne.2 hb5))) ?_
 refine bQ 57 (.bool (!((a.ctors.getD k Ct.zero).name==(b.ctors.getD k Ct.zero).name))) (.bool true) (bO ap) kq (congrArg aa.bool (congrArg not (beq_eq_false_iff_ne.2 hb5))) ?_
 refine bQ 58 (.bool (!((a.ctors.getD k Ct.zero).name==(b.ctors.getD k Ct.zero).name))) (.bool true) (bO ap) kq (congrArg aa.bool (congrArg not (beq_eq_false_iff_ne.2 hb5))) ?_
 refine qu 14 ?_ ?_
 refine bG kq ⟨kq,?_⟩
 refine ab ?_
 refine qZ [(2,.ptr 0 0),(3,.ptr 1 0),(5,nI k),(44,.ptr 0 1),(45,.imm (a.ctors.map Ct.v)),(46,nI k),(47,.pimm [.str (a.ctors.getD k Ct.zero).name,.bool ((a.ctors.getD k Ct.zero).has),.int .i64 ((a.ctors.getD k Ct.zero).arg.kind),.str (a.ctors.getD k Ct.zero).arg.name,.int .i64 ((a.ctors.getD k Ct.zero).arg.n),.imm ((a.ctors.getD k Ct.zero).arg.names.map aa.str),.imm ((a.ctors.getD k Ct.zero).arg.kids.map Ty.enc)] 0),(48,.pimm [.str (a.ctors.getD k Ct.zero).name,.bool ((a.ctors.getD k Ct.zero).has),.int .i64 ((a.ctors.getD k Ct.zero).arg.kind),.str (a.ctors.getD k Ct.zero).arg.name,.int .i64 ((a.ctors.getD k Ct.zero).arg.n),.imm ((a.ctors.getD k Ct.zero).arg.names.map aa.str),.imm ((a.ctors.getD k Ct.zero).arg.kids.map Ty.enc)] 0),(49,.str (a.ctors.getD k Ct.zero).name),(50,.ptr 1 1),(51,.imm (b.ctors.map Ct.v)),(52,nI k),(53,.pimm [.str (b.ctors.getD k Ct.zero).name,.bool ((b.ctors.getD k Ct.zero).has),.int .i64 ((b.ctors.getD k Ct.zero).arg.kind),.str (b.ctors.getD k Ct.zero).arg.name,.int .i64 ((b.ctors.getD k Ct.zero).arg.n),.imm ((b.ctors.getD k Ct.zero).arg.names.map aa.str),.imm ((b.ctors.getD k Ct.zero).arg.kids.map Ty.enc)] 0),(54,.pimm [.str (b.ctors.getD k Ct.zero).name,.bool ((b.ctors.getD k Ct.zero).has),.int .i64 ((b.ctors.getD k Ct.zero).arg.kind),.str (b.ctors.getD k Ct.zero).arg.name,.int .i64 ((b.ctors.getD k Ct.zero).arg.n),.imm ((b.ctors.getD k Ct.zero).arg.names.map aa.str),.imm ((b.ctors.getD k Ct.zero).arg.kids.map Ty.enc)] 0),(55,.str (b.ctors.getD k Ct.zero).name),(56,.bool true),(59,.tup []),(60,.tup []),(61,.tup []),(62,.tup []),(63,.tup []),(64,.tup []),(65,.tup []),(66,.tup []),(67,.tup []),(68,.tup []),(69,.tup []),(70,.tup []),(71,.tup []),(72,.bool true)] [.box [.str a.name,.imm (a.ctors.map Ct.v)],.box [.str b.name,.imm (b.ctors.map Ct.v)]] ?_ ?_
 refine cU kq kq ?_
 refine qV 1 ?_ ?_
 refine qT ?_ ?_
 apply iR
 apply aR
 apply aR
 apply iR
 apply aR
 refine a7 (b:=false) (.inr rfl) kq ?_
 rotate_left
 iterate 13 kernel_rfl
 refine bQ 42 (.bool (!(((a.ctors.getD k Ct.zero).arg).beq ((b.ctors.getD k Ct.zero).arg)))) (.bool true) (bO ap) kq (congrArg aa.bool (congrArg not (Bool.eq_false_iff.2 hb4))) ?_
 refine bQ 43 (.bool (!(((a.ctors.getD k Ct.zero).arg).beq ((b.ctors.getD k Ct.zero).arg)))) (.bool true) (bO ap) kq (congrArg aa.bool (congrArg not (Bool.eq_false_iff.2 hb4))) ?_
 refine qu 29 ?_ ?_
 refine bG kq ⟨kq,?_⟩
 refine ab ?_
 refine qZ [(2,.ptr 0 0),(3,.ptr 1 0),(5,nI k),(44,.tup []),(45,.tup []),(46,.tup []),(47,.tup []),(48,.tup []),(49,.tup []),(50,.tup []),(51,.tup []),(52,.tup []),(53,.tup []),(54,.tup []),(55,.tup []),(56,.tup []),(59,.tup []),(60,.tup []),(61,.tup []),(62,.tup []),(63,.tup []),(64,.tup []),(65,.tup []),(66,.tup []),(67,.tup []),(68,.tup []),(69,.tup []),(70,.tup []),(71,.tup []),(72,.bool true)] [.box [.str a.name,.imm (a.ctors.map Ct.v)],.box [.str b.name,.imm (b.ctors.map Ct.v)]] ?_ ?_
 refine cU kq kq ?_
 refine qV 1 ?_ ?_
 refine qT ?_ ?_
 apply iR
 apply aR
 apply aR
 apply iR
 apply aR
 refine a7 (b:=false) (.inr rfl) kq ?_
 rotate_left
 iterate 24 kernel_rfl
 refine qf (decide_eq_false hb3) ?_ ?_
 refine a6 0 kq kq ?_
 refine af ?_
 refine af ?_
 refine aE ?_
 refine ab ?_
 refine qz [] ?_ ?_
 refine qV 1 ?_ ?_
 refine qT ?_ ?_
 refine a7 (b:=true) (.inr rfl) kq ?_
 rotate_left
 iterate 16 kernel_rfl
 refine qt (x:=(((a.ctors.length:Nat):Int) != ((b.ctors.length:Nat):Int))) (bne_iff_ne.2 hb2) ?_ ?_
 refine qV 1 ?_ ?_
 refine qT ?_ ?_
 apply aR
 refine a7 (b:=false) (.inr rfl) kq ?_
 rotate_left
 iterate 11 kernel_rfl
 refine qm [11,12] (x:=(!(a.name==b.name))) (congrArg not (beq_eq_false_iff_ne.2 hb1)) ?_ ?_
 refine qR 8 [(2,.ptr 0 0),(3,.ptr 1 0),(20,.bool true)] [.box [.str a.name,.imm (a.ctors.map Ct.v)],.box [.str b.name,.imm (b.ctors.map Ct.v)]] ?_ ?_
 refine cU kq kq ?_
 refine qV 1 ?_ ?_
 refine qT ?_ ?_
 apply aR
 refine a7 (b:=false) (.inr rfl) kq ?_
 rotate_left
 iterate 8 kernel_rfl
 all_goals
  refine Eq.trans ?_ (show ((a.name==b.name) && bw Ct.beq a.ctors b.ctors)=a.beq b from rfl)
  first|(simp only [cl Ct.beq a.ctors b.ctors oq,Bool.and_false];done)|(rw [bH Ct.beq Ct.zero Ct.zero a.ctors b.ctors oq (fun i hi=>ha i oq)];simp_all;done)|(rw [cN Ct.beq Ct.zero Ct.zero a.ctors b.ctors k oq oq (by simp_all [Ct.beq])];simp;done)|(simp_all;done)
end Go.Proofs.YtcpklndelobigaaGreatDoor
