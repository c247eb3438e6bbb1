/- The reference's Equal of fq. Condition: sizes that can be had. -/
import Derived.Test.YtcpklndelobigaaGreatDoorC8
set_option linter.all false
namespace Go.Proofs.YtcpklndelobigaaGreatDoor
open Go.Proofs.YtcpklndelobigaaGreatDoor.Abs
set_option maxRecDepth 20000
set_option maxHeartbeats 4000000
noncomputable def c41:Code:=aT Tryz.f41
theorem pc {p:Prop} (h:p:=by simp [Ty.v,Ex.v,Ct.v,Co.v,Rf.v,Sm.v,Tb.v]):p:=h
theorem pl (a b:Tb) (hs:a.sm):ao cx 41 [Tb.v a,Tb.v b] (.bool (a.beq b)):=by
 have hz1:=hs.1
 have hz2:∀ i,i<a.cols.length→(a.cols.getD i Co.zero).type.sz<100000000:=fun i h=>hs.2.1 _ (c5 _ _ _ h)
 have hz3:=hs.2.2.1
 have hz4:=hs.2.2.2.1
 have hz5:=hs.2.2.2.2
 refine aC (cx:=cx) 106 0 [(ResultVar.tmp 4)] Tryz.func41 rfl rfl rfl rfl rfl zq ?_
 show wpA cx 106 0 (at_ c41 []) _ _ _
 refine qZ [(0,Tb.v a),(1,Tb.v b)] [] ?_ ?_
 refine qW 3 [(2,.ptr 0 0),(3,.ptr 1 0)] [.box [.str a.name,.imm (a.cols.map Co.v),.imm (a.key.map aa.str),.imm (a.refs.map Rf.v),.int .i64 (a.chk.kind),.str a.chk.name,.int .i64 (a.chk.n),.str a.chk.s,.imm (a.chk.names.map aa.str),.imm (a.chk.binds.map aa.str),.imm (a.chk.kids.map Ex.enc),.int .i64 (a.chk.pos),.int .i64 (a.chk.fin)],.box [.str b.name,.imm (b.cols.map Co.v),.imm (b.key.map aa.str),.imm (b.refs.map Rf.v),.int .i64 (b.chk.kind),.str b.chk.name,.int .i64 (b.chk.n),.str b.chk.s,.imm (b.chk.names.map aa.str),.imm (b.chk.binds.map aa.str),.imm (b.chk.kids.map Ex.enc),.int .i64 (b.chk.pos),.int .i64 (b.chk.fin)]] ?_ ?_
 refine qV 4 ?_ ?_
 refine bj (args:=[.imm (a.key.map aa.str),.imm (b.key.map aa.str)]) kq kq kq kq (cX a.key b.key oq) pc pc pc ?_
 refine qR 1 [(2,.ptr 0 0),(3,.ptr 1 0),(5,.bool (a.key==b.key))] [.box [.str a.name,.imm (a.cols.map Co.v),.imm (a.key.map aa.str),.imm (a.refs.map Rf.v),.int .i64 (a.chk.kind),.str a.chk.name,.int .i64 (a.chk.n),.str a.chk.s,.imm (a.chk.names.map aa.str),.imm (a.chk.binds.map aa.str),.imm (a.chk.kids.map Ex.enc),.int .i64 (a.chk.pos),.int .i64 (a.chk.fin)],.box [.str b.name,.imm (b.cols.map Co.v),.imm (b.key.map aa.str),.imm (b.refs.map Rf.v),.int .i64 (b.chk.kind),.str b.chk.name,.int .i64 (b.chk.n),.str b.chk.s,.imm (b.chk.names.map aa.str),.imm (b.chk.binds.map aa.str),.imm (b.chk.kids.map Ex.enc),.int .i64 (b.chk.pos),.int .i64 (b.chk.fin)]] ?_ ?_
 refine qV 4 ?_ ?_
 refine bj (args:=[.agg [.int .i64 (a.chk.kind),.str a.chk.name,.int .i64 (a.chk.n),.str a.chk.s,.imm (a.chk.names.map aa.str),.imm (a.chk.binds.map aa.str),.imm (a.chk.kids.map Ex.enc),.int .i64 (a.chk.pos),.int .i64 (a.chk.fin)],.agg [.int .i64 (b.chk.kind),.str b.chk.name,.int .i64 (b.chk.n),.str b.chk.s,.imm (b.chk.names.map aa.str),.imm (b.chk.binds.map aa.str),.imm (b.chk.kids.map Ex.enc),.int .i64 (b.chk.pos),.int .i64 (b.chk.fin)]]) kq kq kq kq (q7 a.chk b.chk oq) pc pc pc ?_
 refine qR 1 [(2,.ptr 0 0),(3,.ptr 1 0),(5,.bool (a.key==b.key)),(6,.bool (a.chk.beq b.chk))] [.box [.str a.name,.imm (a.cols.map Co.v),.imm (a.key.map aa.str),.imm (a.refs.map Rf.v),.int .i64 (a.chk.kind),.str a.chk.name,.int .i64 (a.chk.n),.str a.chk.s,.imm (a.chk.names.map aa.str),.imm (a.chk.binds.map aa.str),.imm (a.chk.kids.map Ex.enc),.int .i64 (a.chk.pos),.int .i64 (a.chk.fin)],.box [.str b.name,.imm (b.cols.map Co.v),.imm (b.key.map aa.str),.imm (b.refs.map Rf.v),.int .i64 (b.chk.kind),.str b.chk.name,.int .i64 (b.chk.n),.str b.chk.s,.imm (b.chk.names.map aa.str),.imm (b.chk.binds.map aa.str),.imm (b.chk.kids.map Ex.enc),.int .i64 (b.chk.pos),.int .i64 (b.chk.fin)]] ?_ ?_
 refine az ?_ ?_
 refine qV 3 ?_ ?_
 by_cases hb1:(a.key==b.key)=true
 refine qm [21,22] (x:=(!(a.key==b.key))) (congrArg not (hb1)) ?_ ?_
 refine qr 4 ?_ ?_
 by_cases hb2:(a.chk.beq b.chk)=true
 refine qm [24,25,26] (x:=(!(a.chk.beq b.chk))) (congrArg not (hb2)) ?_ ?_
 refine qr 7 ?_ ?_
 by_cases hb3:a.name=b.name
 refine qm [31,32,33] (x:=(!(a.name==b.name))) (congrArg not (beq_iff_eq.2 hb3)) ?_ ?_
 refine qr 2 ?_ ?_
 refine qy (aw (l:=a.cols) (enc:=Co.v) kq fv) ?_ ?_ ?_
 refine qr 2 ?_ ?_
 refine qy (aw (l:=b.cols) (enc:=Co.v) kq fv) ?_ ?_ ?_
 refine qr 3 ?_ ?_
 by_cases hb4:((a.cols.length:Nat):Int)=((b.cols.length:Nat):Int)
 refine qm [40,41,42] (x:=(((a.cols.length:Nat):Int) != ((b.cols.length:Nat):Int))) (bne_eq_false_iff_eq.2 hb4) ?_ ?_
 refine qr 2 ?_ ?_
 refine qy (aw (l:=a.refs) (enc:=Rf.v) kq gt) ?_ ?_ ?_
 refine qr 2 ?_ ?_
 refine qy (aw (l:=b.refs) (enc:=Rf.v) kq gt) ?_ ?_ ?_
 refine qR 2 [(2,.ptr 0 0),(3,.ptr 1 0),(50,.bool (((a.refs.length:Nat):Int) != ((b.refs.length:Nat):Int)))] [.box [.str a.name,.imm (a.cols.map Co.v),.imm (a.key.map aa.str),.imm (a.refs.map Rf.v),.int .i64 (a.chk.kind),.str a.chk.name,.int .i64 (a.chk.n),.str a.chk.s,.imm (a.chk.names.map aa.str),.imm (a.chk.binds.map aa.str),.imm (a.chk.kids.map Ex.enc),.int .i64 (a.chk.pos),.int .i64 (a.chk.fin)],.box [.str b.name,.imm (b.cols.map Co.v),.imm (b.key.map aa.str),.imm (b.refs.map Rf.v),.int .i64 (b.chk.kind),.str b.chk.name,.int .i64 (b.chk.n),.str b.chk.s,.imm (b.chk.names.map aa.str),.imm (b.chk.binds.map aa.str),.imm (b.chk.kids.map Ex.enc),.int .i64 (b.chk.pos),.int .i64 (b.chk.fin)]] ?_ ?_
 by_cases hb5:((a.refs.length:Nat):Int)=((b.refs.length:Nat):Int)
 refine qf (x:=(((a.refs.length:Nat):Int) != ((b.refs.length:Nat):Int))) (bne_eq_false_iff_eq.2 hb5) ?_ ?_
 refine qK ?_ ?_
 refine qz [(2,.ptr 0 0),(3,.ptr 1 0)] ?_ ?_
 refine az ?_ ?_
 refine qU 1 [(2,.ptr 0 0),(3,.ptr 1 0),(7,.int .i64 0)] ?_ ?_
 refine qB 0 ?_ ?_ ?_
 refine bn (σ:=Nat) (fun k=>[(2,.ptr 0 0),(3,.ptr 1 0),(7,.int .i64 ((k:Nat):Int))]) (fun k=>[.box [.str a.name,.imm (a.cols.map Co.v),.imm (a.key.map aa.str),.imm (a.refs.map Rf.v),.int .i64 (a.chk.kind),.str a.chk.name,.int .i64 (a.chk.n),.str a.chk.s,.imm (a.chk.names.map aa.str),.imm (a.chk.binds.map aa.str),.imm (a.chk.kids.map Ex.enc),.int .i64 (a.chk.pos),.int .i64 (a.chk.fin)],.box [.str b.name,.imm (b.cols.map Co.v),.imm (b.key.map aa.str),.imm (b.refs.map Rf.v),.int .i64 (b.chk.kind),.str b.chk.name,.int .i64 (b.chk.n),.str b.chk.s,.imm (b.chk.names.map aa.str),.imm (b.chk.binds.map aa.str),.imm (b.chk.kids.map Ex.enc),.int .i64 (b.chk.pos),.int .i64 (b.chk.fin)]]) (fun k=>k≤a.cols.length∧∀ i,i<k→(a.cols.getD i Co.zero).beq (b.cols.getD i Co.zero)=true) (fun k=>a.cols.length - k) 0 kq (by exact ⟨Nat.zero_le _,fun i h=>absurd h (Nat.not_lt_zero i)⟩) ⟨⟨kq,kq,kq,trivial⟩,by simp [aG,aa.bel],by simp,kq,by simp [ai.belO]⟩ ?_
 rintro k ⟨hkk,hak⟩
 refine az ?_ ?_
 refine qV 3 ?_ ?_
 refine qy (aw (l:=a.cols) (enc:=Co.v) kq fv) ?_ ?_ ?_
 refine qR 1 [(2,.ptr 0 0),(3,.ptr 1 0),(7,nI k),(55,.bool (decide (((k:Nat):Int)<((a.cols.length:Nat):Int))))] [.box [.str a.name,.imm (a.cols.map Co.v),.imm (a.key.map aa.str),.imm (a.refs.map Rf.v),.int .i64 (a.chk.kind),.str a.chk.name,.int .i64 (a.chk.n),.str a.chk.s,.imm (a.chk.names.map aa.str),.imm (a.chk.binds.map aa.str),.imm (a.chk.kids.map Ex.enc),.int .i64 (a.chk.pos),.int .i64 (a.chk.fin)],.box [.str b.name,.imm (b.cols.map Co.v),.imm (b.key.map aa.str),.imm (b.refs.map Rf.v),.int .i64 (b.chk.kind),.str b.chk.name,.int .i64 (b.chk.n),.str b.chk.s,.imm (b.chk.names.map aa.str),.imm (b.chk.binds.map aa.str),.imm (b.chk.kids.map Ex.enc),.int .i64 (b.chk.pos),.int .i64 (b.chk.fin)]] ?_ ?_
 by_cases hb6:((k:Nat):Int)<((a.cols.length:Nat):Int)
 refine qt (decide_eq_true hb6) ?_ ?_
 refine qK ?_ ?_
 refine qz [(2,.ptr 0 0),(3,.ptr 1 0),(7,nI k)] ?_ ?_
 refine az ?_ ?_
 refine qB 1 ?_ ?_ ?_
 refine az ?_ ?_
 refine b6 cxM kq ap (aU ?_)
 refine qu 3 ?_ ?_
 refine qd ((aA (k:=.i64) (l:=a.cols) (enc:=Co.v) (i:=((k:Nat):Int)) Co.zero kq fv kQ (fun _=>rfl) oq oq).trans (congrArg (fun cs=>some (aa.pimm cs 0,_)) (dm (a.cols.getD k Co.zero)))) ?_ ?_ ?_ ?_
 refine qu 5 ?_ ?_
 refine qd ((aA (k:=.i64) (l:=b.cols) (enc:=Co.v) (i:=((k:Nat):Int)) Co.zero kq fv kQ (fun _=>rfl) oq oq).trans (congrArg (fun cs=>some (aa.pimm cs 0,_)) (dm (b.cols.getD k Co.zero)))) ?_ ?_ ?_ ?_
 refine qu 2 ?_ ?_
 refine cc (args:=[.agg [.int .i64 ((a.cols.getD k Co.zero).type.kind),.str (a.cols.getD k Co.zero).type.name,.int .i64 ((a.cols.getD k Co.zero).type.n),.imm ((a.cols.getD k Co.zero).type.names.map aa.str),.imm ((a.cols.getD k Co.zero).type.kids.map Ty.enc)],.agg [.int .i64 ((b.cols.getD k Co.zero).type.kind),.str (b.cols.getD k Co.zero).type.name,.int .i64 ((b.cols.getD k Co.zero).type.n),.imm ((b.cols.getD k Co.zero).type.names.map aa.str),.imm ((b.cols.getD k Co.zero).type.kids.map Ty.enc)]]) kq kq kq kq kq (gP ((a.cols.getD k Co.zero).type) ((b.cols.getD k Co.zero).type) (hz2 k oq)) (by intro _;simp [Ty.v,Ex.v,Ct.v,Co.v,Rf.v,Sm.v,Tb.v]) pc pc ?_
 refine qu 1 ?_ ?_
 refine bG kq ⟨kq,?_⟩
 refine ab ?_
 refine qZ [(2,.ptr 0 0),(3,.ptr 1 0),(7,nI k),(8,.bool (((a.cols.getD k Co.zero).type).beq ((b.cols.getD k Co.zero).type)))] [.box [.str a.name,.imm (a.cols.map Co.v),.imm (a.key.map aa.str),.imm (a.refs.map Rf.v),.int .i64 (a.chk.kind),.str a.chk.name,.int .i64 (a.chk.n),.str a.chk.s,.imm (a.chk.names.map aa.str),.imm (a.chk.binds.map aa.str),.imm (a.chk.kids.map Ex.enc),.int .i64 (a.chk.pos),.int .i64 (a.chk.fin)],.box [.str b.name,.imm (b.cols.map Co.v),.imm (b.key.map aa.str),.imm (b.refs.map Rf.v),.int .i64 (b.chk.kind),.str b.chk.name,.int .i64 (b.chk.n),.str b.chk.s,.imm (b.chk.names.map aa.str),.imm (b.chk.binds.map aa.str),.imm (b.chk.kids.map Ex.enc),.int .i64 (b.chk.pos),.int .i64 (b.chk.fin)]] ?_ ?_
 refine az ?_ ?_
 refine b6 cxM kq ap (aU ?_)
 refine qu 3 ?_ ?_
 by_cases hb7:(((a.cols.getD k Co.zero).type).beq ((b.cols.getD k Co.zero).type))=true
 refine bQ 72 (.bool (!(((a.cols.getD k Co.zero).type).beq ((b.cols.getD k Co.zero).type)))) (.bool false) (bO ap) kq (congrArg aa.bool (congrArg not (hb7))) ?_
 refine bQ 73 (.bool (!(((a.cols.getD k Co.zero).type).beq ((b.cols.getD k Co.zero).type)))) (.bool false) (bO ap) kq (congrArg aa.bool (congrArg not (hb7))) ?_
 refine qu 3 ?_ ?_
 refine qd ((aA (k:=.i64) (l:=a.cols) (enc:=Co.v) (i:=((k:Nat):Int)) Co.zero kq fv kQ (fun _=>rfl) oq oq).trans (congrArg (fun cs=>some (aa.pimm cs 0,_)) (dm (a.cols.getD k Co.zero)))) ?_ ?_ ?_ ?_
 refine qu 5 ?_ ?_
 refine qd ((aA (k:=.i64) (l:=b.cols) (enc:=Co.v) (i:=((k:Nat):Int)) Co.zero kq fv kQ (fun _=>rfl) oq oq).trans (congrArg (fun cs=>some (aa.pimm cs 0,_)) (dm (b.cols.getD k Co.zero)))) ?_ ?_ ?_ ?_
 refine qu 4 ?_ ?_
 refine bG kq ⟨kq,?_⟩
 refine ab ?_
 refine qZ [(2,.ptr 0 0),(3,.ptr 1 0),(7,nI k),(74,.ptr 0 1),(75,.imm (a.cols.map Co.v)),(76,nI k),(77,.pimm [.str (a.cols.getD k Co.zero).name,.int .i64 ((a.cols.getD k Co.zero).type.kind),.str (a.cols.getD k Co.zero).type.name,.int .i64 ((a.cols.getD k Co.zero).type.n),.imm ((a.cols.getD k Co.zero).type.names.map aa.str),.imm ((a.cols.getD k Co.zero).type.kids.map Ty.enc)] 0),(78,.pimm [.str (a.cols.getD k Co.zero).name,.int .i64 ((a.cols.getD k Co.zero).type.kind),.str (a.cols.getD k Co.zero).type.name,.int .i64 ((a.cols.getD k Co.zero).type.n),.imm ((a.cols.getD k Co.zero).type.names.map aa.str),.imm ((a.cols.getD k Co.zero).type.kids.map Ty.enc)] 0),(79,.str (a.cols.getD k Co.zero).name),(80,.ptr 1 1),(81,.imm (b.cols.map Co.v)),(82,nI k),(83,.pimm [.str (b.cols.getD k Co.zero).name,.int .i64 ((b.cols.getD k Co.zero).type.kind),.str (b.cols.getD k Co.zero).type.name,.int .i64 ((b.cols.getD k Co.zero).type.n),.imm ((b.cols.getD k Co.zero).type.names.map aa.str),.imm ((b.cols.getD k Co.zero).type.kids.map Ty.enc)] 0),(84,.pimm [.str (b.cols.getD k Co.zero).name,.int .i64 ((b.cols.getD k Co.zero).type.kind),.str (b.cols.getD k Co.zero).type.name,.int .i64 ((b.cols.getD k Co.zero).type.n),.imm ((b.cols.getD k Co.zero).type.names.map aa.str),.imm ((b.cols.getD k Co.zero).type.kids.map Ty.enc)] 0),(85,.str (b.cols.getD k Co.zero).name),(86,.bool (!((a.cols.getD k Co.zero).name==(b.cols.getD k Co.zero).name))),(87,.bool (!((a.cols.getD k Co.zero).name==(b.cols.getD k Co.zero).name)))] [.box [.str a.name,.imm (a.cols.map Co.v),.imm (a.key.map aa.str),.imm (a.refs.map Rf.v),.int .i64 (a.chk.kind),.str a.chk.name,.int .i64 (a.chk.n),.str a.chk.s,.imm (a.chk.names.map aa.str),.imm (a.chk.binds.map aa.str),.imm (a.chk.kids.map Ex.enc),.int .i64 (a.chk.pos),.int .i64 (a.chk.fin)],.box [.str b.name,.imm (b.cols.map Co.v),.imm (b.key.map aa.str),.imm (b.refs.map Rf.v),.int .i64 (b.chk.kind),.str b.chk.name,.int .i64 (b.chk.n),.str b.chk.s,.imm (b.chk.names.map aa.str),.imm (b.chk.binds.map aa.str),.imm (b.chk.kids.map Ex.enc),.int .i64 (b.chk.pos),.int .i64 (b.chk.fin)]] ?_ ?_
 by_cases hb8:(a.cols.getD k Co.zero).name=(b.cols.getD k Co.zero).name
 refine qf (x:=(!((a.cols.getD k Co.zero).name==(b.cols.getD k Co.zero).name))) (congrArg not (beq_iff_eq.2 hb8)) ?_ ?_
 refine qk ?_ ?_
 refine ah ?_
 refine ab ?_
 refine qz [(2,.ptr 0 0),(3,.ptr 1 0),(7,nI k),(74,.ptr 0 1),(75,.imm (a.cols.map Co.v)),(76,nI k),(77,.pimm [.str (a.cols.getD k Co.zero).name,.int .i64 ((a.cols.getD k Co.zero).type.kind),.str (a.cols.getD k Co.zero).type.name,.int .i64 ((a.cols.getD k Co.zero).type.n),.imm ((a.cols.getD k Co.zero).type.names.map aa.str),.imm ((a.cols.getD k Co.zero).type.kids.map Ty.enc)] 0),(78,.pimm [.str (a.cols.getD k Co.zero).name,.int .i64 ((a.cols.getD k Co.zero).type.kind),.str (a.cols.getD k Co.zero).type.name,.int .i64 ((a.cols.getD k Co.zero).type.n),.imm ((a.cols.getD k Co.zero).type.names.map aa.str),.imm ((a.cols.getD k Co.zero).type.kids.map Ty.enc)] 0),(79,.str (a.cols.getD k Co.zero).name),(80,.ptr 1 1),(81,.imm (b.cols.map Co.v)),(82,nI k),(83,.pimm [.str (b.cols.getD k Co.zero).name,.int .i64 ((b.cols.getD k Co.zero).type.kind),.str (b.cols.getD k Co.zero).type.name,.int .i64 ((b.cols.getD k Co.zero).type.n),.imm ((b.cols.getD k Co.zero).type.names.map aa.str),.imm ((b.cols.getD k Co.zero).type.kids.map Ty.enc)] 0),(84,.pimm [.str (b.cols.getD k Co.zero).name,.int .i64 ((b.cols.getD k Co.zero).type.kind),.str (b.cols.getD k Co.zero).type.name,.int .i64 ((b.cols.getD k Co.zero).type.n),.imm ((b.cols.getD k Co.zero).type.names.map aa.str),.imm ((b.cols.getD k Co.zero).type.kids.map Ty.enc)] 0),(85,.str (b.cols.getD k Co.zero).name),(86,.bool (!((a.cols.getD k Co.zero).name==(b.cols.getD k Co.zero).name)))] ?_ ?_
 refine qo ?_ ?_
 refine qr 1 ?_ ?_
 refine qy (aI (a:=((k:Nat):Int)) (b:=1) kq oq oq) ?_ ?_ ?_
 refine qr 1 ?_ ?_
 refine qe ?_ ?_
 refine ab ⟨k+1,?_,?_,⟨⟨kq,kq,kq,trivial⟩,by simp [aG,aa.bel],by simp,kq,by simp [ai.belO]⟩⟩
 · omega
 · refine ⟨by omega,fun i hi=>?_⟩
   rcases Nat.lt_succ_iff_lt_or_eq.1 hi with h|h
   · exact hak i h
   · subst h;simp_all [Co.beq]
 iterate 9 kernel_rfl
 refine qt (x:=(!((a.cols.getD k Co.zero).name==(b.cols.getD k Co.zero).name))) (congrArg not (beq_eq_false_iff_ne.2 hb8)) ?_ ?_
 refine qV 1 ?_ ?_
 refine qT ?_ ?_
 apply iR
 apply aR
 apply aR
 apply iR
 apply aR
 refine a7 (b:=false) (.inr rfl) kq ?_
 rotate_left
 iterate 13 kernel_rfl
 refine bQ 72 (.bool (!(((a.cols.getD k Co.zero).type).beq ((b.cols.getD k Co.zero).type)))) (.bool true) (bO ap) kq (congrArg aa.bool (congrArg not (Bool.eq_false_iff.2 hb7))) ?_
 refine bQ 73 (.bool (!(((a.cols.getD k Co.zero).type).beq ((b.cols.getD k Co.zero).type)))) (.bool true) (bO ap) kq (congrArg aa.bool (congrArg not (Bool.eq_false_iff.2 hb7))) ?_
 refine qu 14 ?_ ?_
 refine bG kq ⟨kq,?_⟩
 refine ab ?_
 refine qZ [(2,.ptr 0 0),(3,.ptr 1 0),(7,nI k),(74,.tup []),(75,.tup []),(76,.tup []),(77,.tup []),(78,.tup []),(79,.tup []),(80,.tup []),(81,.tup []),(82,.tup []),(83,.tup []),(84,.tup []),(85,.tup []),(86,.tup []),(87,.bool true)] [.box [.str a.name,.imm (a.cols.map Co.v),.imm (a.key.map aa.str),.imm (a.refs.map Rf.v),.int .i64 (a.chk.kind),.str a.chk.name,.int .i64 (a.chk.n),.str a.chk.s,.imm (a.chk.names.map aa.str),.imm (a.chk.binds.map aa.str),.imm (a.chk.kids.map Ex.enc),.int .i64 (a.chk.pos),.int .i64 (a.chk.fin)],.box [.str b.name,.imm (b.cols.map Co.v),.imm (b.key.map aa.str),.imm (b.refs.map Rf.v),.int .i64 (b.chk.kind),.str b.chk.name,.int .i64 (b.chk.n),.str b.chk.s,.imm (b.chk.names.map aa.str),.imm (b.chk.binds.map aa.str),.imm (b.chk.kids.map Ex.enc),.int .i64 (b.chk.pos),.int .i64 (b.chk.fin)]] ?_ ?_
 refine cU kq kq ?_
 refine qV 1 ?_ ?_
 refine qT ?_ ?_
 apply iR
 apply aR
 apply aR
 apply iR
 apply aR
 refine a7 (b:=false) (.inr rfl) kq ?_
 rotate_left
 iterate 24 kernel_rfl
 refine qf (decide_eq_false hb6) ?_ ?_
 refine a6 0 kq kq ?_
 refine af ?_
 refine af ?_
 refine aE ?_
 refine ab ?_
 refine qz [(2,.ptr 0 0),(3,.ptr 1 0)] ?_ ?_
 refine az ?_ ?_
 refine qU 1 [(2,.ptr 0 0),(3,.ptr 1 0),(9,.int .i64 0)] ?_ ?_
 refine qB 2 ?_ ?_ ?_
 refine bn (σ:=Nat) (fun q=>[(2,.ptr 0 0),(3,.ptr 1 0),(9,.int .i64 ((q:Nat):Int))]) (fun q=>[.box [.str a.name,.imm (a.cols.map Co.v),.imm (a.key.map aa.str),.imm (a.refs.map Rf.v),.int .i64 (a.chk.kind),.str a.chk.name,.int .i64 (a.chk.n),.str a.chk.s,.imm (a.chk.names.map aa.str),.imm (a.chk.binds.map aa.str),.imm (a.chk.kids.map Ex.enc),.int .i64 (a.chk.pos),.int .i64 (a.chk.fin)],.box [.str b.name,.imm (b.cols.map Co.v),.imm (b.key.map aa.str),.imm (b.refs.map Rf.v),.int .i64 (b.chk.kind),.str b.chk.name,.int .i64 (b.chk.n),.str b.chk.s,.imm (b.chk.names.map aa.str),.imm (b.chk.binds.map aa.str),.imm (b.chk.kids.map Ex.enc),.int .i64 (b.chk.pos),.int .i64 (b.chk.fin)]]) (fun q=>q≤a.refs.length∧∀ i,i<q→(a.refs.getD i Rf.zero).beq (b.refs.getD i Rf.zero)=true) (fun q=>a.refs.length - q) 0 kq (by exact ⟨Nat.zero_le _,fun i h=>absurd h (Nat.not_lt_zero i)⟩) ⟨⟨kq,kq,kq,trivial⟩,by simp [aG,aa.bel],by simp,kq,by simp [ai.belO]⟩ ?_
 rintro q ⟨hkq,haq⟩
 refine az ?_ ?_
 refine qV 3 ?_ ?_
 refine qy (aw (l:=a.refs) (enc:=Rf.v) kq gt) ?_ ?_ ?_
 refine qR 1 [(2,.ptr 0 0),(3,.ptr 1 0),(9,nI q),(92,.bool (decide (((q:Nat):Int)<((a.refs.length:Nat):Int))))] [.box [.str a.name,.imm (a.cols.map Co.v),.imm (a.key.map aa.str),.imm (a.refs.map Rf.v),.int .i64 (a.chk.kind),.str a.chk.name,.int .i64 (a.chk.n),.str a.chk.s,.imm (a.chk.names.map aa.str),.imm (a.chk.binds.map aa.str),.imm (a.chk.kids.map Ex.enc),.int .i64 (a.chk.pos),.int .i64 (a.chk.fin)],.box [.str b.name,.imm (b.cols.map Co.v),.imm (b.key.map aa.str),.imm (b.refs.map Rf.v),.int .i64 (b.chk.kind),.str b.chk.name,.int .i64 (b.chk.n),.str b.chk.s,.imm (b.chk.names.map aa.str),.imm (b.chk.binds.map aa.str),.imm (b.chk.kids.map Ex.enc),.int .i64 (b.chk.pos),.int .i64 (b.chk.fin)]] ?_ ?_
 by_cases hb9:((q:Nat):Int)<((a.refs.length:Nat):Int)
 refine qt (decide_eq_true hb9) ?_ ?_
 refine qK ?_ ?_
 refine qz [(2,.ptr 0 0),(3,.ptr 1 0),(9,nI q)] ?_ ?_
 refine az ?_ ?_
 refine qB 3 ?_ ?_ ?_
 refine az ?_ ?_
 refine b6 cxM kq ap (aU ?_)
 refine qu 3 ?_ ?_
 refine qd ((aA (k:=.i64) (l:=a.refs) (enc:=Rf.v) (i:=((q:Nat):Int)) Rf.zero kq gt mD (fun _=>rfl) oq oq).trans (congrArg (fun cs=>some (aa.pimm cs 0,_)) (en (a.refs.getD q Rf.zero)))) ?_ ?_ ?_ ?_
 refine qu 4 ?_ ?_
 refine qd ((aA (k:=.i64) (l:=b.refs) (enc:=Rf.v) (i:=((q:Nat):Int)) Rf.zero kq gt mD (fun _=>rfl) oq oq).trans (congrArg (fun cs=>some (aa.pimm cs 0,_)) (en (b.refs.getD q Rf.zero)))) ?_ ?_ ?_ ?_
 refine qu 1 ?_ ?_
 refine qd (zY kq (uY (a.refs.getD q Rf.zero) (b.refs.getD q Rf.zero))) ?_ ?_ ?_ ?_
 refine bG kq ⟨kq,?_⟩
 refine ab ?_
 refine qZ [(2,.ptr 0 0),(3,.ptr 1 0),(9,nI q),(105,.bool (!(Rf.beq (a.refs.getD q Rf.zero) (b.refs.getD q Rf.zero))))] [.box [.str a.name,.imm (a.cols.map Co.v),.imm (a.key.map aa.str),.imm (a.refs.map Rf.v),.int .i64 (a.chk.kind),.str a.chk.name,.int .i64 (a.chk.n),.str a.chk.s,.imm (a.chk.names.map aa.str),.imm (a.chk.binds.map aa.str),.imm (a.chk.kids.map Ex.enc),.int .i64 (a.chk.pos),.int .i64 (a.chk.fin)],.box [.str b.name,.imm (b.cols.map Co.v),.imm (b.key.map aa.str),.imm (b.refs.map Rf.v),.int .i64 (b.chk.kind),.str b.chk.name,.int .i64 (b.chk.n),.str b.chk.s,.imm (b.chk.names.map aa.str),.imm (b.chk.binds.map aa.str),.imm (b.chk.kids.map Ex.enc),.int .i64 (b.chk.pos),.int .i64 (b.chk.fin)]] ?_ ?_
 by_cases hb10:(Rf.beq (a.refs.getD q Rf.zero) (b.refs.getD q Rf.zero))=true
 refine qf (x:=(!(Rf.beq (a.refs.getD q Rf.zero) (b.refs.getD q Rf.zero)))) (congrArg not (hb10)) ?_ ?_
 refine qk ?_ ?_
 refine ah ?_
 refine ab ?_
 refine qz [(2,.ptr 0 0),(3,.ptr 1 0),(9,nI q)] ?_ ?_
 refine qo ?_ ?_
 refine qr 1 ?_ ?_
 refine qy (aI (a:=((q:Nat):Int)) (b:=1) kq oq oq) ?_ ?_ ?_
 refine qr 1 ?_ ?_
 refine qe ?_ ?_
 refine ab ⟨q+1,?_,?_,⟨⟨kq,kq,kq,trivial⟩,by simp [aG,aa.bel],by simp,kq,by simp [ai.belO]⟩⟩
 · omega
 · refine ⟨by omega,fun i hi=>?_⟩
   rcases Nat.lt_succ_iff_lt_or_eq.1 hi with h|h
   · exact haq i h
   · subst h;simp_all [Rf.beq]
 iterate 9 kernel_rfl
 refine qt (x:=(!(Rf.beq (a.refs.getD q Rf.zero) (b.refs.getD q Rf.zero)))) (congrArg not (Bool.eq_false_iff.2 hb10)) ?_ ?_
 refine qV 1 ?_ ?_
 refine qT ?_ ?_
 apply iR
 apply aR
 apply aR
 apply iR
 apply aR
 refine a7 (b:=false) (.inr rfl) kq ?_
 rotate_left
 iterate 23 kernel_rfl
 refine qf (decide_eq_false hb9) ?_ ?_
 refine a6 2 kq kq ?_
 refine af ?_
 refine af ?_
 refine aE ?_
 refine ab ?_
 refine qz [] ?_ ?_
 refine qV 1 ?_ ?_
 refine qT ?_ ?_
 refine a7 (b:=true) (.inr rfl) kq ?_
 rotate_left
 iterate 27 kernel_rfl
 refine qt (x:=(((a.refs.length:Nat):Int) != ((b.refs.length:Nat):Int))) (bne_iff_ne.2 hb5) ?_ ?_
 refine qV 1 ?_ ?_
 refine qT ?_ ?_
 apply aR
 refine a7 (b:=false) (.inr rfl) kq ?_
 rotate_left
 iterate 11 kernel_rfl
 refine qm [40,41,42] (x:=(((a.cols.length:Nat):Int) != ((b.cols.length:Nat):Int))) (bne_iff_ne.2 hb4) ?_ ?_
 refine qR 8 [(2,.ptr 0 0),(3,.ptr 1 0),(50,.bool true)] [.box [.str a.name,.imm (a.cols.map Co.v),.imm (a.key.map aa.str),.imm (a.refs.map Rf.v),.int .i64 (a.chk.kind),.str a.chk.name,.int .i64 (a.chk.n),.str a.chk.s,.imm (a.chk.names.map aa.str),.imm (a.chk.binds.map aa.str),.imm (a.chk.kids.map Ex.enc),.int .i64 (a.chk.pos),.int .i64 (a.chk.fin)],.box [.str b.name,.imm (b.cols.map Co.v),.imm (b.key.map aa.str),.imm (b.refs.map Rf.v),.int .i64 (b.chk.kind),.str b.chk.name,.int .i64 (b.chk.n),.str b.chk.s,.imm (b.chk.names.map aa.str),.imm (b.chk.binds.map aa.str),.imm (b.chk.kids.map Ex.enc),.int .i64 (b.chk.pos),.int .i64 (b.chk.fin)]] ?_ ?_
 refine cU kq kq ?_
 refine qV 1 ?_ ?_
 refine qT ?_ ?_
 apply aR
 refine a7 (b:=false) (.inr rfl) kq ?_
 rotate_left
 iterate 12 kernel_rfl
 refine qm [31,32,33] (x:=(!(a.name==b.name))) (congrArg not (beq_eq_false_iff_ne.2 hb3)) ?_ ?_
 refine qR 17 [(2,.ptr 0 0),(3,.ptr 1 0),(50,.bool true)] [.box [.str a.name,.imm (a.cols.map Co.v),.imm (a.key.map aa.str),.imm (a.refs.map Rf.v),.int .i64 (a.chk.kind),.str a.chk.name,.int .i64 (a.chk.n),.str a.chk.s,.imm (a.chk.names.map aa.str),.imm (a.chk.binds.map aa.str),.imm (a.chk.kids.map Ex.enc),.int .i64 (a.chk.pos),.int .i64 (a.chk.fin)],.box [.str b.name,.imm (b.cols.map Co.v),.imm (b.key.map aa.str),.imm (b.refs.map Rf.v),.int .i64 (b.chk.kind),.str b.chk.name,.int .i64 (b.chk.n),.str b.chk.s,.imm (b.chk.names.map aa.str),.imm (b.chk.binds.map aa.str),.imm (b.chk.kids.map Ex.enc),.int .i64 (b.chk.pos),.int .i64 (b.chk.fin)]] ?_ ?_
 refine cU kq kq ?_
 refine qV 1 ?_ ?_
 refine qT ?_ ?_
 apply aR
 refine a7 (b:=false) (.inr rfl) kq ?_
 rotate_left
 iterate 6 kernel_rfl
 refine qm [24,25,26] (x:=(!(a.chk.beq b.chk))) (congrArg not (Bool.eq_false_iff.2 hb2)) ?_ ?_
 refine qR 24 [(2,.ptr 0 0),(3,.ptr 1 0),(50,.bool true)] [.box [.str a.name,.imm (a.cols.map Co.v),.imm (a.key.map aa.str),.imm (a.refs.map Rf.v),.int .i64 (a.chk.kind),.str a.chk.name,.int .i64 (a.chk.n),.str a.chk.s,.imm (a.chk.names.map aa.str),.imm (a.chk.binds.map aa.str),.imm (a.chk.kids.map Ex.enc),.int .i64 (a.chk.pos),.int .i64 (a.chk.fin)],.box [.str b.name,.imm (b.cols.map Co.v),.imm (b.key.map aa.str),.imm (b.refs.map Rf.v),.int .i64 (b.chk.kind),.str b.chk.name,.int .i64 (b.chk.n),.str b.chk.s,.imm (b.chk.names.map aa.str),.imm (b.chk.binds.map aa.str),.imm (b.chk.kids.map Ex.enc),.int .i64 (b.chk.pos),.int .i64 (b.chk.fin)]] ?_ ?_
 refine cU kq kq ?_
 refine qV 1 ?_ ?_
 refine qT ?_ ?_
 apply aR
 refine a7 (b:=false) (.inr rfl) kq ?_
 rotate_left
 iterate 6 kernel_rfl
 refine qm [21,22] (x:=(!(a.key==b.key))) (congrArg not (Bool.eq_false_iff.2 hb1)) ?_ ?_
 refine qR 28 [(2,.ptr 0 0),(3,.ptr 1 0),(50,.bool true)] [.box [.str a.name,.imm (a.cols.map Co.v),.imm (a.key.map aa.str),.imm (a.refs.map Rf.v),.int .i64 (a.chk.kind),.str a.chk.name,.int .i64 (a.chk.n),.str a.chk.s,.imm (a.chk.names.map aa.str),.imm (a.chk.binds.map aa.str),.imm (a.chk.kids.map Ex.enc),.int .i64 (a.chk.pos),.int .i64 (a.chk.fin)],.box [.str b.name,.imm (b.cols.map Co.v),.imm (b.key.map aa.str),.imm (b.refs.map Rf.v),.int .i64 (b.chk.kind),.str b.chk.name,.int .i64 (b.chk.n),.str b.chk.s,.imm (b.chk.names.map aa.str),.imm (b.chk.binds.map aa.str),.imm (b.chk.kids.map Ex.enc),.int .i64 (b.chk.pos),.int .i64 (b.chk.fin)]] ?_ ?_
 refine cU kq kq ?_
 refine qV 1 ?_ ?_
 refine qT ?_ ?_
 apply aR
 refine a7 (b:=false) (.inr rfl) kq ?_
 rotate_left
 iterate 12 kernel_rfl
 all_goals
  refine Eq.trans ?_ (show ((a.name==b.name) && (bw Co.beq a.cols b.cols && ((a.key==b.key) && (bw Rf.beq a.refs b.refs && a.chk.beq b.chk))))=a.beq b from rfl)
  first|(simp only [cl Co.beq a.cols b.cols oq,Bool.and_false,Bool.false_and];done)|(simp only [cl Rf.beq a.refs b.refs oq,Bool.and_false,Bool.false_and];done)|(rw [bH Co.beq Co.zero Co.zero a.cols b.cols oq (fun i hi=>hak i oq),bH Rf.beq Rf.zero Rf.zero a.refs b.refs oq (fun i hi=>haq i oq)];simp_all;done)|(rw [cN Rf.beq Rf.zero Rf.zero a.refs b.refs q oq oq (by simp_all)];simp;done)|(rw [cN Co.beq Co.zero Co.zero a.cols b.cols k oq oq (by simp_all [Co.beq])];simp;done)|(simp_all;done)
end Go.Proofs.YtcpklndelobigaaGreatDoor
