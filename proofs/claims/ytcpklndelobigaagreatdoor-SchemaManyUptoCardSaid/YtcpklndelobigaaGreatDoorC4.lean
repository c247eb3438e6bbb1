/- Equal of expressions in both packages. No condition. -/
import Derived.Test.YtcpklndelobigaaGreatDoorC3
set_option linter.all false
namespace Go.Proofs.YtcpklndelobigaaGreatDoor
open Go.Proofs.YtcpklndelobigaaGreatDoor.Abs
set_option maxRecDepth 20000
set_option maxHeartbeats 4000000
theorem wQ {a b:Ex} {v:Bool} (h:v=((a.kind==b.kind) && ((a.name==b.name) && ((a.n==b.n) && ((a.s==b.s) && ((a.names==b.names) && ((a.binds==b.binds) && bw Ex.beq a.kids b.kids))))))):v=a.beq b:=by rw [tA];exact h
noncomputable def c96:Code:=aT Tryz.f96
theorem pr {p:Prop} (h:p:=by simp [Ty.v,Ex.v]):p:=h
theorem q7 (a b:Ex) (hs:a.sz<100000000):ao cx 96 [Ex.v a,Ex.v b] (.bool (a.beq b)):=by
 induction hN:a.sz using Nat.strongRecOn generalizing a b with|_ N ih =>
 have hc:∀ i,i<a.kids.length→i<b.kids.length→ao cx 96 [(a.kids.getD i Ex.zero).v,(b.kids.getD i Ex.zero).v] (.bool ((a.kids.getD i Ex.zero).beq (b.kids.getD i Ex.zero))):=fun i h1 _=>ih _ (by rw [← hN];exact nG a i h1) _ _ (Nat.lt_trans (nG a i h1) hs) rfl
 have hz1:=tD a
 have hz2:=vi a
 have hz3:=uH a
 refine aC (cx:=cx) 82 0 [(ResultVar.tmp 4)] Tryz.func96 rfl rfl rfl rfl rfl zq ?_
 show wpA cx 82 0 (at_ c96 []) _ _ _
 refine qZ [(0,Ex.v a),(1,Ex.v b)] [] ?_ ?_
 refine qW 3 [(2,.ptr 0 0),(3,.ptr 1 0)] [.box [.int .i64 (a.kind),.str a.name,.int .i64 (a.n),.str a.s,.imm (a.names.map aa.str),.imm (a.binds.map aa.str),.imm (a.kids.map Ex.enc),.int .i64 (a.pos),.int .i64 (a.fin)],.box [.int .i64 (b.kind),.str b.name,.int .i64 (b.n),.str b.s,.imm (b.names.map aa.str),.imm (b.binds.map aa.str),.imm (b.kids.map Ex.enc),.int .i64 (b.pos),.int .i64 (b.fin)]] ?_ ?_
 refine qV 4 ?_ ?_
 refine bj (args:=[.imm (a.names.map aa.str),.imm (b.names.map aa.str)]) kq kq kq kq (cX a.names b.names oq) pr pr pr ?_
 refine qR 1 [(2,.ptr 0 0),(3,.ptr 1 0),(5,.bool (a.names==b.names))] [.box [.int .i64 (a.kind),.str a.name,.int .i64 (a.n),.str a.s,.imm (a.names.map aa.str),.imm (a.binds.map aa.str),.imm (a.kids.map Ex.enc),.int .i64 (a.pos),.int .i64 (a.fin)],.box [.int .i64 (b.kind),.str b.name,.int .i64 (b.n),.str b.s,.imm (b.names.map aa.str),.imm (b.binds.map aa.str),.imm (b.kids.map Ex.enc),.int .i64 (b.pos),.int .i64 (b.fin)]] ?_ ?_
 refine qV 4 ?_ ?_
 refine bj (args:=[.imm (a.binds.map aa.str),.imm (b.binds.map aa.str)]) kq kq kq kq (cX a.binds b.binds oq) pr pr pr ?_
 refine qR 1 [(2,.ptr 0 0),(3,.ptr 1 0),(5,.bool (a.names==b.names)),(6,.bool (a.binds==b.binds))] [.box [.int .i64 (a.kind),.str a.name,.int .i64 (a.n),.str a.s,.imm (a.names.map aa.str),.imm (a.binds.map aa.str),.imm (a.kids.map Ex.enc),.int .i64 (a.pos),.int .i64 (a.fin)],.box [.int .i64 (b.kind),.str b.name,.int .i64 (b.n),.str b.s,.imm (b.names.map aa.str),.imm (b.binds.map aa.str),.imm (b.kids.map Ex.enc),.int .i64 (b.pos),.int .i64 (b.fin)]] ?_ ?_
 refine az ?_ ?_
 refine qV 3 ?_ ?_
 by_cases hb1:(a.names==b.names)=true
 refine qm [20,21] (x:=(!(a.names==b.names))) (congrArg not (hb1)) ?_ ?_
 refine qr 4 ?_ ?_
 by_cases hb2:(a.binds==b.binds)=true
 refine qm [23,24,25] (x:=(!(a.binds==b.binds))) (congrArg not (hb2)) ?_ ?_
 refine qr 7 ?_ ?_
 by_cases hb3:(a.kind)=(b.kind)
 refine qm [30,31,32] (x:=((a.kind) != (b.kind))) (bne_eq_false_iff_eq.2 hb3) ?_ ?_
 refine qr 7 ?_ ?_
 by_cases hb4:a.name=b.name
 refine qm [37,38,39] (x:=(!(a.name==b.name))) (congrArg not (beq_iff_eq.2 hb4)) ?_ ?_
 refine qr 7 ?_ ?_
 by_cases hb5:(a.n)=(b.n)
 refine qm [44,45,46] (x:=((a.n) != (b.n))) (bne_eq_false_iff_eq.2 hb5) ?_ ?_
 refine qr 7 ?_ ?_
 by_cases hb6:a.s=b.s
 refine qm [51,52,53] (x:=(!(a.s==b.s))) (congrArg not (beq_iff_eq.2 hb6)) ?_ ?_
 refine qr 2 ?_ ?_
 refine qy (aw (l:=a.kids) (enc:=Ex.enc) kq vd) ?_ ?_ ?_
 refine qr 2 ?_ ?_
 refine qy (aw (l:=b.kids) (enc:=Ex.enc) kq vd) ?_ ?_ ?_
 refine qR 2 [(2,.ptr 0 0),(3,.ptr 1 0),(61,.bool (((a.kids.length:Nat):Int) != ((b.kids.length:Nat):Int)))] [.box [.int .i64 (a.kind),.str a.name,.int .i64 (a.n),.str a.s,.imm (a.names.map aa.str),.imm (a.binds.map aa.str),.imm (a.kids.map Ex.enc),.int .i64 (a.pos),.int .i64 (a.fin)],.box [.int .i64 (b.kind),.str b.name,.int .i64 (b.n),.str b.s,.imm (b.names.map aa.str),.imm (b.binds.map aa.str),.imm (b.kids.map Ex.enc),.int .i64 (b.pos),.int .i64 (b.fin)]] ?_ ?_
 by_cases hb7:((a.kids.length:Nat):Int)=((b.kids.length:Nat):Int)
 refine qf (x:=(((a.kids.length:Nat):Int) != ((b.kids.length:Nat):Int))) (bne_eq_false_iff_eq.2 hb7) ?_ ?_
 refine qK ?_ ?_
 refine qz [(2,.ptr 0 0),(3,.ptr 1 0)] ?_ ?_
 refine az ?_ ?_
 refine qU 1 [(2,.ptr 0 0),(3,.ptr 1 0),(7,.int .i64 0)] ?_ ?_
 refine qB 0 ?_ ?_ ?_
 refine bn (σ:=Nat) (fun k=>[(2,.ptr 0 0),(3,.ptr 1 0),(7,.int .i64 ((k:Nat):Int))]) (fun k=>[.box [.int .i64 (a.kind),.str a.name,.int .i64 (a.n),.str a.s,.imm (a.names.map aa.str),.imm (a.binds.map aa.str),.imm (a.kids.map Ex.enc),.int .i64 (a.pos),.int .i64 (a.fin)],.box [.int .i64 (b.kind),.str b.name,.int .i64 (b.n),.str b.s,.imm (b.names.map aa.str),.imm (b.binds.map aa.str),.imm (b.kids.map Ex.enc),.int .i64 (b.pos),.int .i64 (b.fin)]]) (fun k=>k≤a.kids.length∧∀ i,i<k→(a.kids.getD i Ex.zero).beq (b.kids.getD i Ex.zero)=true) (fun k=>a.kids.length - k) 0 kq zq ⟨⟨kq,kq,kq,trivial⟩,by simp [aG,aa.bel],by simp,kq,by simp [ai.belO]⟩ ?_
 rintro k ⟨hk,ha⟩
 refine az ?_ ?_
 refine qV 3 ?_ ?_
 refine qy (aw (l:=a.kids) (enc:=Ex.enc) kq vd) ?_ ?_ ?_
 refine qR 1 [(2,.ptr 0 0),(3,.ptr 1 0),(7,nI k),(66,.bool (decide (((k:Nat):Int)<((a.kids.length:Nat):Int))))] [.box [.int .i64 (a.kind),.str a.name,.int .i64 (a.n),.str a.s,.imm (a.names.map aa.str),.imm (a.binds.map aa.str),.imm (a.kids.map Ex.enc),.int .i64 (a.pos),.int .i64 (a.fin)],.box [.int .i64 (b.kind),.str b.name,.int .i64 (b.n),.str b.s,.imm (b.names.map aa.str),.imm (b.binds.map aa.str),.imm (b.kids.map Ex.enc),.int .i64 (b.pos),.int .i64 (b.fin)]] ?_ ?_
 by_cases hb8:((k:Nat):Int)<((a.kids.length:Nat):Int)
 refine qt (decide_eq_true hb8) ?_ ?_
 refine qK ?_ ?_
 refine qz [(2,.ptr 0 0),(3,.ptr 1 0),(7,nI k)] ?_ ?_
 refine az ?_ ?_
 refine qB 1 ?_ ?_ ?_
 refine az ?_ ?_
 refine b6 cxM kq ap (aU ?_)
 refine qu 3 ?_ ?_
 refine qd ((aA (k:=.i64) (l:=a.kids) (enc:=Ex.enc) (i:=((k:Nat):Int)) Ex.zero kq vd BL tg oq oq).trans (congrArg (fun cs=>some (aa.pimm cs 0,_)) (ma (a.kids.getD k Ex.zero)))) ?_ ?_ ?_ ?_
 refine qu 4 ?_ ?_
 refine qd ((aA (k:=.i64) (l:=b.kids) (enc:=Ex.enc) (i:=((k:Nat):Int)) Ex.zero kq vd BL tg oq oq).trans (congrArg (fun cs=>some (aa.pimm cs 0,_)) (ma (b.kids.getD k Ex.zero)))) ?_ ?_ ?_ ?_
 refine qu 1 ?_ ?_
 refine cc (args:=[.agg [.int .i64 ((a.kids.getD k Ex.zero).kind),.str (a.kids.getD k Ex.zero).name,.int .i64 ((a.kids.getD k Ex.zero).n),.str (a.kids.getD k Ex.zero).s,.imm ((a.kids.getD k Ex.zero).names.map aa.str),.imm ((a.kids.getD k Ex.zero).binds.map aa.str),.imm ((a.kids.getD k Ex.zero).kids.map Ex.enc),.int .i64 ((a.kids.getD k Ex.zero).pos),.int .i64 ((a.kids.getD k Ex.zero).fin)],.agg [.int .i64 ((b.kids.getD k Ex.zero).kind),.str (b.kids.getD k Ex.zero).name,.int .i64 ((b.kids.getD k Ex.zero).n),.str (b.kids.getD k Ex.zero).s,.imm ((b.kids.getD k Ex.zero).names.map aa.str),.imm ((b.kids.getD k Ex.zero).binds.map aa.str),.imm ((b.kids.getD k Ex.zero).kids.map Ex.enc),.int .i64 ((b.kids.getD k Ex.zero).pos),.int .i64 ((b.kids.getD k Ex.zero).fin)]]) kq kq kq kq kq (hc k oq oq) (by intro _;simp [Ty.v,Ex.v]) pr pr ?_
 refine qu 1 ?_ ?_
 refine bG kq ⟨kq,?_⟩
 refine ab ?_
 refine qZ [(2,.ptr 0 0),(3,.ptr 1 0),(7,nI k),(8,.bool ((a.kids.getD k Ex.zero).beq (b.kids.getD k Ex.zero)))] [.box [.int .i64 (a.kind),.str a.name,.int .i64 (a.n),.str a.s,.imm (a.names.map aa.str),.imm (a.binds.map aa.str),.imm (a.kids.map Ex.enc),.int .i64 (a.pos),.int .i64 (a.fin)],.box [.int .i64 (b.kind),.str b.name,.int .i64 (b.n),.str b.s,.imm (b.names.map aa.str),.imm (b.binds.map aa.str),.imm (b.kids.map Ex.enc),.int .i64 (b.pos),.int .i64 (b.fin)]] ?_ ?_
 refine qU 2 [(2,.ptr 0 0),(3,.ptr 1 0),(7,nI k),(81,.bool (!((a.kids.getD k Ex.zero).beq (b.kids.getD k Ex.zero))))] ?_ ?_
 by_cases hb9:((a.kids.getD k Ex.zero).beq (b.kids.getD k Ex.zero))=true
 refine qf (x:=(!((a.kids.getD k Ex.zero).beq (b.kids.getD k Ex.zero)))) (congrArg not (hb9)) ?_ ?_
 refine qk ?_ ?_
 refine ah ?_
 refine ab ?_
 refine qz [(2,.ptr 0 0),(3,.ptr 1 0),(7,nI k)] ?_ ?_
 refine qo ?_ ?_
 refine qr 1 ?_ ?_
 refine qy (aI (a:=((k:Nat):Int)) (b:=1) kq oq oq) ?_ ?_ ?_
 refine qr 1 ?_ ?_
 refine qe ?_ ?_
 refine ab ⟨k+1,?_,?_,⟨⟨kq,kq,kq,trivial⟩,by simp [aG,aa.bel],by simp,kq,by simp [ai.belO]⟩⟩
 · omega
 · refine ⟨by omega,fun i hi=>?_⟩
   rcases Nat.lt_succ_iff_lt_or_eq.1 hi with h|h
   · exact ha i h
   · subst h;assumption
 iterate 9 kernel_rfl
 refine qt (x:=(!((a.kids.getD k Ex.zero).beq (b.kids.getD k Ex.zero)))) (congrArg not (Bool.eq_false_iff.2 hb9)) ?_ ?_
 refine qV 1 ?_ ?_
 refine qT ?_ ?_
 apply iR
 apply aR
 apply aR
 apply iR
 apply aR
 refine a7 (b:=false) (.inr rfl) kq ?_
 rotate_left
 iterate 22 kernel_rfl
 refine qf (decide_eq_false hb8) ?_ ?_
 refine a6 0 kq kq ?_
 refine af ?_
 refine af ?_
 refine aE ?_
 refine ab ?_
 refine qz [] ?_ ?_
 refine qV 1 ?_ ?_
 refine qT ?_ ?_
 refine a7 (b:=true) (.inr rfl) kq ?_
 rotate_left
 iterate 16 kernel_rfl
 refine qt (x:=(((a.kids.length:Nat):Int) != ((b.kids.length:Nat):Int))) (bne_iff_ne.2 hb7) ?_ ?_
 refine qV 1 ?_ ?_
 refine qT ?_ ?_
 apply aR
 refine a7 (b:=false) (.inr rfl) kq ?_
 rotate_left
 iterate 11 kernel_rfl
 refine qm [51,52,53] (x:=(!(a.s==b.s))) (congrArg not (beq_eq_false_iff_ne.2 hb6)) ?_ ?_
 refine qR 8 [(2,.ptr 0 0),(3,.ptr 1 0),(61,.bool true)] [.box [.int .i64 (a.kind),.str a.name,.int .i64 (a.n),.str a.s,.imm (a.names.map aa.str),.imm (a.binds.map aa.str),.imm (a.kids.map Ex.enc),.int .i64 (a.pos),.int .i64 (a.fin)],.box [.int .i64 (b.kind),.str b.name,.int .i64 (b.n),.str b.s,.imm (b.names.map aa.str),.imm (b.binds.map aa.str),.imm (b.kids.map Ex.enc),.int .i64 (b.pos),.int .i64 (b.fin)]] ?_ ?_
 refine cU kq kq ?_
 refine qV 1 ?_ ?_
 refine qT ?_ ?_
 apply aR
 refine a7 (b:=false) (.inr rfl) kq ?_
 rotate_left
 iterate 6 kernel_rfl
 refine qm [44,45,46] (x:=((a.n) != (b.n))) (bne_iff_ne.2 hb5) ?_ ?_
 refine qR 15 [(2,.ptr 0 0),(3,.ptr 1 0),(61,.bool true)] [.box [.int .i64 (a.kind),.str a.name,.int .i64 (a.n),.str a.s,.imm (a.names.map aa.str),.imm (a.binds.map aa.str),.imm (a.kids.map Ex.enc),.int .i64 (a.pos),.int .i64 (a.fin)],.box [.int .i64 (b.kind),.str b.name,.int .i64 (b.n),.str b.s,.imm (b.names.map aa.str),.imm (b.binds.map aa.str),.imm (b.kids.map Ex.enc),.int .i64 (b.pos),.int .i64 (b.fin)]] ?_ ?_
 refine cU kq kq ?_
 refine qV 1 ?_ ?_
 refine qT ?_ ?_
 apply aR
 refine a7 (b:=false) (.inr rfl) kq ?_
 rotate_left
 iterate 6 kernel_rfl
 refine qm [37,38,39] (x:=(!(a.name==b.name))) (congrArg not (beq_eq_false_iff_ne.2 hb4)) ?_ ?_
 refine qR 22 [(2,.ptr 0 0),(3,.ptr 1 0),(61,.bool true)] [.box [.int .i64 (a.kind),.str a.name,.int .i64 (a.n),.str a.s,.imm (a.names.map aa.str),.imm (a.binds.map aa.str),.imm (a.kids.map Ex.enc),.int .i64 (a.pos),.int .i64 (a.fin)],.box [.int .i64 (b.kind),.str b.name,.int .i64 (b.n),.str b.s,.imm (b.names.map aa.str),.imm (b.binds.map aa.str),.imm (b.kids.map Ex.enc),.int .i64 (b.pos),.int .i64 (b.fin)]] ?_ ?_
 refine cU kq kq ?_
 refine qV 1 ?_ ?_
 refine qT ?_ ?_
 apply aR
 refine a7 (b:=false) (.inr rfl) kq ?_
 rotate_left
 iterate 6 kernel_rfl
 refine qm [30,31,32] (x:=((a.kind) != (b.kind))) (bne_iff_ne.2 hb3) ?_ ?_
 refine qR 29 [(2,.ptr 0 0),(3,.ptr 1 0),(61,.bool true)] [.box [.int .i64 (a.kind),.str a.name,.int .i64 (a.n),.str a.s,.imm (a.names.map aa.str),.imm (a.binds.map aa.str),.imm (a.kids.map Ex.enc),.int .i64 (a.pos),.int .i64 (a.fin)],.box [.int .i64 (b.kind),.str b.name,.int .i64 (b.n),.str b.s,.imm (b.names.map aa.str),.imm (b.binds.map aa.str),.imm (b.kids.map Ex.enc),.int .i64 (b.pos),.int .i64 (b.fin)]] ?_ ?_
 refine cU kq kq ?_
 refine qV 1 ?_ ?_
 refine qT ?_ ?_
 apply aR
 refine a7 (b:=false) (.inr rfl) kq ?_
 rotate_left
 iterate 6 kernel_rfl
 refine qm [23,24,25] (x:=(!(a.binds==b.binds))) (congrArg not (Bool.eq_false_iff.2 hb2)) ?_ ?_
 refine qR 36 [(2,.ptr 0 0),(3,.ptr 1 0),(61,.bool true)] [.box [.int .i64 (a.kind),.str a.name,.int .i64 (a.n),.str a.s,.imm (a.names.map aa.str),.imm (a.binds.map aa.str),.imm (a.kids.map Ex.enc),.int .i64 (a.pos),.int .i64 (a.fin)],.box [.int .i64 (b.kind),.str b.name,.int .i64 (b.n),.str b.s,.imm (b.names.map aa.str),.imm (b.binds.map aa.str),.imm (b.kids.map Ex.enc),.int .i64 (b.pos),.int .i64 (b.fin)]] ?_ ?_
 refine cU kq kq ?_
 refine qV 1 ?_ ?_
 refine qT ?_ ?_
 apply aR
 refine a7 (b:=false) (.inr rfl) kq ?_
 rotate_left
 iterate 6 kernel_rfl
 refine qm [20,21] (x:=(!(a.names==b.names))) (congrArg not (Bool.eq_false_iff.2 hb1)) ?_ ?_
 refine qR 40 [(2,.ptr 0 0),(3,.ptr 1 0),(61,.bool true)] [.box [.int .i64 (a.kind),.str a.name,.int .i64 (a.n),.str a.s,.imm (a.names.map aa.str),.imm (a.binds.map aa.str),.imm (a.kids.map Ex.enc),.int .i64 (a.pos),.int .i64 (a.fin)],.box [.int .i64 (b.kind),.str b.name,.int .i64 (b.n),.str b.s,.imm (b.names.map aa.str),.imm (b.binds.map aa.str),.imm (b.kids.map Ex.enc),.int .i64 (b.pos),.int .i64 (b.fin)]] ?_ ?_
 refine cU kq kq ?_
 refine qV 1 ?_ ?_
 refine qT ?_ ?_
 apply aR
 refine a7 (b:=false) (.inr rfl) kq ?_
 rotate_left
 iterate 12 kernel_rfl
 all_goals
  refine wQ ?_
  first|(simp only [cl Ex.beq a.kids b.kids oq,Bool.and_false];done)|(rw [bH Ex.beq Ex.zero Ex.zero a.kids b.kids oq (fun i hi=>ha i oq)];simp_all;done)|(rw [cN Ex.beq Ex.zero Ex.zero a.kids b.kids k oq oq (Bool.eq_false_iff.2 aq)];simp;done)|(simp_all;done)
end Go.Proofs.YtcpklndelobigaaGreatDoor
