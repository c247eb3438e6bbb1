/- The reference's Equal of schemas. Condition: sizes that can be had. -/
import Derived.Test.YtcpklndelobigaaGreatDoorC9
set_option linter.all false
namespace Go.Proofs.YtcpklndelobigaaGreatDoor
open Go.Proofs.YtcpklndelobigaaGreatDoor.Abs
set_option maxRecDepth 20000
set_option maxHeartbeats 4000000
def Sc.zero:Sc:=⟨[],[]⟩
noncomputable def c9:Code:=aT Tryz.f9
theorem yv {p:Prop} (h:p:=by simp [Ty.v,Ex.v,Ct.v,Co.v,Rf.v,Sm.v,Tb.v,Sc.v]):p:=h
theorem ph (a b:Sc) (hs:a.sm):ao cx 9 [Sc.v a,Sc.v b] (.bool (a.beq b)):=by
 have hz1:=hs.1
 have hz2:∀ i,i<a.sums.length→(a.sums.getD i Sm.zero).sm:=fun i h=>hs.2.1 _ (c5 _ _ _ h)
 have hz3:=hs.2.2.1
 have hz4:∀ i,i<a.tabs.length→(a.tabs.getD i Tb.zero).sm:=fun i h=>hs.2.2.2 _ (c5 _ _ _ h)
 refine aC (cx:=cx) 65 0 [(ResultVar.tmp 4)] Tryz.func9 rfl rfl rfl rfl rfl zq ?_
 show wpA cx 65 0 (at_ c9 []) _ _ _
 refine qZ [(0,Sc.v a),(1,Sc.v b)] [] ?_ ?_
 refine qW 3 [(2,.ptr 0 0),(3,.ptr 1 0)] [.box [.imm (a.sums.map Sm.v),.imm (a.tabs.map Tb.v)],.box [.imm (b.sums.map Sm.v),.imm (b.tabs.map Tb.v)]] ?_ ?_
 refine az ?_ ?_
 refine qV 2 ?_ ?_
 refine qy (aw (l:=a.sums) (enc:=Sm.v) kq wI) ?_ ?_ ?_
 refine qr 2 ?_ ?_
 refine qy (aw (l:=b.sums) (enc:=Sm.v) kq wI) ?_ ?_ ?_
 refine qr 2 ?_ ?_
 by_cases hb1:((a.sums.length:Nat):Int)=((b.sums.length:Nat):Int)
 refine qm [15,16] (x:=(((a.sums.length:Nat):Int) != ((b.sums.length:Nat):Int))) (bne_eq_false_iff_eq.2 hb1) ?_ ?_
 refine qr 2 ?_ ?_
 refine qy (aw (l:=a.tabs) (enc:=Tb.v) kq bW) ?_ ?_ ?_
 refine qr 2 ?_ ?_
 refine qy (aw (l:=b.tabs) (enc:=Tb.v) kq bW) ?_ ?_ ?_
 refine qR 2 [(2,.ptr 0 0),(3,.ptr 1 0),(24,.bool (((a.tabs.length:Nat):Int) != ((b.tabs.length:Nat):Int)))] [.box [.imm (a.sums.map Sm.v),.imm (a.tabs.map Tb.v)],.box [.imm (b.sums.map Sm.v),.imm (b.tabs.map Tb.v)]] ?_ ?_
 by_cases hb2:((a.tabs.length:Nat):Int)=((b.tabs.length:Nat):Int)
 refine qf (x:=(((a.tabs.length:Nat):Int) != ((b.tabs.length:Nat):Int))) (bne_eq_false_iff_eq.2 hb2) ?_ ?_
 refine qK ?_ ?_
 refine qz [(2,.ptr 0 0),(3,.ptr 1 0)] ?_ ?_
 refine az ?_ ?_
 refine qU 1 [(2,.ptr 0 0),(3,.ptr 1 0),(5,.int .i64 0)] ?_ ?_
 refine qB 0 ?_ ?_ ?_
 refine bn (σ:=Nat) (fun k=>[(2,.ptr 0 0),(3,.ptr 1 0),(5,.int .i64 ((k:Nat):Int))]) (fun k=>[.box [.imm (a.sums.map Sm.v),.imm (a.tabs.map Tb.v)],.box [.imm (b.sums.map Sm.v),.imm (b.tabs.map Tb.v)]]) (fun k=>k≤a.sums.length∧∀ i,i<k→(a.sums.getD i Sm.zero).beq (b.sums.getD i Sm.zero)=true) (fun k=>a.sums.length - k) 0 kq (by exact ⟨Nat.zero_le _,fun i h=>absurd h (Nat.not_lt_zero i)⟩) ⟨⟨kq,kq,kq,trivial⟩,by simp [aG,aa.bel],by simp,kq,by simp [ai.belO]⟩ ?_
 rintro k ⟨hkk,hak⟩
 refine az ?_ ?_
 refine qV 3 ?_ ?_
 refine qy (aw (l:=a.sums) (enc:=Sm.v) kq wI) ?_ ?_ ?_
 refine qR 1 [(2,.ptr 0 0),(3,.ptr 1 0),(5,nI k),(29,.bool (decide (((k:Nat):Int)<((a.sums.length:Nat):Int))))] [.box [.imm (a.sums.map Sm.v),.imm (a.tabs.map Tb.v)],.box [.imm (b.sums.map Sm.v),.imm (b.tabs.map Tb.v)]] ?_ ?_
 by_cases hb3:((k:Nat):Int)<((a.sums.length:Nat):Int)
 refine qt (decide_eq_true hb3) ?_ ?_
 refine qK ?_ ?_
 refine qz [(2,.ptr 0 0),(3,.ptr 1 0),(5,nI k)] ?_ ?_
 refine az ?_ ?_
 refine qB 1 ?_ ?_ ?_
 refine az ?_ ?_
 refine b6 cxM kq ap (aU ?_)
 refine qu 3 ?_ ?_
 refine qd ((aA (k:=.i64) (l:=a.sums) (enc:=Sm.v) (i:=((k:Nat):Int)) Sm.zero kq wI A4 (fun _=>rfl) oq oq).trans (congrArg (fun cs=>some (aa.pimm cs 0,_)) (qC (a.sums.getD k Sm.zero)))) ?_ ?_ ?_ ?_
 refine qu 4 ?_ ?_
 refine qd ((aA (k:=.i64) (l:=b.sums) (enc:=Sm.v) (i:=((k:Nat):Int)) Sm.zero kq wI A4 (fun _=>rfl) oq oq).trans (congrArg (fun cs=>some (aa.pimm cs 0,_)) (qC (b.sums.getD k Sm.zero)))) ?_ ?_ ?_ ?_
 refine qu 1 ?_ ?_
 refine cc (args:=[.agg [.str (a.sums.getD k Sm.zero).name,.imm ((a.sums.getD k Sm.zero).ctors.map Ct.v)],.agg [.str (b.sums.getD k Sm.zero).name,.imm ((b.sums.getD k Sm.zero).ctors.map Ct.v)]]) kq kq kq kq kq (pd (a.sums.getD k Sm.zero) (b.sums.getD k Sm.zero) (hz2 k oq)) (by intro _;simp [Ty.v,Ex.v,Ct.v,Co.v,Rf.v,Sm.v,Tb.v,Sc.v]) yv yv ?_
 refine qu 1 ?_ ?_
 refine bG kq ⟨kq,?_⟩
 refine ab ?_
 refine qZ [(2,.ptr 0 0),(3,.ptr 1 0),(5,nI k),(6,.bool ((a.sums.getD k Sm.zero).beq (b.sums.getD k Sm.zero)))] [.box [.imm (a.sums.map Sm.v),.imm (a.tabs.map Tb.v)],.box [.imm (b.sums.map Sm.v),.imm (b.tabs.map Tb.v)]] ?_ ?_
 refine qU 2 [(2,.ptr 0 0),(3,.ptr 1 0),(5,nI k),(44,.bool (!((a.sums.getD k Sm.zero).beq (b.sums.getD k Sm.zero))))] ?_ ?_
 by_cases hb4:((a.sums.getD k Sm.zero).beq (b.sums.getD k Sm.zero))=true
 refine qf (x:=(!((a.sums.getD k Sm.zero).beq (b.sums.getD k Sm.zero)))) (congrArg not (hb4)) ?_ ?_
 refine qk ?_ ?_
 refine ah ?_
 refine ab ?_
 refine qz [(2,.ptr 0 0),(3,.ptr 1 0),(5,nI k)] ?_ ?_
 refine qo ?_ ?_
 refine qr 1 ?_ ?_
 refine qy (aI (a:=((k:Nat):Int)) (b:=1) kq oq oq) ?_ ?_ ?_
 refine qr 1 ?_ ?_
 refine qe ?_ ?_
 refine ab ⟨k+1,?_,?_,⟨⟨kq,kq,kq,trivial⟩,by simp [aG,aa.bel],by simp,kq,by simp [ai.belO]⟩⟩
 · omega
 · refine ⟨by omega,fun i hi=>?_⟩
   rcases Nat.lt_succ_iff_lt_or_eq.1 hi with h|h
   · exact hak i h
   · subst h;simp_all
 iterate 9 kernel_rfl
 refine qt (x:=(!((a.sums.getD k Sm.zero).beq (b.sums.getD k Sm.zero)))) (congrArg not (Bool.eq_false_iff.2 hb4)) ?_ ?_
 refine qV 1 ?_ ?_
 refine qT ?_ ?_
 apply iR
 apply aR
 apply aR
 apply iR
 apply aR
 refine a7 (b:=false) (.inr rfl) kq ?_
 rotate_left
 iterate 22 kernel_rfl
 refine qf (decide_eq_false hb3) ?_ ?_
 refine a6 0 kq kq ?_
 refine af ?_
 refine af ?_
 refine aE ?_
 refine ab ?_
 refine qz [(2,.ptr 0 0),(3,.ptr 1 0)] ?_ ?_
 refine az ?_ ?_
 refine qU 1 [(2,.ptr 0 0),(3,.ptr 1 0),(7,.int .i64 0)] ?_ ?_
 refine qB 2 ?_ ?_ ?_
 refine bn (σ:=Nat) (fun q=>[(2,.ptr 0 0),(3,.ptr 1 0),(7,.int .i64 ((q:Nat):Int))]) (fun q=>[.box [.imm (a.sums.map Sm.v),.imm (a.tabs.map Tb.v)],.box [.imm (b.sums.map Sm.v),.imm (b.tabs.map Tb.v)]]) (fun q=>q≤a.tabs.length∧∀ i,i<q→(a.tabs.getD i Tb.zero).beq (b.tabs.getD i Tb.zero)=true) (fun q=>a.tabs.length - q) 0 kq (by exact ⟨Nat.zero_le _,fun i h=>absurd h (Nat.not_lt_zero i)⟩) ⟨⟨kq,kq,kq,trivial⟩,by simp [aG,aa.bel],by simp,kq,by simp [ai.belO]⟩ ?_
 rintro q ⟨hkq,haq⟩
 refine az ?_ ?_
 refine qV 3 ?_ ?_
 refine qy (aw (l:=a.tabs) (enc:=Tb.v) kq bW) ?_ ?_ ?_
 refine qR 1 [(2,.ptr 0 0),(3,.ptr 1 0),(7,nI q),(49,.bool (decide (((q:Nat):Int)<((a.tabs.length:Nat):Int))))] [.box [.imm (a.sums.map Sm.v),.imm (a.tabs.map Tb.v)],.box [.imm (b.sums.map Sm.v),.imm (b.tabs.map Tb.v)]] ?_ ?_
 by_cases hb5:((q:Nat):Int)<((a.tabs.length:Nat):Int)
 refine qt (decide_eq_true hb5) ?_ ?_
 refine qK ?_ ?_
 refine qz [(2,.ptr 0 0),(3,.ptr 1 0),(7,nI q)] ?_ ?_
 refine az ?_ ?_
 refine qB 3 ?_ ?_ ?_
 refine az ?_ ?_
 refine b6 cxM kq ap (aU ?_)
 refine qu 3 ?_ ?_
 refine qd ((aA (k:=.i64) (l:=a.tabs) (enc:=Tb.v) (i:=((q:Nat):Int)) Tb.zero kq bW cz (fun _=>rfl) oq oq).trans (congrArg (fun cs=>some (aa.pimm cs 0,_)) (cV (a.tabs.getD q Tb.zero)))) ?_ ?_ ?_ ?_
 refine qu 4 ?_ ?_
 refine qd ((aA (k:=.i64) (l:=b.tabs) (enc:=Tb.v) (i:=((q:Nat):Int)) Tb.zero kq bW cz (fun _=>rfl) oq oq).trans (congrArg (fun cs=>some (aa.pimm cs 0,_)) (cV (b.tabs.getD q Tb.zero)))) ?_ ?_ ?_ ?_
 refine qu 1 ?_ ?_
 refine cc (args:=[.agg [.str (a.tabs.getD q Tb.zero).name,.imm ((a.tabs.getD q Tb.zero).cols.map Co.v),.imm ((a.tabs.getD q Tb.zero).key.map aa.str),.imm ((a.tabs.getD q Tb.zero).refs.map Rf.v),.int .i64 ((a.tabs.getD q Tb.zero).chk.kind),.str (a.tabs.getD q Tb.zero).chk.name,.int .i64 ((a.tabs.getD q Tb.zero).chk.n),.str (a.tabs.getD q Tb.zero).chk.s,.imm ((a.tabs.getD q Tb.zero).chk.names.map aa.str),.imm ((a.tabs.getD q Tb.zero).chk.binds.map aa.str),.imm ((a.tabs.getD q Tb.zero).chk.kids.map Ex.enc),.int .i64 ((a.tabs.getD q Tb.zero).chk.pos),.int .i64 ((a.tabs.getD q Tb.zero).chk.fin)],.agg [.str (b.tabs.getD q Tb.zero).name,.imm ((b.tabs.getD q Tb.zero).cols.map Co.v),.imm ((b.tabs.getD q Tb.zero).key.map aa.str),.imm ((b.tabs.getD q Tb.zero).refs.map Rf.v),.int .i64 ((b.tabs.getD q Tb.zero).chk.kind),.str (b.tabs.getD q Tb.zero).chk.name,.int .i64 ((b.tabs.getD q Tb.zero).chk.n),.str (b.tabs.getD q Tb.zero).chk.s,.imm ((b.tabs.getD q Tb.zero).chk.names.map aa.str),.imm ((b.tabs.getD q Tb.zero).chk.binds.map aa.str),.imm ((b.tabs.getD q Tb.zero).chk.kids.map Ex.enc),.int .i64 ((b.tabs.getD q Tb.zero).chk.pos),.int .i64 ((b.tabs.getD q Tb.zero).chk.fin)]]) kq kq kq kq kq (pl (a.tabs.getD q Tb.zero) (b.tabs.getD q Tb.zero) (hz4 q oq)) (by intro _;simp [Ty.v,Ex.v,Ct.v,Co.v,Rf.v,Sm.v,Tb.v,Sc.v]) yv yv ?_
 refine qu 1 ?_ ?_
 refine bG kq ⟨kq,?_⟩
 refine ab ?_
 refine qZ [(2,.ptr 0 0),(3,.ptr 1 0),(7,nI q),(8,.bool ((a.tabs.getD q Tb.zero).beq (b.tabs.getD q Tb.zero)))] [.box [.imm (a.sums.map Sm.v),.imm (a.tabs.map Tb.v)],.box [.imm (b.sums.map Sm.v),.imm (b.tabs.map Tb.v)]] ?_ ?_
 refine qU 2 [(2,.ptr 0 0),(3,.ptr 1 0),(7,nI q),(64,.bool (!((a.tabs.getD q Tb.zero).beq (b.tabs.getD q Tb.zero))))] ?_ ?_
 by_cases hb6:((a.tabs.getD q Tb.zero).beq (b.tabs.getD q Tb.zero))=true
 refine qf (x:=(!((a.tabs.getD q Tb.zero).beq (b.tabs.getD q Tb.zero)))) (congrArg not (hb6)) ?_ ?_
 refine qk ?_ ?_
 refine ah ?_
 refine ab ?_
 refine qz [(2,.ptr 0 0),(3,.ptr 1 0),(7,nI q)] ?_ ?_
 refine qo ?_ ?_
 refine qr 1 ?_ ?_
 refine qy (aI (a:=((q:Nat):Int)) (b:=1) kq oq oq) ?_ ?_ ?_
 refine qr 1 ?_ ?_
 refine qe ?_ ?_
 refine ab ⟨q+1,?_,?_,⟨⟨kq,kq,kq,trivial⟩,by simp [aG,aa.bel],by simp,kq,by simp [ai.belO]⟩⟩
 · omega
 · refine ⟨by omega,fun i hi=>?_⟩
   rcases Nat.lt_succ_iff_lt_or_eq.1 hi with h|h
   · exact haq i h
   · subst h;simp_all
 iterate 9 kernel_rfl
 refine qt (x:=(!((a.tabs.getD q Tb.zero).beq (b.tabs.getD q Tb.zero)))) (congrArg not (Bool.eq_false_iff.2 hb6)) ?_ ?_
 refine qV 1 ?_ ?_
 refine qT ?_ ?_
 apply iR
 apply aR
 apply aR
 apply iR
 apply aR
 refine a7 (b:=false) (.inr rfl) kq ?_
 rotate_left
 iterate 22 kernel_rfl
 refine qf (decide_eq_false hb5) ?_ ?_
 refine a6 2 kq kq ?_
 refine af ?_
 refine af ?_
 refine aE ?_
 refine ab ?_
 refine qz [] ?_ ?_
 refine qV 1 ?_ ?_
 refine qT ?_ ?_
 refine a7 (b:=true) (.inr rfl) kq ?_
 rotate_left
 iterate 27 kernel_rfl
 refine qt (x:=(((a.tabs.length:Nat):Int) != ((b.tabs.length:Nat):Int))) (bne_iff_ne.2 hb2) ?_ ?_
 refine qV 1 ?_ ?_
 refine qT ?_ ?_
 apply aR
 refine a7 (b:=false) (.inr rfl) kq ?_
 rotate_left
 iterate 11 kernel_rfl
 refine qm [15,16] (x:=(((a.sums.length:Nat):Int) != ((b.sums.length:Nat):Int))) (bne_iff_ne.2 hb1) ?_ ?_
 refine qR 8 [(2,.ptr 0 0),(3,.ptr 1 0),(24,.bool true)] [.box [.imm (a.sums.map Sm.v),.imm (a.tabs.map Tb.v)],.box [.imm (b.sums.map Sm.v),.imm (b.tabs.map Tb.v)]] ?_ ?_
 refine cU kq kq ?_
 refine qV 1 ?_ ?_
 refine qT ?_ ?_
 apply aR
 refine a7 (b:=false) (.inr rfl) kq ?_
 rotate_left
 iterate 14 kernel_rfl
 all_goals
  refine Eq.trans ?_ (show (bw Sm.beq a.sums b.sums && bw Tb.beq a.tabs b.tabs)=a.beq b from rfl)
  first|(simp only [cl Sm.beq a.sums b.sums oq,Bool.and_false,Bool.false_and];done)|(simp only [cl Tb.beq a.tabs b.tabs oq,Bool.and_false,Bool.false_and];done)|(rw [bH Sm.beq Sm.zero Sm.zero a.sums b.sums oq (fun i hi=>hak i oq),bH Tb.beq Tb.zero Tb.zero a.tabs b.tabs oq (fun i hi=>haq i oq)];rfl)|(rw [cN Tb.beq Tb.zero Tb.zero a.tabs b.tabs q oq oq (by simp_all)];simp;done)|(rw [cN Sm.beq Sm.zero Sm.zero a.sums b.sums k oq oq (by simp_all)];simp;done)|(simp_all;done)
end Go.Proofs.YtcpklndelobigaaGreatDoor
