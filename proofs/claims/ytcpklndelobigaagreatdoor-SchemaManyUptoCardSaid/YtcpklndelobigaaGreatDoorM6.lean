/- clone of a table; the closures by which From deletes fq. Conditions: sizes that can be had. -/
import Derived.Test.YtcpklndelobigaaGreatDoorM5
set_option linter.all false
namespace Go.Proofs.YtcpklndelobigaaGreatDoor
open Go.Proofs.YtcpklndelobigaaGreatDoor.Abs
set_option maxRecDepth 20000
set_option maxHeartbeats 4000000
theorem zP {p:Prop} (h:p:=by rintro v h ⟨rfl,rfl⟩;simp [aa.frz,aZ]):p:=h
theorem yu (l:List (Co)) (hn:l.length<1000000000):ao cx 78 [.imm (l.map Co.v)] (.imm (l.map Co.v)) :=
 fj (sP (l.map Co.v) [] (fB (fun _=>rfl) l) (by simp [fu];omega) rfl (wG _ l)) zP zq
theorem wm (l:List (List UInt8)) (hn:l.length<1000000000):ao cx 79 [.imm (l.map aa.str)] (.imm (l.map aa.str)) :=
 fj (sK (l.map aa.str) [] (fB (fun _=>rfl) l) (by simp [fu];omega) rfl (kc _ l)) zP zq
theorem yb (l:List (Rf)) (hn:l.length<1000000000):ao cx 80 [.imm (l.map Rf.v)] (.imm (l.map Rf.v)) :=
 fj (sU (l.map Rf.v) [] (fB (fun _=>rfl) l) (by simp [fu];omega) rfl (wh _ l)) zP zq
noncomputable def c27:Code:=aT Tryz.f27
theorem oF {p:Prop} (h:p:=by simp [Ty.v,Ex.v,Ct.v,Co.v,Rf.v,Sm.v,Tb.v_cs,Sc.v,Md.v,Pb.v,Ls.v,-List.map_take,-List.map_drop,-List.map_append]):p:=h
theorem y6 {p:Prop} (h:p:=by intro _;simp [Ty.v,Ex.v,Ct.v,Co.v,Rf.v,Sm.v,Tb.v_cs,Sc.v,Md.v,Pb.v,Ls.v,-List.map_take,-List.map_drop,-List.map_append]):p:=h
theorem sc (t:Tb) (ht:t.ok) (hst:ao cx 81 [t.chk.v] t.chk.v):ao cx 27 [Tb.v t] (Tb.v t):=by
 have h1:=ht.c
 have h2:=ht.k
 have h3:=ht.r
 refine aC (cx:=cx) 20 0 [(ResultVar.cell 2 52)] Tryz.func27 rfl rfl rfl rfl rfl zq ?_
 show wpA cx 20 0 (at_ c27 []) _ _ _
 refine qZ [(0,Tb.v t)] [] ?_ ?_
 refine qW 2 [(1,.ptr 0 0),(2,.ptr 1 0)] [.box (Tb.cs t),.box [.str [],.full [],.full [],.full [],.int .i64 0,.str [],.int .i64 0,.str [],.full [],.full [],.full [],.int .i64 0,.int .i64 0]] ?_ ?_
 refine az ?_ ?_
 refine b6 cxM kq ap (aU ?_)
 refine qu 2 ?_ ?_
 refine cc (args:=[.imm (t.cols.map Co.v)]) kq kq kq kq kq (yu t.cols oq) y6 oF oF ?_
 refine qu 2 ?_ ?_
 refine cc (args:=[.imm (t.key.map aa.str)]) kq kq kq kq kq (wm t.key oq) y6 oF oF ?_
 refine qu 2 ?_ ?_
 refine cc (args:=[.imm (t.refs.map Rf.v)]) kq kq kq kq kq (yb t.refs oq) y6 oF oF ?_
 refine qu 6 ?_ ?_
 refine bG kq ⟨kq,?_⟩
 refine ab ?_
 refine qZ [(1,.ptr 0 0),(2,.ptr 1 0)] [.box (Tb.cs t),.box [.str [],.full [],.full [],.full [],.int .i64 0,.str [],.int .i64 0,.str [],.full [],.full [],.full [],.int .i64 0,.int .i64 0]] ?_ ?_
 refine qV 2 ?_ ?_
 refine bj (args:=[.agg [.int .i64 (t.chk.kind),.str t.chk.name,.int .i64 (t.chk.n),.str t.chk.s,.imm (t.chk.names.map aa.str),.imm (t.chk.binds.map aa.str),.imm (t.chk.kids.map Ex.enc),.int .i64 (t.chk.pos),.int .i64 (t.chk.fin)]]) kq kq kq kq (hst) oF oF oF ?_
 refine qR 2 [(1,.ptr 0 0),(2,.ptr 1 0)] [.box (Tb.cs t),.box [.str [],.full [],.full [],.full [],.int .i64 0,.str [],.int .i64 0,.str [],.full [],.full [],.full [],.int .i64 0,.int .i64 0]] ?_ ?_
 refine qW 2 [(2,.ptr 1 0)] [.box (Tb.cs t),.box (Tb.cs t)] ?_ ?_
 refine cK kq ?_
 refine gH (l:=[.agg (Tb.cs t)]) (.inr rfl) kq ?_
 · simp [a8,Tb.v_cs]
 iterate 11 kernel_rfl
noncomputable def c32:Code:=aT Tryz.f32
theorem k4 {p:Prop} (h:p:=by simp [a8]):p:=h
theorem xo (x:Rf) (W:List (List UInt8×Bool)) :aL cx 32 [Rf.v x,.ptr 0 0] [.box [.map 1],.map (ac aa.str aa.bool W)] (fun v h=>v=(.bool (!(aF W x.tab)))∧h=[.box [.map 1],.map (ac aa.str aa.bool W)]):=by
 refine aC (cx:=cx) 9 2 [(ResultVar.tmp 3)] Tryz.func32 rfl rfl rfl rfl rfl zq ?_
 show wpA cx 9 2 (at_ c32 []) _ _ _
 refine qZ [(0,Rf.v x),(1,.ptr 0 0)] [.box [.map 1],.map (ac aa.str aa.bool W)] ?_ ?_
 refine qW 2 [(1,.ptr 0 0),(2,.ptr 2 0)] [.box [.map 1],.map (ac aa.str aa.bool W),.box [.str x.col,.str x.tab]] ?_ ?_
 refine qV 3 ?_ ?_
 refine qy (jV (a2:=0) (b2:=0) (ok:=false) (o:=1) (ek:=aa.str) (ev:=aa.bool) (l:=W) (k:=x.tab) dV kq er ty9 kq ty4 kq false kq) ?_ ?_ ?_
 refine qR 2 [(3,.bool (!(aF W x.tab)))] [.box [.map 1],.map (ac aa.str aa.bool W),.box [.str x.col,.str x.tab]] ?_ ?_
 refine cK kq ?_
 refine dg (l:=[.bool (!(aF W x.tab))]) (.inr rfl) kq (by rfl) k4 k4 ?_ ?_
 refine Eq.trans (b:=[.box [.map 1],.map (ac aa.str aa.bool W)]) kq ?_
 · rfl
 · simp [ai.belO,av,aa.bel]
 iterate 6 kernel_rfl
theorem B3 {p:Prop} (h:p:=by show aa.int _ _=aa.int _ _;first|rw [← ik (p:=fun x:Rf=>!aF W x.tab) Rf.zero (l:=l) (k:=k) oq ha (by simp_all)]|rw [← hX (p:=fun x:Rf=>!aF W x.tab) Rf.zero (l:=l) (fun i hi=>ha i oq)]):p:=h
theorem og {p:Prop} (h:p:=by simp [ai.belO,av,aa.bel]):p:=h
theorem xm (l:List Rf) (W:List (List UInt8×Bool)) (hn:l.length<1000000000):aL cx 83 [.imm (l.map Rf.v),.fn (.func 32) [] [.ptr 0 0]] [.box [.map 1],.map (ac aa.str aa.bool W)] (fun v h=>v=(.int .i64 (cO (fun x:Rf=>!aF W x.tab) l))∧h=[.box [.map 1],.map (ac aa.str aa.bool W)]):=by
 refine aC (cx:=cx) 19 2 [(ResultVar.tmp 4)] Tryz.func83 rfl rfl rfl rfl rfl zq ?_
 show wpA cx 19 2 (at_ c83 []) _ _ _
 refine qZ [(0,.imm (l.map Rf.v)),(1,.fn (.func 32) [] [.ptr 0 0])] [.box [.map 1],.map (ac aa.str aa.bool W)] ?_ ?_
 refine qU 1 [(0,.imm (l.map Rf.v)),(1,.fn (.func 32) [] [.ptr 0 0])] ?_ ?_
 refine az ?_ ?_
 refine qV 1 ?_ ?_
 refine qy (aw (l:=l) (enc:=Rf.v) kq gt) ?_ ?_ ?_
 refine qR 1 [(0,.imm (l.map Rf.v)),(1,.fn (.func 32) [] [.ptr 0 0]),(7,nI l.length),(8,.int .i64 0)] [.box [.map 1],.map (ac aa.str aa.bool W)] ?_ ?_
 refine qB 0 ?_ ?_ ?_
 refine bn (σ:=Nat) (fun k=>[(0,.imm (l.map Rf.v)),(1,.fn (.func 32) [] [.ptr 0 0]),(7,.int .i64 ((l.length:Nat):Int)),(8,.int .i64 ((k:Nat):Int))]) (fun k=>[.box [.map 1],.map (ac aa.str aa.bool W)]) (fun k=>k≤l.length∧∀ i,i<k→¬ (!aF W (l.getD i Rf.zero).tab)=true) (fun k=>l.length - k) 0 kq (by exact ⟨Nat.zero_le _,fun i h=>absurd h (Nat.not_lt_zero i)⟩) ⟨⟨kq,kq,kq,kq,trivial⟩,by simp [aG,aa.bel],by simp,kq,by simp [ai.belO,av,aa.bel]⟩ ?_
 rintro k ⟨hk,ha⟩
 refine qW 1 [(0,.imm (l.map Rf.v)),(1,.fn (.func 32) [] [.ptr 0 0]),(7,nI l.length),(8,nI k),(9,.bool (decide (((k:Nat):Int)<((l.length:Nat):Int))))] [.box [.map 1],.map (ac aa.str aa.bool W)] ?_ ?_
 refine az ?_ ?_
 by_cases hb1:((k:Nat):Int)<((l.length:Nat):Int)
 refine qt (decide_eq_true hb1) ?_ ?_
 refine qK ?_ ?_
 refine qz [(0,.imm (l.map Rf.v)),(1,.fn (.func 32) [] [.ptr 0 0]),(7,nI l.length),(8,nI k)] ?_ ?_
 refine az ?_ ?_
 refine qB 1 ?_ ?_ ?_
 refine qU 2 [(0,.imm (l.map Rf.v)),(1,.fn (.func 32) [] [.ptr 0 0]),(5,nI k),(7,nI l.length),(8,nI k)] ?_ ?_
 refine qV 3 ?_ ?_
 refine qy ((aA (k:=.i64) (l:=l) (enc:=Rf.v) (i:=((k:Nat):Int)) Rf.zero kq gt mD (fun _=>rfl) oq oq).trans (congrArg (fun cs=>some (aa.pimm cs 0,_)) (en (l.getD k Rf.zero)))) ?_ ?_ ?_
 refine qr 1 ?_ ?_
 refine b7 (args:=[.agg [.str (l.getD k Rf.zero).col,.str (l.getD k Rf.zero).tab],.ptr 0 0]) (hs:=[.box [.map 1],.map (ac aa.str aa.bool W)]) (hs':=[.box [.map 1],.map (ac aa.str aa.bool W)]) (rest:=[]) kq kq kq kq kq (xo (l.getD k Rf.zero) W) og og rfl og og kq ?_
 refine qN [(0,.imm (l.map Rf.v)),(1,.fn (.func 32) [] [.ptr 0 0]),(5,nI k),(7,nI l.length),(8,nI k),(16,.bool (!(aF W (l.getD k Rf.zero).tab)))] [.box [.map 1],.map (ac aa.str aa.bool W)] ?_ ?_
 by_cases hb2:(aF W (l.getD k Rf.zero).tab)=true
 refine qf (x:=(!(aF W (l.getD k Rf.zero).tab))) (congrArg not (hb2)) ?_ ?_
 refine qk ?_ ?_
 refine ah ?_
 refine ab ?_
 refine qz [(0,.imm (l.map Rf.v)),(1,.fn (.func 32) [] [.ptr 0 0]),(7,nI l.length),(8,nI k)] ?_ ?_
 refine qo ?_ ?_
 refine qy (aI (a:=((k:Nat):Int)) (b:=1) kq oq oq) ?_ ?_ ?_
 refine qr 1 ?_ ?_
 refine qe ?_ ?_
 refine ab ⟨k+1,?_,?_,⟨⟨kq,kq,kq,kq,trivial⟩,by simp [aG,aa.bel],by simp,kq,by simp [ai.belO,av,aa.bel]⟩⟩
 · omega
 · refine ⟨by omega,fun i hi=>?_⟩
   rcases Nat.lt_succ_iff_lt_or_eq.1 hi with h|h
   · exact ha i h
   · subst h;simp_all
 iterate 8 kernel_rfl
 refine qt (x:=(!(aF W (l.getD k Rf.zero).tab))) (congrArg not (Bool.eq_false_iff.2 hb2)) ?_ ?_
 refine qU 2 [(4,nI k)] ?_ ?_
 refine cK kq ?_
 apply iR
 apply aR
 apply aR
 apply iR
 apply aR
 refine dg (l:=[.int .i64 ((k:Nat):Int)]) (.inr rfl) kq B3 k4 k4 ?_ ?_
 refine Eq.trans (b:=[.box [.map 1],.map (ac aa.str aa.bool W)]) kq ?_
 · rfl
 · simp [ai.belO,av,aa.bel]
 iterate 14 kernel_rfl
 refine qf (decide_eq_false hb1) ?_ ?_
 refine a6 0 kq kq ?_
 refine af ?_
 refine af ?_
 refine aE ?_
 refine ab ?_
 refine qz [] ?_ ?_
 refine qU 1 [(4,.int .i64 (-1))] ?_ ?_
 refine cK kq ?_
 refine dg (l:=[.int .i64 (-1)]) (.inr rfl) kq B3 k4 k4 ?_ ?_
 refine Eq.trans (b:=[.box [.map 1],.map (ac aa.str aa.bool W)]) kq ?_
 · rfl
 · simp [ai.belO,av,aa.bel]
 iterate 14 kernel_rfl
theorem yq (l:List Rf) (W:List (List UInt8×Bool)) (hn:l.length<1000000000):aL cx 31 [.imm (l.map Rf.v),.fn (.func 32) [] [.ptr 0 0]] [.box [.map 1],.map (ac aa.str aa.bool W)] (fun v h=>v=(.bool (l.any (fun x:Rf=>!aF W x.tab)))∧h=[.box [.map 1],.map (ac aa.str aa.bool W)]):=by
 refine aC (cx:=cx) 9 2 [(ResultVar.tmp 4)] Tryz.func31 rfl rfl rfl rfl rfl zq ?_
 show wpA cx 9 2 (at_ c31 []) _ _ _
 refine qZ [(0,.imm (l.map Rf.v)),(1,.fn (.func 32) [] [.ptr 0 0])] [.box [.map 1],.map (ac aa.str aa.bool W)] ?_ ?_
 refine qU 1 [(0,.imm (l.map Rf.v)),(1,.fn (.func 32) [] [.ptr 0 0])] ?_ ?_
 refine qV 2 ?_ ?_
 refine b7 (args:=[.imm (l.map Rf.v),.fn (.func 32) [] [.ptr 0 0]]) (hs:=[.box [.map 1],.map (ac aa.str aa.bool W)]) (hs':=[.box [.map 1],.map (ac aa.str aa.bool W)]) (rest:=[]) kq kq kq kq kq (xm l W oq) og og rfl og og kq ?_
 refine qR 2 [(4,.bool (decide ((cO (fun x:Rf=>!aF W x.tab) l) ≥ 0)))] [.box [.map 1],.map (ac aa.str aa.bool W)] ?_ ?_
 refine cK kq ?_
 refine dg (l:=[.bool (decide ((cO (fun x:Rf=>!aF W x.tab) l) ≥ 0))]) (.inr rfl) kq (by show aa.bool _=aa.bool _;rw [← pn] <;> rfl) k4 k4 ?_ ?_
 refine Eq.trans (b:=[.box [.map 1],.map (ac aa.str aa.bool W)]) kq ?_
 · rfl
 · simp [ai.belO,av,aa.bel]
 iterate 4 kernel_rfl
def hpG (sums:List Sm) (M:Tm_) (s:BP) (W:List (List UInt8×Bool)):ae:=hpF sums M s++[.box [.ptr 0 0],.box [.full [],.full []],.box [.map 7],.map (ac aa.str aa.bool W)]
@[simp] theorem CC (r:Nat→Nat) (l:List (List UInt8×Bool)):jL r (ac aa.str aa.bool l)=ac aa.str aa.bool l:=lh (k:=0) (fun i hi=>absurd hi (Nat.not_lt_zero i)) _ zq
@[simp] theorem Cz (r:Nat→Nat) (l:Tm_):jL r (ac aa.str Tb.v l)=ac aa.str Tb.v l:=lh (k:=0) (fun i hi=>absurd hi (Nat.not_lt_zero i)) _ zq
noncomputable def c30:Code:=aT Tryz.f30
theorem Ci {p:Prop} (h:p:=by show aa.bool _=aa.bool _;unfold bF;first|(rw [(by assumption:aF s.1 t.name=true)];rfl)|(rw [Bool.eq_false_iff.2 (by assumption:¬ aF s.1 t.name=true)];rfl)):p:=h
theorem yZ {p:Prop} (h:p:=by simp [kU,ai.ren,cA,aa.ren,iS,cf,dJ,cQ,-List.map_take,-List.map_drop,-List.map_append]):p:=h
theorem vF (sums:List Sm) (M:Tm_) (s:BP) (W:List (List UInt8×Bool)) (t:Tb) (ht:t.ok):aL cx 30 [Tb.v t,.ptr 4 0,.ptr 6 0] (hpG sums M s W) (fun v h=>v=(.bool (bF s.1 W t))∧h=hpG sums M s W):=by
 have h3:=ht.r
 refine aC (cx:=cx) 18 8 [(ResultVar.tmp 4)] Tryz.func30 rfl rfl rfl rfl rfl zq ?_
 show wpA cx 18 8 (at_ c30 []) _ _ _
 refine qZ [(0,Tb.v t),(1,.ptr 4 0),(2,.ptr 6 0)] [.box [.imm (sums.map Sm.v),.map 1,.map 2,.own 3 0 s.2.length],.map (ac aa.str Tb.v M),.map (ac aa.str aa.bool s.1),.arr 5 (s.2.map Pb.v) 0,.box [.ptr 0 0],.box [.full [],.full []],.box [.map 7],.map (ac aa.str aa.bool W)] ?_ ?_
 refine qW 2 [(1,.ptr 4 0),(2,.ptr 6 0),(3,.ptr 8 0)] [.box [.imm (sums.map Sm.v),.map 1,.map 2,.own 3 0 s.2.length],.map (ac aa.str Tb.v M),.map (ac aa.str aa.bool s.1),.arr 5 (s.2.map Pb.v) 0,.box [.ptr 0 0],.box [.full [],.full []],.box [.map 7],.map (ac aa.str aa.bool W),.box (Tb.cs t)] ?_ ?_
 refine az ?_ ?_
 refine b6 cxM kq ap (aU ?_)
 refine qu 6 ?_ ?_
 refine qd (jV (a2:=0) (b2:=0) (ok:=false) (o:=2) (ek:=aa.str) (ev:=aa.bool) (l:=s.1) (k:=t.name) dV kq er ty9 kq ty4 kq false kq) ?_ ?_ ?_ ?_
 refine qu 1 ?_ ?_
 by_cases hb1:(aF s.1 t.name)=true
 refine bQ 11 (.bool (aF s.1 t.name)) (.bool true) (bO ap) kq (congrArg aa.bool (hb1)) ?_
 refine bQ 12 (.bool (aF s.1 t.name)) (.bool true) (bO ap) kq (congrArg aa.bool (hb1)) ?_
 refine qu 6 ?_ ?_
 refine bG kq ⟨kq,?_⟩
 refine ab ?_
 refine qZ [(4,.bool true)] [.box [.imm (sums.map Sm.v),.map 1,.map 2,.own 3 0 s.2.length],.map (ac aa.str Tb.v M),.map (ac aa.str aa.bool s.1),.arr 5 (s.2.map Pb.v) 0,.box [.ptr 0 0],.box [.full [],.full []],.box [.map 7],.map (ac aa.str aa.bool W),.box (Tb.cs t)] ?_ ?_
 refine cK kq ?_
 refine dg (l:=[.bool true]) (.inr rfl) kq Ci k4 k4 ?_ ?_
 refine Eq.trans (b:=[.box [.imm (sums.map Sm.v),.map 1,.map 2,.own 3 0 s.2.length],.map (ac aa.str Tb.v M),.map (ac aa.str aa.bool s.1),.arr 5 (s.2.map Pb.v) 0,.box [.ptr 0 0],.box [.full [],.full []],.box [.map 7],.map (ac aa.str aa.bool W)]) kq ?_
 · rfl
 rotate_left
 iterate 2 kernel_rfl
 refine bQ 11 (.bool (aF s.1 t.name)) (.bool false) (bO ap) kq (congrArg aa.bool (Bool.eq_false_iff.2 hb1)) ?_
 refine bQ 12 (.bool (aF s.1 t.name)) (.bool false) (bO ap) kq (congrArg aa.bool (Bool.eq_false_iff.2 hb1)) ?_
 refine qu 3 ?_ ?_
 refine zh (args:=[.imm (t.refs.map Rf.v),.fn (.func 32) [] [.ptr 6 0]]) (v:=.bool (t.refs.any (fun x:Rf=>!aF W x.tab))) (h':=[.box [.imm (sums.map Sm.v),.map 1,.map 2,.own 3 0 s.2.length],.map (ac aa.str Tb.v M),.map (ac aa.str aa.bool s.1),.arr 5 (s.2.map Pb.v) 0,.box [.ptr 0 0],.box [.full [],.full []],.box [.map 7],.map (ac aa.str aa.bool W),.box (Tb.cs t)]) [6,7] [.box [.imm (sums.map Sm.v),.map 1,.map 2,.own 3 0 s.2.length],.map (ac aa.str Tb.v M),.map (ac aa.str aa.bool s.1),.arr 5 (s.2.map Pb.v) 0,.box [.ptr 0 0],.box [.full [],.full []],.box [.map 7],.map (ac aa.str aa.bool W),.box (Tb.cs t)] kq kq kq kq kq kq (kg [6,7] (yq t.refs W oq) rfl dq (by simp [av,aa.bel,Ty.v,Ex.v,Ct.v,Co.v,Rf.v,Sm.v,Tb.v_cs,Sc.v,Md.v,Pb.v,Ls.v,-List.map_take,-List.map_drop,-List.map_append]) og yZ rfl yZ rfl yZ) (fun _ _=>rfl) kq ?_
 refine qu 2 ?_ ?_
 refine bG kq ⟨kq,?_⟩
 refine ab ?_
 refine qZ [(4,.bool (t.refs.any (fun x:Rf=>!aF W x.tab)))] [.box [.imm (sums.map Sm.v),.map 1,.map 2,.own 3 0 s.2.length],.map (ac aa.str Tb.v M),.map (ac aa.str aa.bool s.1),.arr 5 (s.2.map Pb.v) 0,.box [.ptr 0 0],.box [.full [],.full []],.box [.map 7],.map (ac aa.str aa.bool W),.box (Tb.cs t)] ?_ ?_
 refine cK kq ?_
 refine dg (l:=[.bool (t.refs.any (fun x:Rf=>!aF W x.tab))]) (.inr rfl) kq Ci k4 k4 ?_ ?_
 refine Eq.trans (b:=[.box [.imm (sums.map Sm.v),.map 1,.map 2,.own 3 0 s.2.length],.map (ac aa.str Tb.v M),.map (ac aa.str aa.bool s.1),.arr 5 (s.2.map Pb.v) 0,.box [.ptr 0 0],.box [.full [],.full []],.box [.map 7],.map (ac aa.str aa.bool W)]) kq ?_
 · rfl
 rotate_left
 iterate 11 kernel_rfl
 all_goals
  simp [ai.belO,hpG,hpF,av,aa.bel,Ty.v,Ex.v,Ct.v,Co.v,Rf.v,Sm.v,Tb.v_cs,Sc.v,Md.v,Pb.v,Ls.v,-List.map_take,-List.map_drop,-List.map_append]
end Go.Proofs.YtcpklndelobigaaGreatDoor
