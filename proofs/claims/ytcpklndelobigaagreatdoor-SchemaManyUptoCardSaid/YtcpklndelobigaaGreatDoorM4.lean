/- References of a table, and a whole table. Conditions: sizes that can be had; what the lexer, Storable and Valid answer for its parts. -/
import Derived.Test.YtcpklndelobigaaGreatDoorM3
set_option linter.all false
namespace Go.Proofs.YtcpklndelobigaaGreatDoor
open Go.Proofs.YtcpklndelobigaaGreatDoor.Abs
set_option maxRecDepth 20000
set_option maxHeartbeats 4000000
theorem iS (r:Nat→Nat) {l:List aa} (h:av 0 l=true):cA r l=l:=du (k:=0) (fun i hi=>absurd hi (Nat.not_lt_zero i)) l h
def cO {α:Type} (p:α→Bool) (l:List α):Int:=match l.findIdx? p with
 | some i=>(i:Nat)
 | none=>-1
theorem ik {α:Type} {p:α→Bool} (d:α) {l:List α} {k:Nat} (hk:k<l.length) (ha:∀ i,i<k→¬ p (l.getD i d)=true) (h:p (l.getD k d)=true):((k:Nat):Int)=cO p l:=by
 have:l.findIdx? p=some k:=by
  rw [List.findIdx?_eq_some_iff_getElem]
  refine ⟨hk,by rw [← bJ l d k hk];exact h,fun j hj=>?_⟩
  have:=ha j hj
  rw [bJ l d j oq] at this
  exact this
 simp [cO,this]
theorem hX {α:Type} {p:α→Bool} (d:α) {l:List α} (ha:∀ i,i<l.length→¬ p (l.getD i d)=true):-1=cO p l:=by
 have:l.findIdx? p=none:=by
  rw [List.findIdx?_eq_none_iff]
  intro x hx
  obtain ⟨i,hi,rfl⟩:=List.getElem_of_mem hx
  have:=ha i hi
  rw [bJ l d i hi] at this
  simpa using this
 simp [cO,this]
theorem pn {α:Type} (p:α→Bool) (l:List α):decide (cO p l ≥ 0)=l.any p:=by
 rw [Bool.eq_iff_iff]
 simp only [decide_eq_true_eq,List.any_eq_true]
 unfold cO
 split
 · rename_i i hi
   obtain ⟨h1,h2,_⟩:=List.findIdx?_eq_some_iff_getElem.1 hi
   exact ⟨fun _=>⟨_,List.getElem_mem h1,h2⟩,fun _=>by omega⟩
 · rename_i hi
   rw [List.findIdx?_eq_none_iff] at hi
   exact ⟨fun h=>by omega,fun ⟨x,h1,h2⟩=>by rw [hi x h1] at h2;cases h2⟩
noncomputable def CQ:Code:=aT Tryz.f150
theorem mK {p:Prop} (h:p:=by simp [a8]):p:=h
theorem ug (x r:Rf) :aL cx 150 [Rf.v x,.ptr 0 0] [.box [.str r.col,.str r.tab]] (fun v h=>v=(.bool (x.col==r.col))∧h=[.box [.str r.col,.str r.tab]]):=by
 refine aC (cx:=cx) 9 1 [(ResultVar.tmp 3)] Tryz.func150 rfl rfl rfl rfl rfl zq ?_
 show wpA cx 9 1 (at_ CQ []) _ _ _
 apply qZ [(0,Rf.v x),(1,.ptr 0 0)] [.box [.str r.col,.str r.tab]]
 apply qW 2 [(1,.ptr 0 0),(2,.ptr 1 0)] [.box [.str r.col,.str r.tab],.box [.str x.col,.str x.tab]]
 apply qU 6 [(3,.bool (x.col==r.col))]
 refine cK kq ?_
 refine dg (l:=[.bool (x.col==r.col)]) (.inr rfl) kq (by rfl) mK mK ?_ ?_
 refine Eq.trans (b:=[.box [.str r.col,.str r.tab]]) kq ?_
 · rfl
 · simp [ai.belO,av,aa.bel]
 iterate 3 kernel_rfl
noncomputable def c83:Code:=aT Tryz.f83
theorem Cc {p:Prop} (h:p:=by show aa.int _ _=aa.int _ _;first|rw [← ik (p:=fun x:Rf=>x.col==r.col) Rf.zero (l:=l) (k:=k) oq ha aq]|rw [← hX (p:=fun x:Rf=>x.col==r.col) Rf.zero (l:=l) (fun i hi=>ha i oq)]):p:=h
theorem pe {p:Prop} (h:p:=by simp [ai.belO,av,aa.bel]):p:=h
theorem xh (l:List Rf) (r:Rf) (hn:l.length<1000000000):aL cx 83 [.imm (l.map Rf.v),.fn (.func 150) [] [.ptr 0 0]] [.box [.str r.col,.str r.tab]] (fun v h=>v=(.int .i64 (cO (fun x:Rf=>x.col==r.col) l))∧h=[.box [.str r.col,.str r.tab]]):=by
 refine aC (cx:=cx) 19 1 [(ResultVar.tmp 4)] Tryz.func83 rfl rfl rfl rfl rfl zq ?_
 show wpA cx 19 1 (at_ c83 []) _ _ _
 apply qZ [(0,.imm (l.map Rf.v)),(1,.fn (.func 150) [] [.ptr 0 0])] [.box [.str r.col,.str r.tab]]
 apply qU 1 [(0,.imm (l.map Rf.v)),(1,.fn (.func 150) [] [.ptr 0 0])]
 apply az
 apply qV 1
 refine qy (aw (l:=l) (enc:=Rf.v) kq gt) ?_ ?_ ?_
 apply qR 1 [(0,.imm (l.map Rf.v)),(1,.fn (.func 150) [] [.ptr 0 0]),(7,nI l.length),(8,.int .i64 0)] [.box [.str r.col,.str r.tab]]
 apply qB 0
 refine bn (σ:=Nat) (fun k=>[(0,.imm (l.map Rf.v)),(1,.fn (.func 150) [] [.ptr 0 0]),(7,.int .i64 ((l.length:Nat):Int)),(8,.int .i64 ((k:Nat):Int))]) (fun k=>[.box [.str r.col,.str r.tab]]) (fun k=>k≤l.length∧∀ i,i<k→¬ ((l.getD i Rf.zero).col==r.col)=true) (fun k=>l.length - k) 0 kq (by exact ⟨Nat.zero_le _,fun i h=>absurd h (Nat.not_lt_zero i)⟩) ⟨⟨kq,kq,kq,kq,trivial⟩,by simp [aG,aa.bel],by simp,kq,by simp [ai.belO,av,aa.bel]⟩ ?_
 rintro k ⟨hk,ha⟩
 apply qW 1 [(0,.imm (l.map Rf.v)),(1,.fn (.func 150) [] [.ptr 0 0]),(7,nI l.length),(8,nI k),(9,.bool (decide (((k:Nat):Int)<((l.length:Nat):Int))))] [.box [.str r.col,.str r.tab]]
 apply az
 by_cases hb1:((k:Nat):Int)<((l.length:Nat):Int)
 apply qt (decide_eq_true hb1)
 apply qK
 apply qz [(0,.imm (l.map Rf.v)),(1,.fn (.func 150) [] [.ptr 0 0]),(7,nI l.length),(8,nI k)]
 apply az
 apply qB 1
 apply qU 2 [(0,.imm (l.map Rf.v)),(1,.fn (.func 150) [] [.ptr 0 0]),(5,nI k),(7,nI l.length),(8,nI k)]
 apply qV 3
 refine qy ((aA (k:=.i64) (l:=l) (enc:=Rf.v) (i:=((k:Nat):Int)) Rf.zero kq gt mD (fun _=>rfl) oq oq).trans (congrArg (fun cs=>some (aa.pimm cs 0,_)) (en (l.getD k Rf.zero)))) ?_ ?_ ?_
 apply qr 1
 refine b7 (args:=[.agg [.str (l.getD k Rf.zero).col,.str (l.getD k Rf.zero).tab],.ptr 0 0]) (hs:=[.box [.str r.col,.str r.tab]]) (hs':=[.box [.str r.col,.str r.tab]]) (rest:=[]) kq kq kq kq kq (ug (l.getD k Rf.zero) r) pe pe rfl pe pe kq ?_
 apply qN [(0,.imm (l.map Rf.v)),(1,.fn (.func 150) [] [.ptr 0 0]),(5,nI k),(7,nI l.length),(8,nI k),(16,.bool ((l.getD k Rf.zero).col==r.col))] [.box [.str r.col,.str r.tab]]
 by_cases hb2:((l.getD k Rf.zero).col==r.col)=true
 apply qt (hb2)
 apply qU 2 [(4,nI k)]
 refine cK kq ?_
 apply iR
 apply aR
 apply aR
 apply iR
 apply aR
 refine dg (l:=[.int .i64 ((k:Nat):Int)]) (.inr rfl) kq Cc mK mK ?_ ?_
 refine Eq.trans (b:=[.box [.str r.col,.str r.tab]]) kq ?_
 · rfl
 · simp [ai.belO,av,aa.bel]
 iterate 2 kernel_rfl
 apply qf (Bool.eq_false_iff.2 hb2)
 apply qk
 apply ah
 apply ab
 apply qz [(0,.imm (l.map Rf.v)),(1,.fn (.func 150) [] [.ptr 0 0]),(7,nI l.length),(8,nI k)]
 apply qo
 refine qy (aI (a:=((k:Nat):Int)) (b:=1) kq oq oq) ?_ ?_ ?_
 apply qr 1
 apply qe
 refine ab ⟨k+1,?_,?_,⟨⟨kq,kq,kq,kq,trivial⟩,by simp [aG,aa.bel],by simp,kq,by simp [ai.belO,av,aa.bel]⟩⟩
 · omega
 · refine ⟨by omega,fun i hi=>?_⟩
   rcases Nat.lt_succ_iff_lt_or_eq.1 hi with h|h
   · exact ha i h
   · subst h;assumption
 iterate 20 kernel_rfl
 apply qf (decide_eq_false hb1)
 refine a6 0 kq kq ?_
 apply af
 apply af
 apply aE
 apply ab
 apply qz []
 apply qU 1 [(4,.int .i64 (-1))]
 refine cK kq ?_
 refine dg (l:=[.int .i64 (-1)]) (.inr rfl) kq Cc mK mK ?_ ?_
 refine Eq.trans (b:=[.box [.str r.col,.str r.tab]]) kq ?_
 · rfl
 · simp [ai.belO,av,aa.bel]
 iterate 14 kernel_rfl
noncomputable def c31:Code:=aT Tryz.f31
theorem xw (l:List Rf) (r:Rf) (hn:l.length<1000000000):aL cx 31 [.imm (l.map Rf.v),.fn (.func 150) [] [.ptr 0 0]] [.box [.str r.col,.str r.tab]] (fun v h=>v=(.bool (l.any (fun x:Rf=>x.col==r.col)))∧h=[.box [.str r.col,.str r.tab]]):=by
 refine aC (cx:=cx) 9 1 [(ResultVar.tmp 4)] Tryz.func31 rfl rfl rfl rfl rfl zq ?_
 show wpA cx 9 1 (at_ c31 []) _ _ _
 apply qZ [(0,.imm (l.map Rf.v)),(1,.fn (.func 150) [] [.ptr 0 0])] [.box [.str r.col,.str r.tab]]
 apply qU 1 [(0,.imm (l.map Rf.v)),(1,.fn (.func 150) [] [.ptr 0 0])]
 apply qV 2
 refine b7 (args:=[.imm (l.map Rf.v),.fn (.func 150) [] [.ptr 0 0]]) (hs:=[.box [.str r.col,.str r.tab]]) (hs':=[.box [.str r.col,.str r.tab]]) (rest:=[]) kq kq kq kq kq (xh l r oq) pe pe rfl pe pe kq ?_
 refine qR 2 [(4,.bool (decide ((cO (fun x:Rf=>x.col==r.col) l) ≥ 0)))] [.box [.str r.col,.str r.tab]] ?_ ?_
 refine cK kq ?_
 refine dg (l:=[.bool (decide ((cO (fun x:Rf=>x.col==r.col) l) ≥ 0))]) (.inr rfl) kq (by show aa.bool _=aa.bool _;rw [← pn] <;> rfl) mK mK ?_ ?_
 refine Eq.trans (b:=[.box [.str r.col,.str r.tab]]) kq ?_
 · rfl
 · simp [ai.belO,av,aa.bel]
 iterate 4 kernel_rfl
section
variable {low:List UInt8→Bool} {sto:Ty→Bool} {fst:List UInt8→Option Tb} {t:Tb} {d:Dc} {i:Nat}
theorem fX (h:(t.refs.take i).any (fun x=>x.col==(t.refs.getD i Rf.zero).col)=true):dW fst t i=true:=by unfold dW;rw [h];rfl
theorem xE (h:¬ (t.refs.take i).any (fun x=>x.col==(t.refs.getD i Rf.zero).col)=true) (h2:¬ (fst (t.refs.getD i Rf.zero).tab).isSome=true):dW fst t i=false:=by unfold dW;rw [Bool.eq_false_iff.2 h,Bool.eq_false_iff.2 h2];rfl
theorem xu (h:¬ (t.refs.take i).any (fun x=>x.col==(t.refs.getD i Rf.zero).col)=true) (h2:¬ bc t.cols (t.refs.getD i Rf.zero).col=true):dW fst t i=false:=by
 unfold dW;rw [Bool.eq_false_iff.2 h,Bool.eq_false_iff.2 h2,Bool.false_and,Bool.and_false];rfl
theorem oh (h:¬ (t.refs.take i).any (fun x=>x.col==(t.refs.getD i Rf.zero).col)=true) (h2:tgt ((fst (t.refs.getD i Rf.zero).tab).getD Tb.zero) (au t.cols (t.refs.getD i Rf.zero).col).type=true):dW fst t i=false:=by
 unfold dW;rw [Bool.eq_false_iff.2 h,h2,Bool.not_true,Bool.and_false,Bool.and_false];rfl
theorem nR (h1:(fst (t.refs.getD i Rf.zero).tab).isSome=true) (h2:bc t.cols (t.refs.getD i Rf.zero).col=true) (h3:¬ tgt ((fst (t.refs.getD i Rf.zero).tab).getD Tb.zero) (au t.cols (t.refs.getD i Rf.zero).col).type=true):dW fst t i=true:=by
 unfold dW;rw [h1,h2,Bool.eq_false_iff.2 h3];cases (t.refs.take i).any _ <;> rfl
theorem C0 {b:Bool} (h:b=true) (q:Bool):(b || q)=true:=by rw [h];rfl
theorem C8 {b:Bool} (h:¬ b=true) (h2:¬ (fst (d.tab.refs.getD i Rf.zero).tab).isSome=true):(b || bM fst d i)=true:=by unfold bM;rw [Bool.eq_false_iff.2 h2];cases b <;> rfl
theorem CK {b:Bool} (h:¬ b=true) (h2:(fst (d.tab.refs.getD i Rf.zero).tab).isSome=true):(b || bM fst d i)=!(bc d.tab.cols (d.tab.refs.getD i Rf.zero).col):=by unfold bM;rw [Bool.eq_false_iff.2 h,h2];rfl
theorem lB {n:List UInt8} (M:Tm_) (h:∀ n x,ag n M=some x→x.ok):((ag n M).getD Tb.zero).ok:=by
 cases e:ag n M with
 | none=>exact ⟨by simp [Tb.zero],by simp [Tb.zero],by simp [Tb.zero],fun c hc=>by cases hc⟩
 | some x=>exact h n x e
end
noncomputable def c76:Code:=aT Tryz.f76
theorem uC {p:Prop} (h:p:=by simp [Ty.v,Ex.v,Ct.v,Co.v,Rf.v,Sm.v,Tb.v_cs,Sc.v,Md.v,Pb.v,Ls.v,-List.map_take,-List.map_drop,-List.map_append]):p:=h
theorem qG {p:Prop} (h:p:=by simp [ai.belO,hpF,Ty.v,Ex.v,Ct.v,Co.v,Rf.v,Sm.v,Tb.v_cs,Sc.v,Md.v,Pb.v,Ls.v]):p:=h
theorem y5 {p:Prop} (h:p:=by (first|rw [C0 aq]|rw [C8 (fst:=(fun n=>ag n M)) aq aq]|rw [CK (fst:=(fun n=>ag n M)) aq aq]);show _=_;kernel_rfl):p:=h
theorem uG {p:Prop} (h:p:=by simp [List.set,aa.frz,aZ]):p:=h
theorem uv {p:Prop} (h:p:=by simp [aa.owns,aO]):p:=h
theorem u3 (sums:List Sm) (M:Tm_) (s:BP) (doc:List UInt8) (d:Dc) (hd:d.ok) (hs:s.2.length<100000) (hM:∀ n x,ag n M=some x→x.ok):aL cx 76 [.ptr 0 0,.str doc,Dc.v d] (hpF sums M s) (fun v h=>v=(.tup [])∧h=hpF sums M (b0 (fun n=>ag n M) doc d s)):=by
 have hdc:=hd.t.c
 have hdr:=hd.t.r
 have hfz:=fun n=>(lB (n:=n) M hM).c
 refine aC (cx:=cx) 93 4 [] Tryz.func76 rfl rfl rfl rfl rfl zq ?_
 show wpA cx 93 4 (at_ c76 []) _ _ _
 apply qZ [(0,.ptr 0 0),(1,.str doc),(2,Dc.v d)] [.box [.imm (sums.map Sm.v),.map 1,.map 2,.own 3 0 s.2.length],.map (ac aa.str Tb.v M),.map (ac aa.str aa.bool s.1),.arr 5 (s.2.map Pb.v) 0]
 apply qW 1 [(0,.ptr 0 0),(1,.str doc),(5,.ptr 4 0)] [.box [.imm (sums.map Sm.v),.map 1,.map 2,.own 3 0 s.2.length],.map (ac aa.str Tb.v M),.map (ac aa.str aa.bool s.1),.arr 5 (s.2.map Pb.v) 0,.box (Dc.cs d)]
 apply qV 3
 refine qy (aw (l:=d.tab.refs) (enc:=Rf.v) kq gt) ?_ ?_ ?_
 apply qR 1 [(0,.ptr 0 0),(1,.str doc),(5,.ptr 4 0),(15,.imm (d.tab.refs.map Rf.v)),(16,nI d.tab.refs.length),(17,.int .i64 0)] [.box [.imm (sums.map Sm.v),.map 1,.map 2,.own 3 0 s.2.length],.map (ac aa.str Tb.v M),.map (ac aa.str aa.bool s.1),.arr 5 (s.2.map Pb.v) 0,.box (Dc.cs d)]
 apply qB 0
 refine bn (σ:=Nat) (fun k=>[(0,.ptr 0 0),(1,.str doc),(5,.ptr 4 0),(15,.imm (d.tab.refs.map Rf.v)),(16,.int .i64 ((d.tab.refs.length:Nat):Int)),(17,.int .i64 ((k:Nat):Int))]) (fun k=>[.box [.imm (sums.map Sm.v),.map 1,.map 2,.own 3 0 (aH (fun n=>ag n M) doc d k s).2.length],.map (ac aa.str Tb.v M),.map (ac aa.str aa.bool (aH (fun n=>ag n M) doc d k s).1),.arr 5 ((aH (fun n=>ag n M) doc d k s).2.map Pb.v) 0,.box (Dc.cs d)]) (fun k=>k≤d.tab.refs.length) (fun k=>d.tab.refs.length - k) 0 kq (by exact Nat.zero_le _) ⟨⟨kq,kq,kq,kq,kq,kq,trivial⟩,by simp [aG,aa.bel],by simp,kq,by simp [ai.belO,hpF,Ty.v,Ex.v,Ct.v,Co.v,Rf.v,Sm.v,Tb.v_cs,Sc.v,Md.v,Pb.v,Ls.v]⟩ ?_
 rintro k hk
 have hcl:=l4 (fun n=>ag n M) doc d s k
 refine qW 1 [(0,.ptr 0 0),(1,.str doc),(5,.ptr 4 0),(15,.imm (d.tab.refs.map Rf.v)),(16,nI d.tab.refs.length),(17,nI k),(18,.bool (decide (((k:Nat):Int)<((d.tab.refs.length:Nat):Int))))] [.box [.imm (sums.map Sm.v),.map 1,.map 2,.own 3 0 (aH (fun n=>ag n M) doc d k s).2.length],.map (ac aa.str Tb.v M),.map (ac aa.str aa.bool (aH (fun n=>ag n M) doc d k s).1),.arr 5 ((aH (fun n=>ag n M) doc d k s).2.map Pb.v) 0,.box (Dc.cs d)] ?_ ?_
 apply az
 by_cases hb1:((k:Nat):Int)<((d.tab.refs.length:Nat):Int)
 apply qt (decide_eq_true hb1)
 apply qK
 apply qz [(0,.ptr 0 0),(1,.str doc),(5,.ptr 4 0),(15,.imm (d.tab.refs.map Rf.v)),(16,nI d.tab.refs.length),(17,nI k)]
 apply az
 apply qB 1
 apply qV 1
 refine qy ((aA (k:=.i64) (l:=d.tab.refs) (enc:=Rf.v) (i:=((k:Nat):Int)) Rf.zero kq gt mD (fun _=>rfl) oq oq).trans (congrArg (fun cs=>some (aa.pimm cs 0,_)) (en (d.tab.refs.getD k Rf.zero)))) ?_ ?_ ?_
 refine qR 4 [(0,.ptr 0 0),(1,.str doc),(5,.ptr 4 0),(6,nI k),(7,.ptr 5 0),(15,.imm (d.tab.refs.map Rf.v)),(16,nI d.tab.refs.length),(17,nI k)] [.box [.imm (sums.map Sm.v),.map 1,.map 2,.own 3 0 (aH (fun n=>ag n M) doc d k s).2.length],.map (ac aa.str Tb.v M),.map (ac aa.str aa.bool (aH (fun n=>ag n M) doc d k s).1),.arr 5 ((aH (fun n=>ag n M) doc d k s).2.map Pb.v) 0,.box (Dc.cs d),.box [.str (d.tab.refs.getD k Rf.zero).col,.str (d.tab.refs.getD k Rf.zero).tab]] ?_ ?_
 apply qV 5
 refine bj (args:=[.imm (d.tab.cols.map Co.v),.fn (.func 121) [] [],.str (d.tab.refs.getD k Rf.zero).col]) kq kq kq kq (fW d.tab.cols ((d.tab.refs.getD k Rf.zero).col) oq) uC uC uC ?_
 refine qR 6 [(0,.ptr 0 0),(1,.str doc),(5,.ptr 4 0),(6,nI k),(7,.ptr 5 0),(8,.ptr 6 0),(9,.bool (bc d.tab.cols ((d.tab.refs.getD k Rf.zero).col))),(15,.imm (d.tab.refs.map Rf.v)),(16,nI d.tab.refs.length),(17,nI k)] [.box [.imm (sums.map Sm.v),.map 1,.map 2,.own 3 0 (aH (fun n=>ag n M) doc d k s).2.length],.map (ac aa.str Tb.v M),.map (ac aa.str aa.bool (aH (fun n=>ag n M) doc d k s).1),.arr 5 ((aH (fun n=>ag n M) doc d k s).2.map Pb.v) 0,.box (Dc.cs d),.box [.str (d.tab.refs.getD k Rf.zero).col,.str (d.tab.refs.getD k Rf.zero).tab],.box [.str (au d.tab.cols ((d.tab.refs.getD k Rf.zero).col)).name,.int .i64 ((au d.tab.cols ((d.tab.refs.getD k Rf.zero).col)).type.kind),.str (au d.tab.cols ((d.tab.refs.getD k Rf.zero).col)).type.name,.int .i64 ((au d.tab.cols ((d.tab.refs.getD k Rf.zero).col)).type.n),.imm ((au d.tab.cols ((d.tab.refs.getD k Rf.zero).col)).type.names.map aa.str),.imm ((au d.tab.cols ((d.tab.refs.getD k Rf.zero).col)).type.kids.map Ty.enc)]] ?_ ?_
 apply qV 4
 refine qy (dj (lo:=none) (hi:=(some (.int .i64 ((k:Nat):Int)))) (l:=d.tab.refs) (enc:=Rf.v) (x:=0) (y:=((k:Nat):Int)) kq gt mD (fun _=>rfl) kq kq oq oq oq) ?_ ?_ ?_
 apply qr 1
 refine iQ (args:=[.imm ((d.tab.refs.take k).map Rf.v),.fn (.func 150) [] [.ptr 5 0]]) (v:=.bool ((d.tab.refs.take k).any (fun x:Rf=>x.col==(d.tab.refs.getD k Rf.zero).col))) (h':=[.box [.imm (sums.map Sm.v),.map 1,.map 2,.own 3 0 (aH (fun n=>ag n M) doc d k s).2.length],.map (ac aa.str Tb.v M),.map (ac aa.str aa.bool (aH (fun n=>ag n M) doc d k s).1),.arr 5 ((aH (fun n=>ag n M) doc d k s).2.map Pb.v) 0,.box (Dc.cs d),.box [.str (d.tab.refs.getD k Rf.zero).col,.str (d.tab.refs.getD k Rf.zero).tab],.box [.str (au d.tab.cols ((d.tab.refs.getD k Rf.zero).col)).name,.int .i64 ((au d.tab.cols ((d.tab.refs.getD k Rf.zero).col)).type.kind),.str (au d.tab.cols ((d.tab.refs.getD k Rf.zero).col)).type.name,.int .i64 ((au d.tab.cols ((d.tab.refs.getD k Rf.zero).col)).type.n),.imm ((au d.tab.cols ((d.tab.refs.getD k Rf.zero).col)).type.names.map aa.str),.imm ((au d.tab.cols ((d.tab.refs.getD k Rf.zero).col)).type.kids.map Ty.enc)]]) [.box [.imm (sums.map Sm.v),.map 1,.map 2,.own 3 0 (aH (fun n=>ag n M) doc d k s).2.length],.map (ac aa.str Tb.v M),.map (ac aa.str aa.bool (aH (fun n=>ag n M) doc d k s).1),.arr 5 ((aH (fun n=>ag n M) doc d k s).2.map Pb.v) 0,.box (Dc.cs d),.box [.str (d.tab.refs.getD k Rf.zero).col,.str (d.tab.refs.getD k Rf.zero).tab],.box [.str (au d.tab.cols ((d.tab.refs.getD k Rf.zero).col)).name,.int .i64 ((au d.tab.cols ((d.tab.refs.getD k Rf.zero).col)).type.kind),.str (au d.tab.cols ((d.tab.refs.getD k Rf.zero).col)).type.name,.int .i64 ((au d.tab.cols ((d.tab.refs.getD k Rf.zero).col)).type.n),.imm ((au d.tab.cols ((d.tab.refs.getD k Rf.zero).col)).type.names.map aa.str),.imm ((au d.tab.cols ((d.tab.refs.getD k Rf.zero).col)).type.kids.map Ty.enc)]] kq kq kq kq kq (kg [5] (xw (d.tab.refs.take k) (d.tab.refs.getD k Rf.zero) (by simp;omega)) rfl dq (by simp [av,aa.bel,Ty.v,Ex.v,Ct.v,Co.v,Rf.v,Sm.v,Tb.v_cs,Sc.v,Md.v,Pb.v,Ls.v,-List.map_take,-List.map_drop,-List.map_append]) kq kq rfl (by simp [cA,aa.ren,iS,-List.map_take,-List.map_drop,-List.map_append];rfl) rfl kq) ?_
 refine qR 1 [(0,.ptr 0 0),(1,.str doc),(5,.ptr 4 0),(7,.ptr 5 0),(8,.ptr 6 0),(9,.bool (bc d.tab.cols ((d.tab.refs.getD k Rf.zero).col))),(10,.bool ((d.tab.refs.take k).any (fun x:Rf=>x.col==(d.tab.refs.getD k Rf.zero).col))),(15,.imm (d.tab.refs.map Rf.v)),(16,nI d.tab.refs.length),(17,nI k)] [.box [.imm (sums.map Sm.v),.map 1,.map 2,.own 3 0 (aH (fun n=>ag n M) doc d k s).2.length],.map (ac aa.str Tb.v M),.map (ac aa.str aa.bool (aH (fun n=>ag n M) doc d k s).1),.arr 5 ((aH (fun n=>ag n M) doc d k s).2.map Pb.v) 0,.box (Dc.cs d),.box [.str (d.tab.refs.getD k Rf.zero).col,.str (d.tab.refs.getD k Rf.zero).tab],.box [.str (au d.tab.cols ((d.tab.refs.getD k Rf.zero).col)).name,.int .i64 ((au d.tab.cols ((d.tab.refs.getD k Rf.zero).col)).type.kind),.str (au d.tab.cols ((d.tab.refs.getD k Rf.zero).col)).type.name,.int .i64 ((au d.tab.cols ((d.tab.refs.getD k Rf.zero).col)).type.n),.imm ((au d.tab.cols ((d.tab.refs.getD k Rf.zero).col)).type.names.map aa.str),.imm ((au d.tab.cols ((d.tab.refs.getD k Rf.zero).col)).type.kids.map Ty.enc)]] ?_ ?_
 refine ov (σ:=Unit) (fun _=>[(0,.ptr 0 0),(1,.str doc),(5,.ptr 4 0),(7,.ptr 5 0),(8,.ptr 6 0),(9,.bool (bc d.tab.cols ((d.tab.refs.getD k Rf.zero).col))),(10,.bool ((d.tab.refs.take k).any (fun x:Rf=>x.col==(d.tab.refs.getD k Rf.zero).col))),(11,.ptr 7 0),(12,.bool ((ag (d.tab.refs.getD k Rf.zero).tab M).isSome)),(15,.imm (d.tab.refs.map Rf.v)),(16,.int .i64 ((d.tab.refs.length:Nat):Int)),(17,.int .i64 ((k:Nat):Int))]) (fun _=>[.box [.imm (sums.map Sm.v),.map 1,.map 2,.own 3 0 (aH (fun n=>ag n M) doc d k s).2.length],.map (ac aa.str Tb.v M),.map (ac aa.str aa.bool (aH (fun n=>ag n M) doc d k s).1),.arr 5 ((aH (fun n=>ag n M) doc d k s).2.map Pb.v) 0,.box (Dc.cs d),.box [.str (d.tab.refs.getD k Rf.zero).col,.str (d.tab.refs.getD k Rf.zero).tab],.box [.str (au d.tab.cols ((d.tab.refs.getD k Rf.zero).col)).name,.int .i64 ((au d.tab.cols ((d.tab.refs.getD k Rf.zero).col)).type.kind),.str (au d.tab.cols ((d.tab.refs.getD k Rf.zero).col)).type.name,.int .i64 ((au d.tab.cols ((d.tab.refs.getD k Rf.zero).col)).type.n),.imm ((au d.tab.cols ((d.tab.refs.getD k Rf.zero).col)).type.names.map aa.str),.imm ((au d.tab.cols ((d.tab.refs.getD k Rf.zero).col)).type.kids.map Ty.enc)],.box (Tb.cs ((ag (d.tab.refs.getD k Rf.zero).tab M).getD Tb.zero))]) (fun _=>True) kq ?_ ?_
 refine b6 cxM kq vD (aU ?_)
 apply qu 6
 rcases hm2:ag ((d.tab.refs.getD k Rf.zero).tab) M with _|x2
 refine qd (tl (ok:=true) (o:=1) (ek:=aa.str) (ev:=Tb.v) (l:=M) (k:=((d.tab.refs.getD k Rf.zero).tab)) dV hm2 kq vQ ty9 rfl cz kq) ?_ ?_ ?_ ?_
 apply qu 6
 refine bG kq ⟨kq,?_⟩
 refine ab (fun d_ Q_ hk_=>?_)
 refine qZ [(0,.ptr 0 0),(1,.str doc),(5,.ptr 4 0),(7,.ptr 5 0),(8,.ptr 6 0),(9,.bool (bc d.tab.cols ((d.tab.refs.getD k Rf.zero).col))),(10,.bool ((d.tab.refs.take k).any (fun x:Rf=>x.col==(d.tab.refs.getD k Rf.zero).col))),(11,.ptr 7 0),(12,.bool false),(15,.imm (d.tab.refs.map Rf.v)),(16,nI d.tab.refs.length),(17,nI k)] [.box [.imm (sums.map Sm.v),.map 1,.map 2,.own 3 0 (aH (fun n=>ag n M) doc d k s).2.length],.map (ac aa.str Tb.v M),.map (ac aa.str aa.bool (aH (fun n=>ag n M) doc d k s).1),.arr 5 ((aH (fun n=>ag n M) doc d k s).2.map Pb.v) 0,.box (Dc.cs d),.box [.str (d.tab.refs.getD k Rf.zero).col,.str (d.tab.refs.getD k Rf.zero).tab],.box [.str (au d.tab.cols ((d.tab.refs.getD k Rf.zero).col)).name,.int .i64 ((au d.tab.cols ((d.tab.refs.getD k Rf.zero).col)).type.kind),.str (au d.tab.cols ((d.tab.refs.getD k Rf.zero).col)).type.name,.int .i64 ((au d.tab.cols ((d.tab.refs.getD k Rf.zero).col)).type.n),.imm ((au d.tab.cols ((d.tab.refs.getD k Rf.zero).col)).type.names.map aa.str),.imm ((au d.tab.cols ((d.tab.refs.getD k Rf.zero).col)).type.kids.map Ty.enc)],.box [.str [],.full [],.full [],.full [],.int .i64 0,.str [],.int .i64 0,.str [],.full [],.full [],.full [],.int .i64 0,.int .i64 0]] ?_ ?_
 refine cd 7 1 (cs:=[.str [],.full [],.full [],.full [],.int .i64 0,.str [],.int .i64 0,.str [],.full [],.full [],.full [],.int .i64 0,.int .i64 0]) (y:=.full []) [.str [],.imm (([]:List (Co)).map Co.v),.full [],.full [],.int .i64 0,.str [],.int .i64 0,.str [],.full [],.full [],.full [],.int .i64 0,.int .i64 0] kq kq uv uG ?_
 refine cd 7 2 (cs:=[.str [],.imm (([]:List (Co)).map Co.v),.full [],.full [],.int .i64 0,.str [],.int .i64 0,.str [],.full [],.full [],.full [],.int .i64 0,.int .i64 0]) (y:=.full []) [.str [],.imm (([]:List (Co)).map Co.v),.imm (([]:List (List UInt8)).map aa.str),.full [],.int .i64 0,.str [],.int .i64 0,.str [],.full [],.full [],.full [],.int .i64 0,.int .i64 0] kq kq uv uG ?_
 refine cd 7 3 (cs:=[.str [],.imm (([]:List (Co)).map Co.v),.imm (([]:List (List UInt8)).map aa.str),.full [],.int .i64 0,.str [],.int .i64 0,.str [],.full [],.full [],.full [],.int .i64 0,.int .i64 0]) (y:=.full []) [.str [],.imm (([]:List (Co)).map Co.v),.imm (([]:List (List UInt8)).map aa.str),.imm (([]:List (Rf)).map Rf.v),.int .i64 0,.str [],.int .i64 0,.str [],.full [],.full [],.full [],.int .i64 0,.int .i64 0] kq kq uv uG ?_
 refine cd 7 8 (cs:=[.str [],.imm (([]:List (Co)).map Co.v),.imm (([]:List (List UInt8)).map aa.str),.imm (([]:List (Rf)).map Rf.v),.int .i64 0,.str [],.int .i64 0,.str [],.full [],.full [],.full [],.int .i64 0,.int .i64 0]) (y:=.full []) [.str [],.imm (([]:List (Co)).map Co.v),.imm (([]:List (List UInt8)).map aa.str),.imm (([]:List (Rf)).map Rf.v),.int .i64 0,.str [],.int .i64 0,.str [],.imm (([]:List (List UInt8)).map aa.str),.full [],.full [],.int .i64 0,.int .i64 0] kq kq uv uG ?_
 refine cd 7 9 (cs:=[.str [],.imm (([]:List (Co)).map Co.v),.imm (([]:List (List UInt8)).map aa.str),.imm (([]:List (Rf)).map Rf.v),.int .i64 0,.str [],.int .i64 0,.str [],.imm (([]:List (List UInt8)).map aa.str),.full [],.full [],.int .i64 0,.int .i64 0]) (y:=.full []) [.str [],.imm (([]:List (Co)).map Co.v),.imm (([]:List (List UInt8)).map aa.str),.imm (([]:List (Rf)).map Rf.v),.int .i64 0,.str [],.int .i64 0,.str [],.imm (([]:List (List UInt8)).map aa.str),.imm (([]:List (List UInt8)).map aa.str),.full [],.int .i64 0,.int .i64 0] kq kq uv uG ?_
 refine cd 7 10 (cs:=[.str [],.imm (([]:List (Co)).map Co.v),.imm (([]:List (List UInt8)).map aa.str),.imm (([]:List (Rf)).map Rf.v),.int .i64 0,.str [],.int .i64 0,.str [],.imm (([]:List (List UInt8)).map aa.str),.imm (([]:List (List UInt8)).map aa.str),.full [],.int .i64 0,.int .i64 0]) (y:=.full []) [.str [],.imm (([]:List (Co)).map Co.v),.imm (([]:List (List UInt8)).map aa.str),.imm (([]:List (Rf)).map Rf.v),.int .i64 0,.str [],.int .i64 0,.str [],.imm (([]:List (List UInt8)).map aa.str),.imm (([]:List (List UInt8)).map aa.str),.imm (([]:List (Ex)).map Ex.enc),.int .i64 0,.int .i64 0] kq kq uv uG ?_
 refine hk_ _ _ ⟨(),?_,⟨⟨kq,kq,kq,kq,kq,kq,kq,kq,(Eq.trans (b:=.bool false) kq (by rfl)),kq,kq,kq,trivial⟩,by simp [aG,aa.bel],by simp,(Eq.trans (b:=[.box [.imm (sums.map Sm.v),.map 1,.map 2,.own 3 0 (aH (fun n=>ag n M) doc d k s).2.length],.map (ac aa.str Tb.v M),.map (ac aa.str aa.bool (aH (fun n=>ag n M) doc d k s).1),.arr 5 ((aH (fun n=>ag n M) doc d k s).2.map Pb.v) 0,.box (Dc.cs d),.box [.str (d.tab.refs.getD k Rf.zero).col,.str (d.tab.refs.getD k Rf.zero).tab],.box [.str (au d.tab.cols ((d.tab.refs.getD k Rf.zero).col)).name,.int .i64 ((au d.tab.cols ((d.tab.refs.getD k Rf.zero).col)).type.kind),.str (au d.tab.cols ((d.tab.refs.getD k Rf.zero).col)).type.name,.int .i64 ((au d.tab.cols ((d.tab.refs.getD k Rf.zero).col)).type.n),.imm ((au d.tab.cols ((d.tab.refs.getD k Rf.zero).col)).type.names.map aa.str),.imm ((au d.tab.cols ((d.tab.refs.getD k Rf.zero).col)).type.kids.map Ty.enc)],.box [.str [],.imm (([]:List (Co)).map Co.v),.imm (([]:List (List UInt8)).map aa.str),.imm (([]:List (Rf)).map Rf.v),.int .i64 0,.str [],.int .i64 0,.str [],.imm (([]:List (List UInt8)).map aa.str),.imm (([]:List (List UInt8)).map aa.str),.imm (([]:List (Ex)).map Ex.enc),.int .i64 0,.int .i64 0]]) kq (by show _=_;kernel_rfl)),by simp [ai.belO,hpF,Ty.v,Ex.v,Ct.v,Co.v,Rf.v,Sm.v,Tb.v_cs,Sc.v,Md.v,Pb.v,Ls.v]⟩⟩
 · trivial
 iterate 5 kernel_rfl
 refine qd (sI (ok:=true) (o:=1) (ek:=aa.str) (ev:=Tb.v) (l:=M) (k:=((d.tab.refs.getD k Rf.zero).tab)) (x:=x2) dV hm2 kq vQ ty9 rfl cz kq) ?_ ?_ ?_ ?_
 apply qu 6
 refine bG kq ⟨kq,?_⟩
 refine ab (fun d_ Q_ hk_=>?_)
 refine qZ [(0,.ptr 0 0),(1,.str doc),(5,.ptr 4 0),(7,.ptr 5 0),(8,.ptr 6 0),(9,.bool (bc d.tab.cols ((d.tab.refs.getD k Rf.zero).col))),(10,.bool ((d.tab.refs.take k).any (fun x:Rf=>x.col==(d.tab.refs.getD k Rf.zero).col))),(11,.ptr 7 0),(12,.bool true),(15,.imm (d.tab.refs.map Rf.v)),(16,nI d.tab.refs.length),(17,nI k)] [.box [.imm (sums.map Sm.v),.map 1,.map 2,.own 3 0 (aH (fun n=>ag n M) doc d k s).2.length],.map (ac aa.str Tb.v M),.map (ac aa.str aa.bool (aH (fun n=>ag n M) doc d k s).1),.arr 5 ((aH (fun n=>ag n M) doc d k s).2.map Pb.v) 0,.box (Dc.cs d),.box [.str (d.tab.refs.getD k Rf.zero).col,.str (d.tab.refs.getD k Rf.zero).tab],.box [.str (au d.tab.cols ((d.tab.refs.getD k Rf.zero).col)).name,.int .i64 ((au d.tab.cols ((d.tab.refs.getD k Rf.zero).col)).type.kind),.str (au d.tab.cols ((d.tab.refs.getD k Rf.zero).col)).type.name,.int .i64 ((au d.tab.cols ((d.tab.refs.getD k Rf.zero).col)).type.n),.imm ((au d.tab.cols ((d.tab.refs.getD k Rf.zero).col)).type.names.map aa.str),.imm ((au d.tab.cols ((d.tab.refs.getD k Rf.zero).col)).type.kids.map Ty.enc)],.box (Tb.cs x2)] ?_ ?_
 refine hk_ _ _ ⟨(),?_,⟨⟨kq,kq,kq,kq,kq,kq,kq,kq,(Eq.trans (b:=.bool true) kq (by rfl)),kq,kq,kq,trivial⟩,by simp [aG,aa.bel],by simp,(Eq.trans (b:=[.box [.imm (sums.map Sm.v),.map 1,.map 2,.own 3 0 (aH (fun n=>ag n M) doc d k s).2.length],.map (ac aa.str Tb.v M),.map (ac aa.str aa.bool (aH (fun n=>ag n M) doc d k s).1),.arr 5 ((aH (fun n=>ag n M) doc d k s).2.map Pb.v) 0,.box (Dc.cs d),.box [.str (d.tab.refs.getD k Rf.zero).col,.str (d.tab.refs.getD k Rf.zero).tab],.box [.str (au d.tab.cols ((d.tab.refs.getD k Rf.zero).col)).name,.int .i64 ((au d.tab.cols ((d.tab.refs.getD k Rf.zero).col)).type.kind),.str (au d.tab.cols ((d.tab.refs.getD k Rf.zero).col)).type.name,.int .i64 ((au d.tab.cols ((d.tab.refs.getD k Rf.zero).col)).type.n),.imm ((au d.tab.cols ((d.tab.refs.getD k Rf.zero).col)).type.names.map aa.str),.imm ((au d.tab.cols ((d.tab.refs.getD k Rf.zero).col)).type.kids.map Ty.enc)],.box (Tb.cs x2)]) kq (by show _=_;kernel_rfl)),by simp [ai.belO,hpF,Ty.v,Ex.v,Ct.v,Co.v,Rf.v,Sm.v,Tb.v_cs,Sc.v,Md.v,Pb.v,Ls.v]⟩⟩
 · trivial
 iterate 6 kernel_rfl
 rintro _ _
 refine sY (σ:=Unit) (fun _=>[(0,.ptr 0 0),(1,.str doc),(5,.ptr 4 0),(7,.ptr 5 0),(8,.ptr 6 0),(9,.bool (bc d.tab.cols ((d.tab.refs.getD k Rf.zero).col))),(10,.bool ((d.tab.refs.take k).any (fun x:Rf=>x.col==(d.tab.refs.getD k Rf.zero).col))),(11,.ptr 7 0),(12,.bool ((ag (d.tab.refs.getD k Rf.zero).tab M).isSome)),(15,.imm (d.tab.refs.map Rf.v)),(16,.int .i64 ((d.tab.refs.length:Nat):Int)),(17,.int .i64 ((k:Nat):Int))]) (fun _=>[.box [.imm (sums.map Sm.v),.map 1,.map 2,.own 3 0 (bP d.name (aF (aH (fun n=>ag n M) doc d k s).1 d.name || bM (fun n=>ag n M) d k) (aH (fun n=>ag n M) doc d k s)).2.length],.map (ac aa.str Tb.v M),.map (ac aa.str aa.bool (bP d.name (aF (aH (fun n=>ag n M) doc d k s).1 d.name || bM (fun n=>ag n M) d k) (aH (fun n=>ag n M) doc d k s)).1),.arr 5 ((bP d.name (aF (aH (fun n=>ag n M) doc d k s).1 d.name || bM (fun n=>ag n M) d k) (aH (fun n=>ag n M) doc d k s)).2.map Pb.v) 0,.box (Dc.cs d),.box [.str (d.tab.refs.getD k Rf.zero).col,.str (d.tab.refs.getD k Rf.zero).tab],.box [.str (au d.tab.cols ((d.tab.refs.getD k Rf.zero).col)).name,.int .i64 ((au d.tab.cols ((d.tab.refs.getD k Rf.zero).col)).type.kind),.str (au d.tab.cols ((d.tab.refs.getD k Rf.zero).col)).type.name,.int .i64 ((au d.tab.cols ((d.tab.refs.getD k Rf.zero).col)).type.n),.imm ((au d.tab.cols ((d.tab.refs.getD k Rf.zero).col)).type.names.map aa.str),.imm ((au d.tab.cols ((d.tab.refs.getD k Rf.zero).col)).type.kids.map Ty.enc)],.box (Tb.cs ((ag (d.tab.refs.getD k Rf.zero).tab M).getD Tb.zero))]) (fun _=>True) kq ?_ ?_
 refine b6 cxM kq dK (aU ?_)
 apply qu 12
 refine qd (jV (a2:=0) (b2:=0) (ok:=false) (o:=2) (ek:=aa.str) (ev:=aa.bool) (l:=(aH (fun n=>ag n M) doc d k s).1) (k:=d.name) dV kq er ty9 kq ty4 kq false kq) ?_ ?_ ?_ ?_
 apply qu 1
 by_cases hb3:(aF ((aH (fun n=>ag n M) doc d k s).1) d.name)=true
 refine bQ 60 (.bool (aF ((aH (fun n=>ag n M) doc d k s).1) d.name)) (.bool true) (bO dK) kq (congrArg aa.bool (hb3)) ?_
 refine bQ 61 (.bool (aF ((aH (fun n=>ag n M) doc d k s).1) d.name)) (.bool true) (bO dK) kq (congrArg aa.bool (hb3)) ?_
 apply qu 7
 refine qD (cP (o:=2) (ek:=aa.str) (ev:=aa.bool) (l:=(aH (fun n=>ag n M) doc d k s).1) (k:=d.name) (x:=true) dV kq er ty9 rfl kq kq) ?_ ?_ ?_ ?_
 refine bG kq ⟨kq,?_⟩
 refine ab ⟨(),?_,⟨⟨kq,kq,kq,kq,kq,kq,kq,kq,kq,kq,kq,kq,trivial⟩,by simp [aG,aa.bel],by simp,(Eq.trans (b:=[.box [.imm (sums.map Sm.v),.map 1,.map 2,.own 3 0 (aH (fun n=>ag n M) doc d k s).2.length],.map (ac aa.str Tb.v M),.map (ac aa.str aa.bool (bh d.name true (aH (fun n=>ag n M) doc d k s).1)),.arr 5 ((aH (fun n=>ag n M) doc d k s).2.map Pb.v) 0,.box (Dc.cs d),.box [.str (d.tab.refs.getD k Rf.zero).col,.str (d.tab.refs.getD k Rf.zero).tab],.box [.str (au d.tab.cols ((d.tab.refs.getD k Rf.zero).col)).name,.int .i64 ((au d.tab.cols ((d.tab.refs.getD k Rf.zero).col)).type.kind),.str (au d.tab.cols ((d.tab.refs.getD k Rf.zero).col)).type.name,.int .i64 ((au d.tab.cols ((d.tab.refs.getD k Rf.zero).col)).type.n),.imm ((au d.tab.cols ((d.tab.refs.getD k Rf.zero).col)).type.names.map aa.str),.imm ((au d.tab.cols ((d.tab.refs.getD k Rf.zero).col)).type.kids.map Ty.enc)],.box (Tb.cs ((ag (d.tab.refs.getD k Rf.zero).tab M).getD Tb.zero))]) kq y5),by simp [ai.belO,hpF,Ty.v,Ex.v,Ct.v,Co.v,Rf.v,Sm.v,Tb.v_cs,Sc.v,Md.v,Pb.v,Ls.v]⟩⟩
 · trivial
 iterate 4 kernel_rfl
 refine bQ 60 (.bool (aF ((aH (fun n=>ag n M) doc d k s).1) d.name)) (.bool false) (bO dK) kq (congrArg aa.bool (Bool.eq_false_iff.2 hb3)) ?_
 refine bQ 61 (.bool (aF ((aH (fun n=>ag n M) doc d k s).1) d.name)) (.bool false) (bO dK) kq (congrArg aa.bool (Bool.eq_false_iff.2 hb3)) ?_
 apply qu 4
 by_cases hb4:((ag (d.tab.refs.getD k Rf.zero).tab M).isSome)=true
 refine bQ 63 (.bool (!((ag (d.tab.refs.getD k Rf.zero).tab M).isSome))) (.bool false) (bO dK) kq (congrArg aa.bool (congrArg not (hb4))) ?_
 refine bQ 64 (.bool (!((ag (d.tab.refs.getD k Rf.zero).tab M).isSome))) (.bool false) (bO dK) kq (congrArg aa.bool (congrArg not (hb4))) ?_
 refine bQ 65 (.bool (!((ag (d.tab.refs.getD k Rf.zero).tab M).isSome))) (.bool false) (bO dK) kq (congrArg aa.bool (congrArg not (hb4))) ?_
 apply qu 3
 refine qD (cP (o:=2) (ek:=aa.str) (ev:=aa.bool) (l:=(aH (fun n=>ag n M) doc d k s).1) (k:=d.name) (x:=(!(bc d.tab.cols ((d.tab.refs.getD k Rf.zero).col)))) dV kq er ty9 rfl kq kq) ?_ ?_ ?_ ?_
 refine bG kq ⟨kq,?_⟩
 refine ab ⟨(),?_,⟨⟨kq,kq,kq,kq,kq,kq,kq,kq,kq,kq,kq,kq,trivial⟩,by simp [aG,aa.bel],by simp,(Eq.trans (b:=[.box [.imm (sums.map Sm.v),.map 1,.map 2,.own 3 0 (aH (fun n=>ag n M) doc d k s).2.length],.map (ac aa.str Tb.v M),.map (ac aa.str aa.bool (bh d.name (!(bc d.tab.cols ((d.tab.refs.getD k Rf.zero).col))) (aH (fun n=>ag n M) doc d k s).1)),.arr 5 ((aH (fun n=>ag n M) doc d k s).2.map Pb.v) 0,.box (Dc.cs d),.box [.str (d.tab.refs.getD k Rf.zero).col,.str (d.tab.refs.getD k Rf.zero).tab],.box [.str (au d.tab.cols ((d.tab.refs.getD k Rf.zero).col)).name,.int .i64 ((au d.tab.cols ((d.tab.refs.getD k Rf.zero).col)).type.kind),.str (au d.tab.cols ((d.tab.refs.getD k Rf.zero).col)).type.name,.int .i64 ((au d.tab.cols ((d.tab.refs.getD k Rf.zero).col)).type.n),.imm ((au d.tab.cols ((d.tab.refs.getD k Rf.zero).col)).type.names.map aa.str),.imm ((au d.tab.cols ((d.tab.refs.getD k Rf.zero).col)).type.kids.map Ty.enc)],.box (Tb.cs ((ag (d.tab.refs.getD k Rf.zero).tab M).getD Tb.zero))]) kq y5),by simp [ai.belO,hpF,Ty.v,Ex.v,Ct.v,Co.v,Rf.v,Sm.v,Tb.v_cs,Sc.v,Md.v,Pb.v,Ls.v]⟩⟩
 · trivial
 iterate 4 kernel_rfl
 refine bQ 63 (.bool (!((ag (d.tab.refs.getD k Rf.zero).tab M).isSome))) (.bool true) (bO dK) kq (congrArg aa.bool (congrArg not (Bool.eq_false_iff.2 hb4))) ?_
 refine bQ 64 (.bool (!((ag (d.tab.refs.getD k Rf.zero).tab M).isSome))) (.bool true) (bO dK) kq (congrArg aa.bool (congrArg not (Bool.eq_false_iff.2 hb4))) ?_
 refine bQ 65 (.bool (!((ag (d.tab.refs.getD k Rf.zero).tab M).isSome))) (.bool true) (bO dK) kq (congrArg aa.bool (congrArg not (Bool.eq_false_iff.2 hb4))) ?_
 apply qu 3
 refine qD (cP (o:=2) (ek:=aa.str) (ev:=aa.bool) (l:=(aH (fun n=>ag n M) doc d k s).1) (k:=d.name) (x:=true) dV kq er ty9 rfl kq kq) ?_ ?_ ?_ ?_
 refine bG kq ⟨kq,?_⟩
 refine ab ⟨(),?_,⟨⟨kq,kq,kq,kq,kq,kq,kq,kq,kq,kq,kq,kq,trivial⟩,by simp [aG,aa.bel],by simp,(Eq.trans (b:=[.box [.imm (sums.map Sm.v),.map 1,.map 2,.own 3 0 (aH (fun n=>ag n M) doc d k s).2.length],.map (ac aa.str Tb.v M),.map (ac aa.str aa.bool (bh d.name true (aH (fun n=>ag n M) doc d k s).1)),.arr 5 ((aH (fun n=>ag n M) doc d k s).2.map Pb.v) 0,.box (Dc.cs d),.box [.str (d.tab.refs.getD k Rf.zero).col,.str (d.tab.refs.getD k Rf.zero).tab],.box [.str (au d.tab.cols ((d.tab.refs.getD k Rf.zero).col)).name,.int .i64 ((au d.tab.cols ((d.tab.refs.getD k Rf.zero).col)).type.kind),.str (au d.tab.cols ((d.tab.refs.getD k Rf.zero).col)).type.name,.int .i64 ((au d.tab.cols ((d.tab.refs.getD k Rf.zero).col)).type.n),.imm ((au d.tab.cols ((d.tab.refs.getD k Rf.zero).col)).type.names.map aa.str),.imm ((au d.tab.cols ((d.tab.refs.getD k Rf.zero).col)).type.kids.map Ty.enc)],.box (Tb.cs ((ag (d.tab.refs.getD k Rf.zero).tab M).getD Tb.zero))]) kq y5),by simp [ai.belO,hpF,Ty.v,Ex.v,Ct.v,Co.v,Rf.v,Sm.v,Tb.v_cs,Sc.v,Md.v,Pb.v,Ls.v]⟩⟩
 · trivial
 iterate 10 kernel_rfl
 rintro _ _
 apply qV 2
 by_cases hb5:((d.tab.refs.take k).any (fun x:Rf=>x.col==(d.tab.refs.getD k Rf.zero).col))=true
 apply qm [10,69,70] (hb5)
 refine qR 12 [(0,.ptr 0 0),(1,.str doc),(5,.ptr 4 0),(7,.ptr 5 0),(15,.imm (d.tab.refs.map Rf.v)),(16,nI d.tab.refs.length),(17,nI k),(71,.tup []),(72,.tup []),(73,.tup []),(74,.tup []),(75,.tup []),(76,.tup []),(77,.tup []),(78,.tup []),(79,.tup []),(80,.tup []),(81,.tup []),(82,.bool true)] [.box [.imm (sums.map Sm.v),.map 1,.map 2,.own 3 0 (bP d.name (aF (aH (fun n=>ag n M) doc d k s).1 d.name || bM (fun n=>ag n M) d k) (aH (fun n=>ag n M) doc d k s)).2.length],.map (ac aa.str Tb.v M),.map (ac aa.str aa.bool (bP d.name (aF (aH (fun n=>ag n M) doc d k s).1 d.name || bM (fun n=>ag n M) d k) (aH (fun n=>ag n M) doc d k s)).1),.arr 5 ((bP d.name (aF (aH (fun n=>ag n M) doc d k s).1 d.name || bM (fun n=>ag n M) d k) (aH (fun n=>ag n M) doc d k s)).2.map Pb.v) 0,.box (Dc.cs d),.box [.str (d.tab.refs.getD k Rf.zero).col,.str (d.tab.refs.getD k Rf.zero).tab],.box [.str (au d.tab.cols ((d.tab.refs.getD k Rf.zero).col)).name,.int .i64 ((au d.tab.cols ((d.tab.refs.getD k Rf.zero).col)).type.kind),.str (au d.tab.cols ((d.tab.refs.getD k Rf.zero).col)).type.name,.int .i64 ((au d.tab.cols ((d.tab.refs.getD k Rf.zero).col)).type.n),.imm ((au d.tab.cols ((d.tab.refs.getD k Rf.zero).col)).type.names.map aa.str),.imm ((au d.tab.cols ((d.tab.refs.getD k Rf.zero).col)).type.kids.map Ty.enc)],.box (Tb.cs ((ag (d.tab.refs.getD k Rf.zero).tab M).getD Tb.zero))] ?_ ?_
 refine cU kq kq ?_
 apply qo
 apply qr 8
 refine b7 (args:=[.ptr 0 0,.str doc,.agg (Dc.cs d),.full [.str (d.tab.refs.getD k Rf.zero).col,.str (d.tab.refs.getD k Rf.zero).tab]]) (hs:=[.box [.imm (sums.map Sm.v),.map 1,.map 2,.own 3 0 (bP d.name (aF (aH (fun n=>ag n M) doc d k s).1 d.name || bM (fun n=>ag n M) d k) (aH (fun n=>ag n M) doc d k s)).2.length],.map (ac aa.str Tb.v M),.map (ac aa.str aa.bool (bP d.name (aF (aH (fun n=>ag n M) doc d k s).1 d.name || bM (fun n=>ag n M) d k) (aH (fun n=>ag n M) doc d k s)).1),.arr 5 ((bP d.name (aF (aH (fun n=>ag n M) doc d k s).1 d.name || bM (fun n=>ag n M) d k) (aH (fun n=>ag n M) doc d k s)).2.map Pb.v) 0]) (hs':=[.box [.imm (sums.map Sm.v),.map 1,.map 2,.own 3 0 (ak doc d [(d.tab.refs.getD k Rf.zero).col,(d.tab.refs.getD k Rf.zero).tab] (bP d.name (aF (aH (fun n=>ag n M) doc d k s).1 d.name || bM (fun n=>ag n M) d k) (aH (fun n=>ag n M) doc d k s))).2.length],.map (ac aa.str Tb.v M),.map (ac aa.str aa.bool (ak doc d [(d.tab.refs.getD k Rf.zero).col,(d.tab.refs.getD k Rf.zero).tab] (bP d.name (aF (aH (fun n=>ag n M) doc d k s).1 d.name || bM (fun n=>ag n M) d k) (aH (fun n=>ag n M) doc d k s))).1),.arr 5 ((ak doc d [(d.tab.refs.getD k Rf.zero).col,(d.tab.refs.getD k Rf.zero).tab] (bP d.name (aF (aH (fun n=>ag n M) doc d k s).1 d.name || bM (fun n=>ag n M) d k) (aH (fun n=>ag n M) doc d k s))).2.map Pb.v) 0]) (rest:=[.box (Dc.cs d),.box [.str (d.tab.refs.getD k Rf.zero).col,.str (d.tab.refs.getD k Rf.zero).tab],.box [.str (au d.tab.cols ((d.tab.refs.getD k Rf.zero).col)).name,.int .i64 ((au d.tab.cols ((d.tab.refs.getD k Rf.zero).col)).type.kind),.str (au d.tab.cols ((d.tab.refs.getD k Rf.zero).col)).type.name,.int .i64 ((au d.tab.cols ((d.tab.refs.getD k Rf.zero).col)).type.n),.imm ((au d.tab.cols ((d.tab.refs.getD k Rf.zero).col)).type.names.map aa.str),.imm ((au d.tab.cols ((d.tab.refs.getD k Rf.zero).col)).type.kids.map Ty.enc)],.box (Tb.cs ((ag (d.tab.refs.getD k Rf.zero).tab M).getD Tb.zero))]) kq kq kq kq kq (bX sums M (bP d.name (aF (aH (fun n=>ag n M) doc d k s).1 d.name || bM (fun n=>ag n M) d k) (aH (fun n=>ag n M) doc d k s)) doc d [(d.tab.refs.getD k Rf.zero).col,(d.tab.refs.getD k Rf.zero).tab] (by simp only [aV,bP];omega) hd.n hd.a) qG qG rfl qG qG kq ?_
 apply qe
 apply ah
 apply ab
 refine qZ [(0,.ptr 0 0),(1,.str doc),(5,.ptr 4 0),(15,.imm (d.tab.refs.map Rf.v)),(16,nI d.tab.refs.length),(17,nI k),(71,.tup []),(72,.tup []),(73,.tup []),(74,.tup []),(75,.tup []),(76,.tup []),(77,.tup []),(78,.tup []),(79,.tup []),(80,.tup []),(81,.tup [])] [.box [.imm (sums.map Sm.v),.map 1,.map 2,.own 3 0 (ak doc d [(d.tab.refs.getD k Rf.zero).col,(d.tab.refs.getD k Rf.zero).tab] (bP d.name (aF (aH (fun n=>ag n M) doc d k s).1 d.name || bM (fun n=>ag n M) d k) (aH (fun n=>ag n M) doc d k s))).2.length],.map (ac aa.str Tb.v M),.map (ac aa.str aa.bool (ak doc d [(d.tab.refs.getD k Rf.zero).col,(d.tab.refs.getD k Rf.zero).tab] (bP d.name (aF (aH (fun n=>ag n M) doc d k s).1 d.name || bM (fun n=>ag n M) d k) (aH (fun n=>ag n M) doc d k s))).1),.arr 5 ((ak doc d [(d.tab.refs.getD k Rf.zero).col,(d.tab.refs.getD k Rf.zero).tab] (bP d.name (aF (aH (fun n=>ag n M) doc d k s).1 d.name || bM (fun n=>ag n M) d k) (aH (fun n=>ag n M) doc d k s))).2.map Pb.v) 0,.box (Dc.cs d),.box [.str (d.tab.refs.getD k Rf.zero).col,.str (d.tab.refs.getD k Rf.zero).tab],.box [.str (au d.tab.cols ((d.tab.refs.getD k Rf.zero).col)).name,.int .i64 ((au d.tab.cols ((d.tab.refs.getD k Rf.zero).col)).type.kind),.str (au d.tab.cols ((d.tab.refs.getD k Rf.zero).col)).type.name,.int .i64 ((au d.tab.cols ((d.tab.refs.getD k Rf.zero).col)).type.n),.imm ((au d.tab.cols ((d.tab.refs.getD k Rf.zero).col)).type.names.map aa.str),.imm ((au d.tab.cols ((d.tab.refs.getD k Rf.zero).col)).type.kids.map Ty.enc)],.box (Tb.cs ((ag (d.tab.refs.getD k Rf.zero).tab M).getD Tb.zero))] ?_ ?_
 apply qo
 refine qy (aI (a:=((k:Nat):Int)) (b:=1) kq oq oq) ?_ ?_ ?_
 apply qr 1
 apply qe
 refine ab ⟨k+1,?_,?_,⟨⟨kq,kq,kq,kq,kq,kq,trivial⟩,by simp [aG,aa.bel],by simp,(Eq.trans (b:=[.box [.imm (sums.map Sm.v),.map 1,.map 2,.own 3 0 (ak doc d [(d.tab.refs.getD k Rf.zero).col,(d.tab.refs.getD k Rf.zero).tab] (bP d.name (aF (aH (fun n=>ag n M) doc d k s).1 d.name || bM (fun n=>ag n M) d k) (aH (fun n=>ag n M) doc d k s))).2.length],.map (ac aa.str Tb.v M),.map (ac aa.str aa.bool (ak doc d [(d.tab.refs.getD k Rf.zero).col,(d.tab.refs.getD k Rf.zero).tab] (bP d.name (aF (aH (fun n=>ag n M) doc d k s).1 d.name || bM (fun n=>ag n M) d k) (aH (fun n=>ag n M) doc d k s))).1),.arr 5 ((ak doc d [(d.tab.refs.getD k Rf.zero).col,(d.tab.refs.getD k Rf.zero).tab] (bP d.name (aF (aH (fun n=>ag n M) doc d k s).1 d.name || bM (fun n=>ag n M) d k) (aH (fun n=>ag n M) doc d k s))).2.map Pb.v) 0,.box (Dc.cs d)]) kq (by rw [mc (c:=true) (fX aq)];show _=_;kernel_rfl)),by simp [ai.belO,hpF,Ty.v,Ex.v,Ct.v,Co.v,Rf.v,Sm.v,Tb.v_cs,Sc.v,Md.v,Pb.v,Ls.v]⟩⟩
 · omega
 · omega
 iterate 11 kernel_rfl
 apply qm [10,69,70] (Bool.eq_false_iff.2 hb5)
 apply qr 2
 by_cases hb6:((ag (d.tab.refs.getD k Rf.zero).tab M).isSome)=true
 apply qm [12,71,72] (hb6)
 apply qr 3
 by_cases hb7:(bc d.tab.cols ((d.tab.refs.getD k Rf.zero).col))=true
 apply qm [9,73,74,75] (hb7)
 apply qr 3
 refine bj (args:=[.agg (Tb.cs ((ag (d.tab.refs.getD k Rf.zero).tab M).getD Tb.zero)),.agg [.int .i64 ((au d.tab.cols ((d.tab.refs.getD k Rf.zero).col)).type.kind),.str (au d.tab.cols ((d.tab.refs.getD k Rf.zero).col)).type.name,.int .i64 ((au d.tab.cols ((d.tab.refs.getD k Rf.zero).col)).type.n),.imm ((au d.tab.cols ((d.tab.refs.getD k Rf.zero).col)).type.names.map aa.str),.imm ((au d.tab.cols ((d.tab.refs.getD k Rf.zero).col)).type.kids.map Ty.enc)]]) kq kq kq kq (pF ((ag (d.tab.refs.getD k Rf.zero).tab M).getD Tb.zero) ((au d.tab.cols ((d.tab.refs.getD k Rf.zero).col)).type) (Nat.lt_of_le_of_lt (lB M hM).c dq) (lB M hM).co) uC uC uC ?_
 refine qR 3 [(0,.ptr 0 0),(1,.str doc),(5,.ptr 4 0),(7,.ptr 5 0),(15,.imm (d.tab.refs.map Rf.v)),(16,nI d.tab.refs.length),(17,nI k),(71,.bool true),(72,.bool true),(73,.bool true),(74,.bool true),(75,.bool true),(76,.agg (Tb.cs ((ag (d.tab.refs.getD k Rf.zero).tab M).getD Tb.zero))),(77,.ptr 6 1),(78,.agg [.int .i64 ((au d.tab.cols ((d.tab.refs.getD k Rf.zero).col)).type.kind),.str (au d.tab.cols ((d.tab.refs.getD k Rf.zero).col)).type.name,.int .i64 ((au d.tab.cols ((d.tab.refs.getD k Rf.zero).col)).type.n),.imm ((au d.tab.cols ((d.tab.refs.getD k Rf.zero).col)).type.names.map aa.str),.imm ((au d.tab.cols ((d.tab.refs.getD k Rf.zero).col)).type.kids.map Ty.enc)]),(79,.bool (tgt ((ag (d.tab.refs.getD k Rf.zero).tab M).getD Tb.zero) ((au d.tab.cols ((d.tab.refs.getD k Rf.zero).col)).type))),(80,.bool (!(tgt ((ag (d.tab.refs.getD k Rf.zero).tab M).getD Tb.zero) ((au d.tab.cols ((d.tab.refs.getD k Rf.zero).col)).type)))),(81,.bool (!(tgt ((ag (d.tab.refs.getD k Rf.zero).tab M).getD Tb.zero) ((au d.tab.cols ((d.tab.refs.getD k Rf.zero).col)).type)))),(82,.bool (!(tgt ((ag (d.tab.refs.getD k Rf.zero).tab M).getD Tb.zero) ((au d.tab.cols ((d.tab.refs.getD k Rf.zero).col)).type))))] [.box [.imm (sums.map Sm.v),.map 1,.map 2,.own 3 0 (bP d.name (aF (aH (fun n=>ag n M) doc d k s).1 d.name || bM (fun n=>ag n M) d k) (aH (fun n=>ag n M) doc d k s)).2.length],.map (ac aa.str Tb.v M),.map (ac aa.str aa.bool (bP d.name (aF (aH (fun n=>ag n M) doc d k s).1 d.name || bM (fun n=>ag n M) d k) (aH (fun n=>ag n M) doc d k s)).1),.arr 5 ((bP d.name (aF (aH (fun n=>ag n M) doc d k s).1 d.name || bM (fun n=>ag n M) d k) (aH (fun n=>ag n M) doc d k s)).2.map Pb.v) 0,.box (Dc.cs d),.box [.str (d.tab.refs.getD k Rf.zero).col,.str (d.tab.refs.getD k Rf.zero).tab],.box [.str (au d.tab.cols ((d.tab.refs.getD k Rf.zero).col)).name,.int .i64 ((au d.tab.cols ((d.tab.refs.getD k Rf.zero).col)).type.kind),.str (au d.tab.cols ((d.tab.refs.getD k Rf.zero).col)).type.name,.int .i64 ((au d.tab.cols ((d.tab.refs.getD k Rf.zero).col)).type.n),.imm ((au d.tab.cols ((d.tab.refs.getD k Rf.zero).col)).type.names.map aa.str),.imm ((au d.tab.cols ((d.tab.refs.getD k Rf.zero).col)).type.kids.map Ty.enc)],.box (Tb.cs ((ag (d.tab.refs.getD k Rf.zero).tab M).getD Tb.zero))] ?_ ?_
 by_cases hb8:(tgt ((ag (d.tab.refs.getD k Rf.zero).tab M).getD Tb.zero) ((au d.tab.cols ((d.tab.refs.getD k Rf.zero).col)).type))=true
 refine qf (x:=(!(tgt ((ag (d.tab.refs.getD k Rf.zero).tab M).getD Tb.zero) ((au d.tab.cols ((d.tab.refs.getD k Rf.zero).col)).type)))) (congrArg not (hb8)) ?_ ?_
 apply qk
 apply ah
 apply ab
 apply qz [(0,.ptr 0 0),(1,.str doc),(5,.ptr 4 0),(15,.imm (d.tab.refs.map Rf.v)),(16,nI d.tab.refs.length),(17,nI k),(71,.bool true),(72,.bool true),(73,.bool true),(74,.bool true),(75,.bool true),(76,.agg (Tb.cs ((ag (d.tab.refs.getD k Rf.zero).tab M).getD Tb.zero))),(77,.ptr 6 1),(78,.agg [.int .i64 ((au d.tab.cols ((d.tab.refs.getD k Rf.zero).col)).type.kind),.str (au d.tab.cols ((d.tab.refs.getD k Rf.zero).col)).type.name,.int .i64 ((au d.tab.cols ((d.tab.refs.getD k Rf.zero).col)).type.n),.imm ((au d.tab.cols ((d.tab.refs.getD k Rf.zero).col)).type.names.map aa.str),.imm ((au d.tab.cols ((d.tab.refs.getD k Rf.zero).col)).type.kids.map Ty.enc)]),(79,.bool (tgt ((ag (d.tab.refs.getD k Rf.zero).tab M).getD Tb.zero) ((au d.tab.cols ((d.tab.refs.getD k Rf.zero).col)).type))),(80,.bool (!(tgt ((ag (d.tab.refs.getD k Rf.zero).tab M).getD Tb.zero) ((au d.tab.cols ((d.tab.refs.getD k Rf.zero).col)).type)))),(81,.bool (!(tgt ((ag (d.tab.refs.getD k Rf.zero).tab M).getD Tb.zero) ((au d.tab.cols ((d.tab.refs.getD k Rf.zero).col)).type))))]
 apply qo
 refine qy (aI (a:=((k:Nat):Int)) (b:=1) kq oq oq) ?_ ?_ ?_
 apply qr 1
 apply qe
 refine ab ⟨k+1,?_,?_,⟨⟨kq,kq,kq,kq,kq,kq,trivial⟩,by simp [aG,aa.bel],by simp,(Eq.trans (b:=[.box [.imm (sums.map Sm.v),.map 1,.map 2,.own 3 0 (bP d.name (aF (aH (fun n=>ag n M) doc d k s).1 d.name || bM (fun n=>ag n M) d k) (aH (fun n=>ag n M) doc d k s)).2.length],.map (ac aa.str Tb.v M),.map (ac aa.str aa.bool (bP d.name (aF (aH (fun n=>ag n M) doc d k s).1 d.name || bM (fun n=>ag n M) d k) (aH (fun n=>ag n M) doc d k s)).1),.arr 5 ((bP d.name (aF (aH (fun n=>ag n M) doc d k s).1 d.name || bM (fun n=>ag n M) d k) (aH (fun n=>ag n M) doc d k s)).2.map Pb.v) 0,.box (Dc.cs d)]) kq (by rw [mc (c:=false) (oh aq aq)];show _=_;kernel_rfl)),by simp [ai.belO,hpF,Ty.v,Ex.v,Ct.v,Co.v,Rf.v,Sm.v,Tb.v_cs,Sc.v,Md.v,Pb.v,Ls.v]⟩⟩
 · omega
 · omega
 iterate 8 kernel_rfl
 refine qt (x:=(!(tgt ((ag (d.tab.refs.getD k Rf.zero).tab M).getD Tb.zero) ((au d.tab.cols ((d.tab.refs.getD k Rf.zero).col)).type)))) (congrArg not (Bool.eq_false_iff.2 hb8)) ?_ ?_
 apply qo
 apply qr 8
 refine b7 (args:=[.ptr 0 0,.str doc,.agg (Dc.cs d),.full [.str (d.tab.refs.getD k Rf.zero).col,.str (d.tab.refs.getD k Rf.zero).tab]]) (hs:=[.box [.imm (sums.map Sm.v),.map 1,.map 2,.own 3 0 (bP d.name (aF (aH (fun n=>ag n M) doc d k s).1 d.name || bM (fun n=>ag n M) d k) (aH (fun n=>ag n M) doc d k s)).2.length],.map (ac aa.str Tb.v M),.map (ac aa.str aa.bool (bP d.name (aF (aH (fun n=>ag n M) doc d k s).1 d.name || bM (fun n=>ag n M) d k) (aH (fun n=>ag n M) doc d k s)).1),.arr 5 ((bP d.name (aF (aH (fun n=>ag n M) doc d k s).1 d.name || bM (fun n=>ag n M) d k) (aH (fun n=>ag n M) doc d k s)).2.map Pb.v) 0]) (hs':=[.box [.imm (sums.map Sm.v),.map 1,.map 2,.own 3 0 (ak doc d [(d.tab.refs.getD k Rf.zero).col,(d.tab.refs.getD k Rf.zero).tab] (bP d.name (aF (aH (fun n=>ag n M) doc d k s).1 d.name || bM (fun n=>ag n M) d k) (aH (fun n=>ag n M) doc d k s))).2.length],.map (ac aa.str Tb.v M),.map (ac aa.str aa.bool (ak doc d [(d.tab.refs.getD k Rf.zero).col,(d.tab.refs.getD k Rf.zero).tab] (bP d.name (aF (aH (fun n=>ag n M) doc d k s).1 d.name || bM (fun n=>ag n M) d k) (aH (fun n=>ag n M) doc d k s))).1),.arr 5 ((ak doc d [(d.tab.refs.getD k Rf.zero).col,(d.tab.refs.getD k Rf.zero).tab] (bP d.name (aF (aH (fun n=>ag n M) doc d k s).1 d.name || bM (fun n=>ag n M) d k) (aH (fun n=>ag n M) doc d k s))).2.map Pb.v) 0]) (rest:=[.box (Dc.cs d),.box [.str (d.tab.refs.getD k Rf.zero).col,.str (d.tab.refs.getD k Rf.zero).tab],.box [.str (au d.tab.cols ((d.tab.refs.getD k Rf.zero).col)).name,.int .i64 ((au d.tab.cols ((d.tab.refs.getD k Rf.zero).col)).type.kind),.str (au d.tab.cols ((d.tab.refs.getD k Rf.zero).col)).type.name,.int .i64 ((au d.tab.cols ((d.tab.refs.getD k Rf.zero).col)).type.n),.imm ((au d.tab.cols ((d.tab.refs.getD k Rf.zero).col)).type.names.map aa.str),.imm ((au d.tab.cols ((d.tab.refs.getD k Rf.zero).col)).type.kids.map Ty.enc)],.box (Tb.cs ((ag (d.tab.refs.getD k Rf.zero).tab M).getD Tb.zero))]) kq kq kq kq kq (bX sums M (bP d.name (aF (aH (fun n=>ag n M) doc d k s).1 d.name || bM (fun n=>ag n M) d k) (aH (fun n=>ag n M) doc d k s)) doc d [(d.tab.refs.getD k Rf.zero).col,(d.tab.refs.getD k Rf.zero).tab] (by simp only [aV,bP];omega) hd.n hd.a) qG qG rfl qG qG kq ?_
 apply qe
 apply ah
 apply ab
 refine qZ [(0,.ptr 0 0),(1,.str doc),(5,.ptr 4 0),(15,.imm (d.tab.refs.map Rf.v)),(16,nI d.tab.refs.length),(17,nI k),(71,.bool true),(72,.bool true),(73,.bool true),(74,.bool true),(75,.bool true),(76,.agg (Tb.cs ((ag (d.tab.refs.getD k Rf.zero).tab M).getD Tb.zero))),(77,.ptr 6 1),(78,.agg [.int .i64 ((au d.tab.cols ((d.tab.refs.getD k Rf.zero).col)).type.kind),.str (au d.tab.cols ((d.tab.refs.getD k Rf.zero).col)).type.name,.int .i64 ((au d.tab.cols ((d.tab.refs.getD k Rf.zero).col)).type.n),.imm ((au d.tab.cols ((d.tab.refs.getD k Rf.zero).col)).type.names.map aa.str),.imm ((au d.tab.cols ((d.tab.refs.getD k Rf.zero).col)).type.kids.map Ty.enc)]),(79,.bool (tgt ((ag (d.tab.refs.getD k Rf.zero).tab M).getD Tb.zero) ((au d.tab.cols ((d.tab.refs.getD k Rf.zero).col)).type))),(80,.bool (!(tgt ((ag (d.tab.refs.getD k Rf.zero).tab M).getD Tb.zero) ((au d.tab.cols ((d.tab.refs.getD k Rf.zero).col)).type)))),(81,.bool (!(tgt ((ag (d.tab.refs.getD k Rf.zero).tab M).getD Tb.zero) ((au d.tab.cols ((d.tab.refs.getD k Rf.zero).col)).type))))] [.box [.imm (sums.map Sm.v),.map 1,.map 2,.own 3 0 (ak doc d [(d.tab.refs.getD k Rf.zero).col,(d.tab.refs.getD k Rf.zero).tab] (bP d.name (aF (aH (fun n=>ag n M) doc d k s).1 d.name || bM (fun n=>ag n M) d k) (aH (fun n=>ag n M) doc d k s))).2.length],.map (ac aa.str Tb.v M),.map (ac aa.str aa.bool (ak doc d [(d.tab.refs.getD k Rf.zero).col,(d.tab.refs.getD k Rf.zero).tab] (bP d.name (aF (aH (fun n=>ag n M) doc d k s).1 d.name || bM (fun n=>ag n M) d k) (aH (fun n=>ag n M) doc d k s))).1),.arr 5 ((ak doc d [(d.tab.refs.getD k Rf.zero).col,(d.tab.refs.getD k Rf.zero).tab] (bP d.name (aF (aH (fun n=>ag n M) doc d k s).1 d.name || bM (fun n=>ag n M) d k) (aH (fun n=>ag n M) doc d k s))).2.map Pb.v) 0,.box (Dc.cs d),.box [.str (d.tab.refs.getD k Rf.zero).col,.str (d.tab.refs.getD k Rf.zero).tab],.box [.str (au d.tab.cols ((d.tab.refs.getD k Rf.zero).col)).name,.int .i64 ((au d.tab.cols ((d.tab.refs.getD k Rf.zero).col)).type.kind),.str (au d.tab.cols ((d.tab.refs.getD k Rf.zero).col)).type.name,.int .i64 ((au d.tab.cols ((d.tab.refs.getD k Rf.zero).col)).type.n),.imm ((au d.tab.cols ((d.tab.refs.getD k Rf.zero).col)).type.names.map aa.str),.imm ((au d.tab.cols ((d.tab.refs.getD k Rf.zero).col)).type.kids.map Ty.enc)],.box (Tb.cs ((ag (d.tab.refs.getD k Rf.zero).tab M).getD Tb.zero))] ?_ ?_
 apply qo
 refine qy (aI (a:=((k:Nat):Int)) (b:=1) kq oq oq) ?_ ?_ ?_
 apply qr 1
 apply qe
 refine ab ⟨k+1,?_,?_,⟨⟨kq,kq,kq,kq,kq,kq,trivial⟩,by simp [aG,aa.bel],by simp,(Eq.trans (b:=[.box [.imm (sums.map Sm.v),.map 1,.map 2,.own 3 0 (ak doc d [(d.tab.refs.getD k Rf.zero).col,(d.tab.refs.getD k Rf.zero).tab] (bP d.name (aF (aH (fun n=>ag n M) doc d k s).1 d.name || bM (fun n=>ag n M) d k) (aH (fun n=>ag n M) doc d k s))).2.length],.map (ac aa.str Tb.v M),.map (ac aa.str aa.bool (ak doc d [(d.tab.refs.getD k Rf.zero).col,(d.tab.refs.getD k Rf.zero).tab] (bP d.name (aF (aH (fun n=>ag n M) doc d k s).1 d.name || bM (fun n=>ag n M) d k) (aH (fun n=>ag n M) doc d k s))).1),.arr 5 ((ak doc d [(d.tab.refs.getD k Rf.zero).col,(d.tab.refs.getD k Rf.zero).tab] (bP d.name (aF (aH (fun n=>ag n M) doc d k s).1 d.name || bM (fun n=>ag n M) d k) (aH (fun n=>ag n M) doc d k s))).2.map Pb.v) 0,.box (Dc.cs d)]) kq (by rw [mc (c:=true) (nR aq aq aq)];show _=_;kernel_rfl)),by simp [ai.belO,hpF,Ty.v,Ex.v,Ct.v,Co.v,Rf.v,Sm.v,Tb.v_cs,Sc.v,Md.v,Pb.v,Ls.v]⟩⟩
 · omega
 · omega
 iterate 13 kernel_rfl
 apply qm [9,73,74,75] (Bool.eq_false_iff.2 hb7)
 refine qR 7 [(0,.ptr 0 0),(1,.str doc),(5,.ptr 4 0),(7,.ptr 5 0),(15,.imm (d.tab.refs.map Rf.v)),(16,nI d.tab.refs.length),(17,nI k),(71,.bool true),(72,.bool true),(73,.bool false),(74,.bool false),(75,.bool false),(76,.tup []),(77,.tup []),(78,.tup []),(79,.tup []),(80,.tup []),(81,.bool false),(82,.bool false)] [.box [.imm (sums.map Sm.v),.map 1,.map 2,.own 3 0 (bP d.name (aF (aH (fun n=>ag n M) doc d k s).1 d.name || bM (fun n=>ag n M) d k) (aH (fun n=>ag n M) doc d k s)).2.length],.map (ac aa.str Tb.v M),.map (ac aa.str aa.bool (bP d.name (aF (aH (fun n=>ag n M) doc d k s).1 d.name || bM (fun n=>ag n M) d k) (aH (fun n=>ag n M) doc d k s)).1),.arr 5 ((bP d.name (aF (aH (fun n=>ag n M) doc d k s).1 d.name || bM (fun n=>ag n M) d k) (aH (fun n=>ag n M) doc d k s)).2.map Pb.v) 0,.box (Dc.cs d),.box [.str (d.tab.refs.getD k Rf.zero).col,.str (d.tab.refs.getD k Rf.zero).tab],.box [.str (au d.tab.cols ((d.tab.refs.getD k Rf.zero).col)).name,.int .i64 ((au d.tab.cols ((d.tab.refs.getD k Rf.zero).col)).type.kind),.str (au d.tab.cols ((d.tab.refs.getD k Rf.zero).col)).type.name,.int .i64 ((au d.tab.cols ((d.tab.refs.getD k Rf.zero).col)).type.n),.imm ((au d.tab.cols ((d.tab.refs.getD k Rf.zero).col)).type.names.map aa.str),.imm ((au d.tab.cols ((d.tab.refs.getD k Rf.zero).col)).type.kids.map Ty.enc)],.box (Tb.cs ((ag (d.tab.refs.getD k Rf.zero).tab M).getD Tb.zero))] ?_ ?_
 refine nC kq kq ?_
 apply qk
 apply ah
 apply ab
 apply qz [(0,.ptr 0 0),(1,.str doc),(5,.ptr 4 0),(15,.imm (d.tab.refs.map Rf.v)),(16,nI d.tab.refs.length),(17,nI k),(71,.bool true),(72,.bool true),(73,.bool false),(74,.bool false),(75,.bool false),(76,.tup []),(77,.tup []),(78,.tup []),(79,.tup []),(80,.tup []),(81,.bool false)]
 apply qo
 refine qy (aI (a:=((k:Nat):Int)) (b:=1) kq oq oq) ?_ ?_ ?_
 apply qr 1
 apply qe
 refine ab ⟨k+1,?_,?_,⟨⟨kq,kq,kq,kq,kq,kq,trivial⟩,by simp [aG,aa.bel],by simp,(Eq.trans (b:=[.box [.imm (sums.map Sm.v),.map 1,.map 2,.own 3 0 (bP d.name (aF (aH (fun n=>ag n M) doc d k s).1 d.name || bM (fun n=>ag n M) d k) (aH (fun n=>ag n M) doc d k s)).2.length],.map (ac aa.str Tb.v M),.map (ac aa.str aa.bool (bP d.name (aF (aH (fun n=>ag n M) doc d k s).1 d.name || bM (fun n=>ag n M) d k) (aH (fun n=>ag n M) doc d k s)).1),.arr 5 ((bP d.name (aF (aH (fun n=>ag n M) doc d k s).1 d.name || bM (fun n=>ag n M) d k) (aH (fun n=>ag n M) doc d k s)).2.map Pb.v) 0,.box (Dc.cs d)]) kq (by rw [mc (c:=false) (xu aq aq)];show _=_;kernel_rfl)),by simp [ai.belO,hpF,Ty.v,Ex.v,Ct.v,Co.v,Rf.v,Sm.v,Tb.v_cs,Sc.v,Md.v,Pb.v,Ls.v]⟩⟩
 · omega
 · omega
 iterate 11 kernel_rfl
 apply qm [12,71,72] (Bool.eq_false_iff.2 hb6)
 refine qR 10 [(0,.ptr 0 0),(1,.str doc),(5,.ptr 4 0),(7,.ptr 5 0),(15,.imm (d.tab.refs.map Rf.v)),(16,nI d.tab.refs.length),(17,nI k),(71,.bool false),(72,.bool false),(73,.tup []),(74,.bool false),(75,.bool false),(76,.tup []),(77,.tup []),(78,.tup []),(79,.tup []),(80,.tup []),(81,.bool false),(82,.bool false)] [.box [.imm (sums.map Sm.v),.map 1,.map 2,.own 3 0 (bP d.name (aF (aH (fun n=>ag n M) doc d k s).1 d.name || bM (fun n=>ag n M) d k) (aH (fun n=>ag n M) doc d k s)).2.length],.map (ac aa.str Tb.v M),.map (ac aa.str aa.bool (bP d.name (aF (aH (fun n=>ag n M) doc d k s).1 d.name || bM (fun n=>ag n M) d k) (aH (fun n=>ag n M) doc d k s)).1),.arr 5 ((bP d.name (aF (aH (fun n=>ag n M) doc d k s).1 d.name || bM (fun n=>ag n M) d k) (aH (fun n=>ag n M) doc d k s)).2.map Pb.v) 0,.box (Dc.cs d),.box [.str (d.tab.refs.getD k Rf.zero).col,.str (d.tab.refs.getD k Rf.zero).tab],.box [.str (au d.tab.cols ((d.tab.refs.getD k Rf.zero).col)).name,.int .i64 ((au d.tab.cols ((d.tab.refs.getD k Rf.zero).col)).type.kind),.str (au d.tab.cols ((d.tab.refs.getD k Rf.zero).col)).type.name,.int .i64 ((au d.tab.cols ((d.tab.refs.getD k Rf.zero).col)).type.n),.imm ((au d.tab.cols ((d.tab.refs.getD k Rf.zero).col)).type.names.map aa.str),.imm ((au d.tab.cols ((d.tab.refs.getD k Rf.zero).col)).type.kids.map Ty.enc)],.box (Tb.cs ((ag (d.tab.refs.getD k Rf.zero).tab M).getD Tb.zero))] ?_ ?_
 refine nC kq kq ?_
 apply qk
 apply ah
 apply ab
 apply qz [(0,.ptr 0 0),(1,.str doc),(5,.ptr 4 0),(15,.imm (d.tab.refs.map Rf.v)),(16,nI d.tab.refs.length),(17,nI k),(71,.bool false),(72,.bool false),(73,.tup []),(74,.bool false),(75,.bool false),(76,.tup []),(77,.tup []),(78,.tup []),(79,.tup []),(80,.tup []),(81,.bool false)]
 apply qo
 refine qy (aI (a:=((k:Nat):Int)) (b:=1) kq oq oq) ?_ ?_ ?_
 apply qr 1
 apply qe
 refine ab ⟨k+1,?_,?_,⟨⟨kq,kq,kq,kq,kq,kq,trivial⟩,by simp [aG,aa.bel],by simp,(Eq.trans (b:=[.box [.imm (sums.map Sm.v),.map 1,.map 2,.own 3 0 (bP d.name (aF (aH (fun n=>ag n M) doc d k s).1 d.name || bM (fun n=>ag n M) d k) (aH (fun n=>ag n M) doc d k s)).2.length],.map (ac aa.str Tb.v M),.map (ac aa.str aa.bool (bP d.name (aF (aH (fun n=>ag n M) doc d k s).1 d.name || bM (fun n=>ag n M) d k) (aH (fun n=>ag n M) doc d k s)).1),.arr 5 ((bP d.name (aF (aH (fun n=>ag n M) doc d k s).1 d.name || bM (fun n=>ag n M) d k) (aH (fun n=>ag n M) doc d k s)).2.map Pb.v) 0,.box (Dc.cs d)]) kq (by rw [mc (c:=false) (xE aq aq)];show _=_;kernel_rfl)),by simp [ai.belO,hpF,Ty.v,Ex.v,Ct.v,Co.v,Rf.v,Sm.v,Tb.v_cs,Sc.v,Md.v,Pb.v,Ls.v]⟩⟩
 · omega
 · omega
 iterate 29 kernel_rfl
 apply qf (decide_eq_false hb1)
 refine a6 0 kq kq ?_
 apply af
 apply af
 apply aE
 refine dg (l:=[]) (.inl rfl) kq (by rfl) mK mK ?_ ?_
 refine Eq.trans (b:=[.box [.imm (sums.map Sm.v),.map 1,.map 2,.own 3 0 (aH (fun n=>ag n M) doc d k s).2.length],.map (ac aa.str Tb.v M),.map (ac aa.str aa.bool (aH (fun n=>ag n M) doc d k s).1),.arr 5 ((aH (fun n=>ag n M) doc d k s).2.map Pb.v) 0]) kq ?_
 · have e:k=d.tab.refs.length:=by omega
   subst e;rfl
 · simp [ai.belO,hpF,Ty.v,Ex.v,Ct.v,Co.v,Rf.v,Sm.v,Tb.v_cs,Sc.v,Md.v,Pb.v,Ls.v]
 iterate 11 kernel_rfl
end Go.Proofs.YtcpklndelobigaaGreatDoor
