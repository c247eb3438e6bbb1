/- The reference's helpers of From: index, in, first, Target, has, wrong. Conditions: sizes that can be had; what the leaves answer. -/
import Derived.Test.YtcpklndelobigaaGreatDoorMA
set_option linter.all false
namespace Go.Proofs.YtcpklndelobigaaGreatDoor
open Go.Proofs.YtcpklndelobigaaGreatDoor.Abs
set_option maxRecDepth 20000
set_option maxHeartbeats 4000000
theorem tK {l:List Co} {n:List UInt8} {k:Nat} (hk:k<l.length) (ha:∀ i,i<k→¬ (l.getD i Co.zero).name=n) (h:(l.getD k Co.zero).name=n):((k:Nat):Int)=aD l n :=
 ik (p:=fun t:Co=>t.name==n) Co.zero hk (fun i hi=>by simpa using ha i hi) (by simpa using h)
theorem uj {l:List Co} {n:List UInt8} (ha:∀ i,i<l.length→¬ (l.getD i Co.zero).name=n):-1=aD l n :=
 hX (p:=fun t:Co=>t.name==n) Co.zero (fun i hi=>by simpa using ha i hi)
theorem r6 {l:List (List UInt8)} {s:List UInt8} {k:Nat} (hk:k<l.length) (ha:∀ i,i<k→¬ l.getD i []=s) (h:l.getD k []=s):((k:Nat):Int)=aS l s:=nt hk (fun i hi e=>ha i hi e.symm) h.symm
theorem qH {l:List (List UInt8)} {s:List UInt8} (ha:∀ i,i<l.length→¬ l.getD i []=s):-1=aS l s:=nr (fun i hi e=>ha i hi e.symm)
theorem iW {l:List Co} {n:List UInt8} (h:aD l n<0):bc l n=false:=by rcases ia l n with q|q;exact q.2;omega
theorem fm {l:List Co} {n:List UInt8} (h:¬ aD l n<0):bc l n=true:=by rcases ia l n with q|q;omega;exact q.2.2.1
theorem BX {l:List Co} {n:List UInt8} (h:aD l n ≥ 0):bc l n=true:=fm oq
theorem A9 {l:List Co} {n:List UInt8} (h:¬ aD l n ≥ 0):bc l n=false:=iW oq
theorem mq {l:List Co} {n:List UInt8} (h:¬ aD l n<0):l.getD (aD l n).toNat Co.zero=au l n:=by rcases ia l n with q|q;omega;exact q.2.2.2
theorem BI {l:List Co} {n:List UInt8} (h:¬ aD l n<0):(aD l n).toNat<l.length:=by rcases ia l n with q|q;omega;exact q.2.1
theorem wc {l:List Co} {n:List UInt8} (h:¬ aD l n<0):aD l n<((l.length:Nat):Int):=by have:=BI h;omega
theorem pt {l:List (List UInt8)} {s:List UInt8} (h:aS l s ≥ 0):l.contains s=true:=by rw [← fw];exact decide_eq_true h
theorem oR {l:List (List UInt8)} {s:List UInt8} (h:¬ aS l s ≥ 0):l.contains s=false:=by rw [← fw];exact decide_eq_false h
noncomputable def c91:Code:=aT Tryz.f91
theorem zj {p:Prop} (h:p:=by exact ⟨Nat.zero_le _,fun i h=>absurd h (Nat.not_lt_zero i)⟩):p:=h
theorem fe (l:List Co) (n:List UInt8) (hn:l.length<1000000000):ao cx 91 [.imm (l.map Co.v),.str n] (.int .i64 (aD l n)):=by
 refine aC (cx:=cx) 20 0 [(ResultVar.tmp 4)] Tryz.func91 rfl rfl rfl rfl rfl zq ?_
 show wpA cx 20 0 (at_ c91 []) _ _ _
 refine qZ [(0,.imm (l.map Co.v)),(1,.str n)] [] ?_ ?_
 refine qU 1 [(0,.imm (l.map Co.v)),(1,.str n)] ?_ ?_
 refine az ?_ ?_
 refine qU 1 [(0,.imm (l.map Co.v)),(1,.str n),(5,.int .i64 0)] ?_ ?_
 refine qB 0 ?_ ?_ ?_
 refine bn (σ:=Nat) (fun k=>[(0,.imm (l.map Co.v)),(1,.str n),(5,.int .i64 ((k:Nat):Int))]) (fun k=>[]) (fun k=>k≤l.length∧∀ i,i<k→¬ (l.getD i Co.zero).name=n) (fun k=>l.length - k) 0 kq zj ⟨⟨kq,kq,kq,trivial⟩,by simp [aG,aa.bel],by simp,kq,by simp [ai.belO,aa.bel,av]⟩ ?_
 rintro k ⟨hk,ha⟩
 refine az ?_ ?_
 refine qV 2 ?_ ?_
 refine qy (aw (l:=l) (enc:=Co.v) kq fv) ?_ ?_ ?_
 refine qR 1 [(0,.imm (l.map Co.v)),(1,.str n),(5,nI k),(9,.bool (decide (((k:Nat):Int)<((l.length:Nat):Int))))] [] ?_ ?_
 by_cases hb1:((k:Nat):Int)<((l.length:Nat):Int)
 refine qt (decide_eq_true hb1) ?_ ?_
 refine qK ?_ ?_
 refine qz [(0,.imm (l.map Co.v)),(1,.str n),(5,nI k)] ?_ ?_
 refine az ?_ ?_
 refine qB 1 ?_ ?_ ?_
 refine qV 2 ?_ ?_
 refine qy ((aA (k:=.i64) (l:=l) (enc:=Co.v) (i:=((k:Nat):Int)) Co.zero kq fv kQ (fun _=>rfl) oq oq).trans (congrArg (fun cs=>some (aa.pimm cs 0,_)) (dm (l.getD k Co.zero)))) ?_ ?_ ?_
 refine qR 4 [(0,.imm (l.map Co.v)),(1,.str n),(5,nI k),(18,.bool ((l.getD k Co.zero).name==n))] [] ?_ ?_
 by_cases hb2:(l.getD k Co.zero).name=n
 refine qt (beq_iff_eq.2 hb2) ?_ ?_
 refine qV 2 ?_ ?_
 refine qT ?_ ?_
 apply iR
 apply aR
 apply aR
 apply iR
 apply aR
 refine gp (n:=((k:Nat):Int)) (.inr rfl) kq ?_
 rotate_left
 iterate 3 kernel_rfl
 refine qf (beq_eq_false_iff_ne.2 hb2) ?_ ?_
 refine qk ?_ ?_
 refine ah ?_
 refine ab ?_
 refine qz [(0,.imm (l.map Co.v)),(1,.str n),(5,nI k)] ?_ ?_
 refine qo ?_ ?_
 refine qr 1 ?_ ?_
 refine qy (aI (a:=((k:Nat):Int)) (b:=1) kq oq oq) ?_ ?_ ?_
 refine qr 1 ?_ ?_
 refine qe ?_ ?_
 refine ab ⟨k+1,?_,?_,⟨⟨kq,kq,kq,trivial⟩,by simp [aG,aa.bel],by simp,kq,by simp [ai.belO,aa.bel,av]⟩⟩
 · omega
 · refine ⟨by omega,fun i hi=>?_⟩
   rcases Nat.lt_succ_iff_lt_or_eq.1 hi with h|h
   · exact ha i h
   · subst h;assumption
 iterate 19 kernel_rfl
 refine qf (decide_eq_false hb1) ?_ ?_
 refine a6 0 kq kq ?_
 refine af ?_
 refine af ?_
 refine aE ?_
 refine ab ?_
 refine qz [] ?_ ?_
 refine qV 1 ?_ ?_
 refine qT ?_ ?_
 refine gp (n:=(-1)) (.inr rfl) kq ?_
 rotate_left
 iterate 15 kernel_rfl
 all_goals
  first|exact tK oq ha aq|exact uj (fun i hi=>ha i oq)
noncomputable def c37:Code:=aT Tryz.f37
theorem mn (l:List (List UInt8)) (n:List UInt8) (hn:l.length<1000000000):ao cx 37 [.imm (l.map aa.str),.str n] (.int .i64 (aS l n)):=by
 refine aC (cx:=cx) 19 0 [(ResultVar.tmp 4)] Tryz.func37 rfl rfl rfl rfl rfl zq ?_
 show wpA cx 19 0 (at_ c37 []) _ _ _
 refine qZ [(0,.imm (l.map aa.str)),(1,.str n)] [] ?_ ?_
 refine qU 1 [(0,.imm (l.map aa.str)),(1,.str n)] ?_ ?_
 refine az ?_ ?_
 refine qU 1 [(0,.imm (l.map aa.str)),(1,.str n),(5,.int .i64 0)] ?_ ?_
 refine qB 0 ?_ ?_ ?_
 refine bn (σ:=Nat) (fun k=>[(0,.imm (l.map aa.str)),(1,.str n),(5,.int .i64 ((k:Nat):Int))]) (fun k=>[]) (fun k=>k≤l.length∧∀ i,i<k→¬ (l.getD i [])=n) (fun k=>l.length - k) 0 kq zj ⟨⟨kq,kq,kq,trivial⟩,by simp [aG,aa.bel],by simp,kq,by simp [ai.belO,aa.bel,av]⟩ ?_
 rintro k ⟨hk,ha⟩
 refine az ?_ ?_
 refine qV 2 ?_ ?_
 refine qy (aw (l:=l) (enc:=aa.str) kq b5) ?_ ?_ ?_
 refine qR 1 [(0,.imm (l.map aa.str)),(1,.str n),(5,nI k),(9,.bool (decide (((k:Nat):Int)<((l.length:Nat):Int))))] [] ?_ ?_
 by_cases hb1:((k:Nat):Int)<((l.length:Nat):Int)
 refine qt (decide_eq_true hb1) ?_ ?_
 refine qK ?_ ?_
 refine qz [(0,.imm (l.map aa.str)),(1,.str n),(5,nI k)] ?_ ?_
 refine az ?_ ?_
 refine qB 1 ?_ ?_ ?_
 refine qV 2 ?_ ?_
 refine qy (aA (k:=.i64) (l:=l) (enc:=aa.str) (i:=((k:Nat):Int)) [] kq b5 ty9 (fun _=>rfl) oq oq) ?_ ?_ ?_
 refine qR 3 [(0,.imm (l.map aa.str)),(1,.str n),(5,nI k),(17,.bool ((l.getD k [])==n))] [] ?_ ?_
 by_cases hb2:(l.getD k [])=n
 refine qt (beq_iff_eq.2 hb2) ?_ ?_
 refine qV 2 ?_ ?_
 refine qT ?_ ?_
 apply iR
 apply aR
 apply aR
 apply iR
 apply aR
 refine gp (n:=((k:Nat):Int)) (.inr rfl) kq ?_
 rotate_left
 iterate 3 kernel_rfl
 refine qf (beq_eq_false_iff_ne.2 hb2) ?_ ?_
 refine qk ?_ ?_
 refine ah ?_
 refine ab ?_
 refine qz [(0,.imm (l.map aa.str)),(1,.str n),(5,nI k)] ?_ ?_
 refine qo ?_ ?_
 refine qr 1 ?_ ?_
 refine qy (aI (a:=((k:Nat):Int)) (b:=1) kq oq oq) ?_ ?_ ?_
 refine qr 1 ?_ ?_
 refine qe ?_ ?_
 refine ab ⟨k+1,?_,?_,⟨⟨kq,kq,kq,trivial⟩,by simp [aG,aa.bel],by simp,kq,by simp [ai.belO,aa.bel,av]⟩⟩
 · omega
 · refine ⟨by omega,fun i hi=>?_⟩
   rcases Nat.lt_succ_iff_lt_or_eq.1 hi with h|h
   · exact ha i h
   · subst h;assumption
 iterate 19 kernel_rfl
 refine qf (decide_eq_false hb1) ?_ ?_
 refine a6 0 kq kq ?_
 refine af ?_
 refine af ?_
 refine aE ?_
 refine ab ?_
 refine qz [] ?_ ?_
 refine qV 1 ?_ ?_
 refine qT ?_ ?_
 refine gp (n:=(-1)) (.inr rfl) kq ?_
 rotate_left
 iterate 15 kernel_rfl
 all_goals
  first|exact r6 oq ha aq|exact qH (fun i hi=>ha i oq)
theorem zt {l:List Tb} {n:List UInt8} {k:Nat} (hk:k<l.length) (h:(l.getD k Tb.zero).name=n):true=ck l n:=by
 unfold ck;exact (List.any_eq_true.2 ⟨_,c5 _ _ _ hk,by simpa using h⟩).symm
theorem zK {l:List Tb} {n:List UInt8} (ha:∀ i,i<l.length→¬ (l.getD i Tb.zero).name=n):false=ck l n:=by
 unfold ck;symm;rw [List.any_eq_false];intro x hx
 obtain ⟨i,hi,rfl⟩:=List.getElem_of_mem hx
 have:=ha i hi;rw [bJ _ _ _ hi] at this;simpa using this
noncomputable def c39:Code:=aT Tryz.f39
theorem tP (l:List Tb) (n:List UInt8) (hn:l.length<1000000000):ao cx 39 [.imm (l.map Tb.v),.str n] (.bool (ck l n)):=by
 refine aC (cx:=cx) 19 0 [(ResultVar.tmp 4)] Tryz.func39 rfl rfl rfl rfl rfl zq ?_
 show wpA cx 19 0 (at_ c39 []) _ _ _
 refine qZ [(0,.imm (l.map Tb.v)),(1,.str n)] [] ?_ ?_
 refine qU 1 [(0,.imm (l.map Tb.v)),(1,.str n)] ?_ ?_
 refine az ?_ ?_
 refine qU 1 [(0,.imm (l.map Tb.v)),(1,.str n),(5,.int .i64 0)] ?_ ?_
 refine qB 0 ?_ ?_ ?_
 refine bn (σ:=Nat) (fun k=>[(0,.imm (l.map Tb.v)),(1,.str n),(5,.int .i64 ((k:Nat):Int))]) (fun k=>[]) (fun k=>k≤l.length∧∀ i,i<k→¬ (l.getD i Tb.zero).name=n) (fun k=>l.length - k) 0 kq zj ⟨⟨kq,kq,kq,trivial⟩,by simp [aG,aa.bel],by simp,kq,by simp [ai.belO,aa.bel,av]⟩ ?_
 rintro k ⟨hk,ha⟩
 refine az ?_ ?_
 refine qV 2 ?_ ?_
 refine qy (aw (l:=l) (enc:=Tb.v) kq bW) ?_ ?_ ?_
 refine qR 1 [(0,.imm (l.map Tb.v)),(1,.str n),(5,nI k),(9,.bool (decide (((k:Nat):Int)<((l.length:Nat):Int))))] [] ?_ ?_
 by_cases hb1:((k:Nat):Int)<((l.length:Nat):Int)
 refine qt (decide_eq_true hb1) ?_ ?_
 refine qK ?_ ?_
 refine qz [(0,.imm (l.map Tb.v)),(1,.str n),(5,nI k)] ?_ ?_
 refine az ?_ ?_
 refine qB 1 ?_ ?_ ?_
 refine qV 2 ?_ ?_
 refine qy ((aA (k:=.i64) (l:=l) (enc:=Tb.v) (i:=((k:Nat):Int)) Tb.zero kq bW cz (fun _=>rfl) oq oq).trans (congrArg (fun cs=>some (aa.pimm cs 0,_)) (cV (l.getD k Tb.zero)))) ?_ ?_ ?_
 refine qR 4 [(0,.imm (l.map Tb.v)),(1,.str n),(5,nI k),(18,.bool ((l.getD k Tb.zero).name==n))] [] ?_ ?_
 by_cases hb2:(l.getD k Tb.zero).name=n
 refine qt (beq_iff_eq.2 hb2) ?_ ?_
 refine qV 1 ?_ ?_
 refine qT ?_ ?_
 apply iR
 apply aR
 apply aR
 apply iR
 apply aR
 refine a7 (b:=true) (.inr rfl) kq ?_
 rotate_left
 iterate 3 kernel_rfl
 refine qf (beq_eq_false_iff_ne.2 hb2) ?_ ?_
 refine qk ?_ ?_
 refine ah ?_
 refine ab ?_
 refine qz [(0,.imm (l.map Tb.v)),(1,.str n),(5,nI k)] ?_ ?_
 refine qo ?_ ?_
 refine qr 1 ?_ ?_
 refine qy (aI (a:=((k:Nat):Int)) (b:=1) kq oq oq) ?_ ?_ ?_
 refine qr 1 ?_ ?_
 refine qe ?_ ?_
 refine ab ⟨k+1,?_,?_,⟨⟨kq,kq,kq,trivial⟩,by simp [aG,aa.bel],by simp,kq,by simp [ai.belO,aa.bel,av]⟩⟩
 · omega
 · refine ⟨by omega,fun i hi=>?_⟩
   rcases Nat.lt_succ_iff_lt_or_eq.1 hi with h|h
   · exact ha i h
   · subst h;assumption
 iterate 19 kernel_rfl
 refine qf (decide_eq_false hb1) ?_ ?_
 refine a6 0 kq kq ?_
 refine af ?_
 refine af ?_
 refine aE ?_
 refine ab ?_
 refine qz [] ?_ ?_
 refine qV 1 ?_ ?_
 refine qT ?_ ?_
 refine a7 (b:=false) (.inr rfl) kq ?_
 rotate_left
 iterate 15 kernel_rfl
 all_goals
  first|exact zt (k:=k) oq aq|exact zK (fun i hi=>ha i oq)
theorem xe {n:List UInt8} {ms:List Md} {i:Nat} (hi:¬ ((i:Nat):Int)<((ms.length:Nat):Int)) (h:ay n (ms.take i)=none):ay n ms=none:=by
 rwa [List.take_of_length_le oq] at h
noncomputable def c93:Code:=aT Tryz.f93
theorem oU (ms:List Md) (n:List UInt8) (hn:ms.length≤2) (hm:∀ i,(ms.getD i Md.zero).decls.length≤40):ao cx 93 [.imm (ms.map Md.v),.str n] (.tup [Tb.v ((ay n ms).getD Tb.zero),.bool ((ay n ms).isSome)]):=by
 refine aC (cx:=cx) 45 0 [(ResultVar.cell 4 52),(ResultVar.tmp 5)] Tryz.func93 rfl rfl rfl rfl rfl zq ?_
 show wpA cx 45 0 (at_ c93 []) _ _ _
 refine qZ [(0,.imm (ms.map Md.v)),(1,.str n)] [] ?_ ?_
 refine qW 2 [(0,.imm (ms.map Md.v)),(1,.str n),(4,.ptr 0 0)] [.box [.str [],.full [],.full [],.full [],.int .i64 0,.str [],.int .i64 0,.str [],.full [],.full [],.full [],.int .i64 0,.int .i64 0]] ?_ ?_
 refine az ?_ ?_
 refine qU 1 [(0,.imm (ms.map Md.v)),(1,.str n),(4,.ptr 0 0),(6,.int .i64 0)] ?_ ?_
 refine qB 0 ?_ ?_ ?_
 refine bn (σ:=Nat) (fun i=>[(0,.imm (ms.map Md.v)),(1,.str n),(4,.ptr 0 0),(6,.int .i64 ((i:Nat):Int))]) (fun i=>[.box [.str [],.full [],.full [],.full [],.int .i64 0,.str [],.int .i64 0,.str [],.full [],.full [],.full [],.int .i64 0,.int .i64 0]]) (fun i=>i≤ms.length∧ay n (ms.take i)=none) (fun i=>ms.length - i) 0 kq (by exact ⟨Nat.zero_le _,rfl⟩) ⟨⟨kq,kq,kq,kq,trivial⟩,by simp [aG,aa.bel],by simp,kq,by simp [ai.belO,hpT,hpG,hpF,hpD,av,aB,bE,b3,aa.bel,Ty.v,Ex.v,Ct.v,Co.v,Rf.v,Sm.v,Tb.v_cs,Sc.v,Md.v,Pb.v,Ls.v,-List.map_take,-List.map_drop,-List.map_append,-List.map_set]⟩ ?_
 rintro i ⟨hi,hA⟩
 have hmi:=hm i
 refine az ?_ ?_
 refine qV 2 ?_ ?_
 refine qy (aw (l:=ms) (enc:=Md.v) kq iw) ?_ ?_ ?_
 refine qR 1 [(0,.imm (ms.map Md.v)),(1,.str n),(4,.ptr 0 0),(6,nI i),(12,.bool (decide (((i:Nat):Int)<((ms.length:Nat):Int))))] [.box [.str [],.full [],.full [],.full [],.int .i64 0,.str [],.int .i64 0,.str [],.full [],.full [],.full [],.int .i64 0,.int .i64 0]] ?_ ?_
 by_cases hb1:((i:Nat):Int)<((ms.length:Nat):Int)
 refine qt (decide_eq_true hb1) ?_ ?_
 refine qK ?_ ?_
 refine qz [(0,.imm (ms.map Md.v)),(1,.str n),(4,.ptr 0 0),(6,nI i)] ?_ ?_
 refine az ?_ ?_
 refine qB 1 ?_ ?_ ?_
 refine qU 1 [(0,.imm (ms.map Md.v)),(1,.str n),(4,.ptr 0 0),(6,nI i),(7,.int .i64 0)] ?_ ?_
 refine qB 2 ?_ ?_ ?_
 refine bn (σ:=Nat) (fun k=>[(0,.imm (ms.map Md.v)),(1,.str n),(4,.ptr 0 0),(6,.int .i64 ((i:Nat):Int)),(7,.int .i64 ((k:Nat):Int))]) (fun k=>[.box [.str [],.full [],.full [],.full [],.int .i64 0,.str [],.int .i64 0,.str [],.full [],.full [],.full [],.int .i64 0,.int .i64 0]]) (fun k=>k≤(ms.getD i Md.zero).decls.length∧ej n ((ms.getD i Md.zero).decls.take k)=none) (fun k=>(ms.getD i Md.zero).decls.length - k) 0 kq (by exact ⟨Nat.zero_le _,rfl⟩) ⟨⟨kq,kq,kq,kq,kq,trivial⟩,by simp [aG,aa.bel],by simp,kq,by simp [ai.belO,hpT,hpG,hpF,hpD,av,aB,bE,b3,aa.bel,Ty.v,Ex.v,Ct.v,Co.v,Rf.v,Sm.v,Tb.v_cs,Sc.v,Md.v,Pb.v,Ls.v,-List.map_take,-List.map_drop,-List.map_append,-List.map_set]⟩ ?_
 rintro k ⟨hk,hB⟩
 refine az ?_ ?_
 refine qV 3 ?_ ?_
 refine qy ((aA (k:=.i64) (l:=ms) (enc:=Md.v) (i:=((i:Nat):Int)) Md.zero kq iw mE (fun _=>rfl) oq oq).trans (congrArg (fun cs=>some (aa.pimm cs 0,_)) (dh (ms.getD i Md.zero)))) ?_ ?_ ?_
 refine qr 2 ?_ ?_
 refine qy (aw (l:=(ms.getD i Md.zero).decls) (enc:=Dc.v) kq dG) ?_ ?_ ?_
 refine qR 1 [(0,.imm (ms.map Md.v)),(1,.str n),(4,.ptr 0 0),(6,nI i),(7,nI k),(22,.bool (decide (((k:Nat):Int)<(((ms.getD i Md.zero).decls.length:Nat):Int))))] [.box [.str [],.full [],.full [],.full [],.int .i64 0,.str [],.int .i64 0,.str [],.full [],.full [],.full [],.int .i64 0,.int .i64 0]] ?_ ?_
 by_cases hb2:((k:Nat):Int)<(((ms.getD i Md.zero).decls.length:Nat):Int)
 refine qt (decide_eq_true hb2) ?_ ?_
 refine qK ?_ ?_
 refine qz [(0,.imm (ms.map Md.v)),(1,.str n),(4,.ptr 0 0),(6,nI i),(7,nI k)] ?_ ?_
 refine az ?_ ?_
 refine qB 3 ?_ ?_ ?_
 refine qV 2 ?_ ?_
 refine qy ((aA (k:=.i64) (l:=ms) (enc:=Md.v) (i:=((i:Nat):Int)) Md.zero kq iw mE (fun _=>rfl) oq oq).trans (congrArg (fun cs=>some (aa.pimm cs 0,_)) (dh (ms.getD i Md.zero)))) ?_ ?_ ?_
 refine qr 3 ?_ ?_
 refine qy ((aA (k:=.i64) (l:=(ms.getD i Md.zero).decls) (enc:=Dc.v) (i:=((k:Nat):Int)) Dc.zero kq dG iV (fun _=>rfl) oq oq).trans (congrArg (fun cs=>some (aa.pimm cs 0,_)) (eR (dcl ms i k)))) ?_ ?_ ?_
 refine qR 3 [(0,.imm (ms.map Md.v)),(1,.str n),(4,.ptr 0 0),(6,nI i),(7,nI k),(8,.ptr 1 0)] [.box [.str [],.full [],.full [],.full [],.int .i64 0,.str [],.int .i64 0,.str [],.full [],.full [],.full [],.int .i64 0,.int .i64 0],.box (Dc.cs (dcl ms i k))] ?_ ?_
 refine qV 4 ?_ ?_
 by_cases hb3:((dcl ms i k).kind)=1
 refine qm [35,36] (beq_iff_eq.2 hb3) ?_ ?_
 refine qR 5 [(0,.imm (ms.map Md.v)),(1,.str n),(4,.ptr 0 0),(6,nI i),(7,nI k),(8,.ptr 1 0),(37,.ptr 1 1),(38,.str (dcl ms i k).name),(39,.str n),(40,.bool ((dcl ms i k).name==n)),(41,.bool ((dcl ms i k).name==n))] [.box [.str [],.full [],.full [],.full [],.int .i64 0,.str [],.int .i64 0,.str [],.full [],.full [],.full [],.int .i64 0,.int .i64 0],.box (Dc.cs (dcl ms i k))] ?_ ?_
 by_cases hb4:(dcl ms i k).name=n
 refine qt (beq_iff_eq.2 hb4) ?_ ?_
 refine qW 4 [(4,.ptr 0 0),(5,.bool true)] [.box (Tb.cs (dcl ms i k).tab),.box (Dc.cs (dcl ms i k))] ?_ ?_
 refine cK kq ?_
 apply iR
 apply aR
 apply aR
 apply iR
 apply iR
 apply aR
 apply aR
 apply iR
 apply aR
 refine gH (l:=[.agg (Tb.cs (dcl ms i k).tab),.bool true]) (.inr rfl) kq ?_
 rotate_left
 iterate 2 kernel_rfl
 refine qf (beq_eq_false_iff_ne.2 hb4) ?_ ?_
 refine qk ?_ ?_
 refine ah ?_
 refine ab ?_
 refine qz [(0,.imm (ms.map Md.v)),(1,.str n),(4,.ptr 0 0),(6,nI i),(7,nI k),(37,.ptr 1 1),(38,.str (dcl ms i k).name),(39,.str n),(40,.bool ((dcl ms i k).name==n))] ?_ ?_
 refine qo ?_ ?_
 refine qr 1 ?_ ?_
 refine qy (aI (a:=((k:Nat):Int)) (b:=1) kq oq oq) ?_ ?_ ?_
 refine qr 1 ?_ ?_
 refine qe ?_ ?_
 refine ab ⟨k+1,?_,?_,⟨⟨kq,kq,kq,kq,kq,trivial⟩,by simp [aG,aa.bel],by simp,kq,by simp [ai.belO,hpT,hpG,hpF,hpD,av,aB,bE,b3,aa.bel,Ty.v,Ex.v,Ct.v,Co.v,Rf.v,Sm.v,Tb.v_cs,Sc.v,Md.v,Pb.v,Ls.v,-List.map_take,-List.map_drop,-List.map_append,-List.map_set]⟩⟩
 · omega
 · refine ⟨by omega,nx oq hB ?_⟩
   intro hc;simp_all
 iterate 11 kernel_rfl
 refine qm [35,36] (beq_eq_false_iff_ne.2 hb3) ?_ ?_
 refine qR 5 [(0,.imm (ms.map Md.v)),(1,.str n),(4,.ptr 0 0),(6,nI i),(7,nI k),(8,.ptr 1 0),(37,.tup []),(38,.tup []),(39,.tup []),(40,.tup []),(41,.bool false)] [.box [.str [],.full [],.full [],.full [],.int .i64 0,.str [],.int .i64 0,.str [],.full [],.full [],.full [],.int .i64 0,.int .i64 0],.box (Dc.cs (dcl ms i k))] ?_ ?_
 refine nC kq kq ?_
 refine qk ?_ ?_
 refine ah ?_
 refine ab ?_
 refine qz [(0,.imm (ms.map Md.v)),(1,.str n),(4,.ptr 0 0),(6,nI i),(7,nI k),(37,.tup []),(38,.tup []),(39,.tup []),(40,.tup [])] ?_ ?_
 refine qo ?_ ?_
 refine qr 1 ?_ ?_
 refine qy (aI (a:=((k:Nat):Int)) (b:=1) kq oq oq) ?_ ?_ ?_
 refine qr 1 ?_ ?_
 refine qe ?_ ?_
 refine ab ⟨k+1,?_,?_,⟨⟨kq,kq,kq,kq,kq,trivial⟩,by simp [aG,aa.bel],by simp,kq,by simp [ai.belO,hpT,hpG,hpF,hpD,av,aB,bE,b3,aa.bel,Ty.v,Ex.v,Ct.v,Co.v,Rf.v,Sm.v,Tb.v_cs,Sc.v,Md.v,Pb.v,Ls.v,-List.map_take,-List.map_drop,-List.map_append,-List.map_set]⟩⟩
 · omega
 · refine ⟨by omega,nx oq hB ?_⟩
   intro hc;simp_all
 iterate 24 kernel_rfl
 refine qf (decide_eq_false hb2) ?_ ?_
 refine a6 2 kq kq ?_
 refine af ?_
 refine af ?_
 refine aE ?_
 refine ah ?_
 refine ab ?_
 refine qz [(0,.imm (ms.map Md.v)),(1,.str n),(4,.ptr 0 0),(6,nI i)] ?_ ?_
 refine qo ?_ ?_
 refine qr 1 ?_ ?_
 refine qy (aI (a:=((i:Nat):Int)) (b:=1) kq oq oq) ?_ ?_ ?_
 refine qr 1 ?_ ?_
 refine qe ?_ ?_
 refine ab ⟨i+1,?_,?_,⟨⟨kq,kq,kq,kq,trivial⟩,by simp [aG,aa.bel],by simp,kq,by simp [ai.belO,hpT,hpG,hpF,hpD,av,aB,bE,b3,aa.bel,Ty.v,Ex.v,Ct.v,Co.v,Rf.v,Sm.v,Tb.v_cs,Sc.v,Md.v,Pb.v,Ls.v,-List.map_take,-List.map_drop,-List.map_append,-List.map_set]⟩⟩
 · omega
 · refine ⟨by omega,uu oq hA ?_⟩
   have e_:k=(ms.getD i Md.zero).decls.length:=by omega
   rw [e_,List.take_length] at hB;exact hB
 iterate 25 kernel_rfl
 refine qf (decide_eq_false hb1) ?_ ?_
 refine a6 0 kq kq ?_
 refine af ?_
 refine af ?_
 refine aE ?_
 refine ab ?_
 refine qz [(4,.ptr 0 0)] ?_ ?_
 refine qU 3 [(4,.ptr 0 0),(5,.bool false)] ?_ ?_
 refine cK kq ?_
 refine gH (l:=[.agg [.str [],.full [],.full [],.full [],.int .i64 0,.str [],.int .i64 0,.str [],.full [],.full [],.full [],.int .i64 0,.int .i64 0],.bool false]) (.inr rfl) kq ?_
 rotate_left
 iterate 14 kernel_rfl
 all_goals
  first|(rw [ye (n:=n) (i:=i) (k:=k) oq oq hA hB aq aq];simp [a8,aa.frz,aZ,Tb.v_cs];done)|(rw [xe aq hA];simp [a8,aa.frz,aZ,Tb.v_cs,Tb.cs,Tb.zero,Ex.zero,Ex.kind,Ex.name,Ex.n,Ex.s,Ex.names,Ex.binds,Ex.kids,Ex.pos,Ex.fin];done)
noncomputable def c94:Code:=aT Tryz.f94
theorem xc {p:Prop} (h:p:=by simp [Ty.v,Ex.v,Ct.v,Co.v,Rf.v,Sm.v,Tb.v_cs,Sc.v,Md.v,Pb.v,Ls.v,-List.map_take,-List.map_drop,-List.map_append]):p:=h
theorem BJ {p:Prop} (h:p:=by intro _;simp [Ty.v,Ex.v,Ct.v,Co.v,Rf.v,Sm.v,Tb.v_cs,Sc.v,Md.v,Pb.v,Ls.v,-List.map_take,-List.map_drop,-List.map_append]):p:=h
theorem nU (t:Tb) (w:Ty) (hc:t.cols.length<1000000000) (hz:∀ n,(au t.cols n).type.sz<100000000):ao cx 94 [Tb.v t,Ty.v w] (.bool (tgt t w)):=by
 refine aC (cx:=cx) 29 0 [(ResultVar.tmp 4)] Tryz.func94 rfl rfl rfl rfl rfl zq ?_
 show wpA cx 29 0 (at_ c94 []) _ _ _
 refine qZ [(0,Tb.v t),(1,Ty.v w)] [] ?_ ?_
 refine qW 3 [(2,.ptr 0 0),(3,.ptr 1 0)] [.box (Tb.cs t),w.bx] ?_ ?_
 refine az ?_ ?_
 refine qV 2 ?_ ?_
 refine qy (aw (l:=t.key) (enc:=aa.str) kq b5) ?_ ?_ ?_
 refine qR 1 [(2,.ptr 0 0),(3,.ptr 1 0),(10,.bool (((t.key.length:Nat):Int) != 1))] [.box (Tb.cs t),w.bx] ?_ ?_
 by_cases hb1:((t.key.length:Nat):Int)=1
 refine qf (x:=(((t.key.length:Nat):Int) != 1)) (bne_eq_false_iff_eq.2 hb1) ?_ ?_
 refine qK ?_ ?_
 refine qz [(2,.ptr 0 0),(3,.ptr 1 0)] ?_ ?_
 refine az ?_ ?_
 refine b6 cxM kq ap (aU ?_)
 refine qu 4 ?_ ?_
 refine qd (aA (k:=.i64) (l:=t.key) (enc:=aa.str) (i:=0) [] kq b5 ty9 (fun _=>rfl) oq oq) ?_ ?_ ?_ ?_
 refine qu 1 ?_ ?_
 refine cc (args:=[.imm (t.cols.map Co.v),.str (t.key.getD 0 [])]) kq kq kq kq kq (fe t.cols (t.key.getD 0 []) oq) BJ xc xc ?_
 refine qu 1 ?_ ?_
 refine bG kq ⟨kq,?_⟩
 refine ab ?_
 refine qZ [(2,.ptr 0 0),(3,.ptr 1 0),(5,.int .i64 (aD t.cols (t.key.getD 0 [])))] [.box (Tb.cs t),w.bx] ?_ ?_
 refine az ?_ ?_
 refine qU 2 [(2,.ptr 0 0),(3,.ptr 1 0),(5,.int .i64 (aD t.cols (t.key.getD 0 []))),(19,.bool (decide ((aD t.cols (t.key.getD 0 []))<0)))] ?_ ?_
 by_cases hb2:(aD t.cols (t.key.getD 0 []))<0
 refine qt (decide_eq_true hb2) ?_ ?_
 refine qV 1 ?_ ?_
 refine qT ?_ ?_
 apply aR
 refine a7 (b:=false) (.inr rfl) kq ?_
 rotate_left
 iterate 3 kernel_rfl
 refine qf (decide_eq_false hb2) ?_ ?_
 refine qK ?_ ?_
 refine qz [(2,.ptr 0 0),(3,.ptr 1 0),(5,.int .i64 (aD t.cols (t.key.getD 0 [])))] ?_ ?_
 refine az ?_ ?_
 refine b6 cxM kq ap (aU ?_)
 refine qu 3 ?_ ?_
 refine qd ((aA (k:=.i64) (l:=t.cols) (enc:=Co.v) (i:=(aD t.cols (t.key.getD 0 []))) Co.zero kq fv kQ (fun _=>rfl) oq (wc aq)).trans (congrArg (fun cs=>some (aa.pimm cs 0,_)) (dm (t.cols.getD (((aD t.cols (t.key.getD 0 []))).toNat) Co.zero)))) ?_ ?_ ?_ ?_
 refine qu 3 ?_ ?_
 refine cc (args:=[.agg [.int .i64 ((t.cols.getD (((aD t.cols (t.key.getD 0 []))).toNat) Co.zero).type.kind),.str (t.cols.getD (((aD t.cols (t.key.getD 0 []))).toNat) Co.zero).type.name,.int .i64 ((t.cols.getD (((aD t.cols (t.key.getD 0 []))).toNat) Co.zero).type.n),.imm ((t.cols.getD (((aD t.cols (t.key.getD 0 []))).toNat) Co.zero).type.names.map aa.str),.imm ((t.cols.getD (((aD t.cols (t.key.getD 0 []))).toNat) Co.zero).type.kids.map Ty.enc)],.agg [.int .i64 (w.kind),.str w.name,.int .i64 (w.n),.imm (w.names.map aa.str),.imm (w.kids.map Ty.enc)]]) kq kq kq kq kq (gP ((t.cols.getD (((aD t.cols (t.key.getD 0 []))).toNat) Co.zero).type) w (by rw [mq aq];exact hz _)) BJ xc xc ?_
 refine qu 1 ?_ ?_
 refine bG kq ⟨kq,?_⟩
 refine ab ?_
 refine qZ [(6,.bool (((t.cols.getD (((aD t.cols (t.key.getD 0 []))).toNat) Co.zero).type).beq w))] [.box (Tb.cs t),w.bx] ?_ ?_
 refine qV 2 ?_ ?_
 refine qT ?_ ?_
 refine a7 (b:=(((t.cols.getD (((aD t.cols (t.key.getD 0 []))).toNat) Co.zero).type).beq w)) (.inr rfl) kq ?_
 rotate_left
 iterate 26 kernel_rfl
 refine qt (x:=(((t.key.length:Nat):Int) != 1)) (bne_iff_ne.2 hb1) ?_ ?_
 refine qV 1 ?_ ?_
 refine qT ?_ ?_
 apply aR
 refine a7 (b:=false) (.inr rfl) kq ?_
 rotate_left
 iterate 10 kernel_rfl
 all_goals
  first|(rw [yL aq];done)|(rw [yQ oq (by rw [iW aq];decide)];done)|(rw [sX oq (fm aq),mq aq];done)|(rw [sX oq (fm aq),← mq aq];assumption)
end Go.Proofs.YtcpklndelobigaaGreatDoor
