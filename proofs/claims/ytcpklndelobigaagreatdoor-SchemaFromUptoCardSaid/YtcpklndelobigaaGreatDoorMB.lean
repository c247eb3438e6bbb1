/- The reference's helpers of From: index, in, first, Target, has, wrong. Conditions: sizes that can be had; what the leaves answer. -/
import Derived.Test.YtcpklndelobigaaGreatDoorMA
set_option linter.all false
namespace Go.Proofs.YtcpklndelobigaaGreatDoor
open Go.Proofs.YtcpklndelobigaaGreatDoor.Abs
set_option maxRecDepth 20000
set_option maxHeartbeats 4000000
theorem CH {l:List Co} {n:List UInt8} {k:Nat} (hk:k<l.length) (ha:∀ i,i<k->¬ (l.getD i Co.zero).name=n) (h:(l.getD k Co.zero).name=n):((k:Nat):Int)=dw l n :=
 eW (p:=fun t:Co=>t.name==n) Co.zero hk (fun i hi=>by simpa using ha i hi) (by simpa using h)
theorem C9 {l:List Co} {n:List UInt8} (ha:∀ i,i<l.length->¬ (l.getD i Co.zero).name=n):-1=dw l n :=
 e7 (p:=fun t:Co=>t.name==n) Co.zero (fun i hi=>by simpa using ha i hi)
theorem Aw {l:List (List UInt8)} {s:List UInt8} {k:Nat} (hk:k<l.length) (ha:∀ i,i<k->¬ l.getD i []=s) (h:l.getD k []=s):((k:Nat):Int)=bQ l s:=oS hk (fun i hi e=>ha i hi e.symm) h.symm
theorem zP {l:List (List UInt8)} {s:List UInt8} (ha:∀ i,i<l.length->¬ l.getD i []=s):-1=bQ l s:=oC (fun i hi e=>ha i hi e.symm)
theorem jI {l:List Co} {n:List UInt8} (h:dw l n<0):bt l n=false:=by rcases lL l n with q|q;exact q.2;omega
theorem gn {l:List Co} {n:List UInt8} (h:¬ dw l n<0):bt l n=true:=by rcases lL l n with q|q;omega;exact q.2.2.1
theorem N0 {l:List Co} {n:List UInt8} (h:dw l n >= 0):bt l n=true:=gn oq
theorem Oy {l:List Co} {n:List UInt8} (h:¬ dw l n >= 0):bt l n=false:=jI oq
theorem o5 {l:List Co} {n:List UInt8} (h:¬ dw l n<0):l.getD (dw l n).toNat Co.zero=bV l n:=by rcases lL l n with q|q;omega;exact q.2.2.2
theorem Pm {l:List Co} {n:List UInt8} (h:¬ dw l n<0):(dw l n).toNat<l.length:=by rcases lL l n with q|q;omega;exact q.2.1
theorem E3 {l:List Co} {n:List UInt8} (h:¬ dw l n<0):dw l n<((l.length:Nat):Int):=by have:=Pm h;omega
theorem mS {l:List (List UInt8)} {s:List UInt8} (h:bQ l s >= 0):l.contains s=true:=by rw [<- i6];exact decide_eq_true h
theorem mc {l:List (List UInt8)} {s:List UInt8} (h:¬ bQ l s >= 0):l.contains s=false:=by rw [<- i6];exact decide_eq_false h
noncomputable def c91:Code:=aF Tryz.f91
theorem CJ {p:Prop} (h:p:=by simp [ax.belO,aa.bel,aM]):p:=h
theorem Li {p:Prop} (h:p:=by exact ⟨Nat.zero_le _,fun i h=>absurd h (Nat.not_lt_zero i)⟩):p:=h
theorem iW (l:List Co) (n:List UInt8) (hn:l.length<1000000000):af cx 91 [.imm (l.map Co.v),.str n] (.int .i64 (dw l n)):=by
 refine am (cx:=cx) 20 0 [(ResultVar.tmp 4)] Tryz.func91 rfl rfl rfl rfl rfl zq ?_;show wpA cx 20 0 (at_ c91 []) _ _ _;refine zZ (fun _=>[(0,.imm (l.map Co.v)),(1,.str n)]) (fun _=>[]) ?_ ?_;apply zW 1 id id;apply ao;apply zW 1 (mU [(5,.int .i64 0)]) id;apply qB 0;refine aU (σ:=Nat) (fun k=>[(0,.imm (l.map Co.v)),(1,.str n),(5,.int .i64 ((k:Nat):Int))]) (fun k=>[]) (fun k=>k<=l.length/\∀ i,i<k->¬ (l.getD i Co.zero).name=n) (fun k=>l.length - k) 0 kq Li (fg kq kq az CJ) ?_;rintro k ⟨hk,ha⟩;apply ao;apply zV 2;refine qy (aw (l:=l) (enc:=Co.v) kq eL) ?_ ?_ ?_;apply zR 1 (mU [(9,.bool (decide (((k:Nat):Int)<((l.length:Nat):Int))))]) id;by_cases hb1:((k:Nat):Int)<((l.length:Nat):Int);apply qt (decide_eq_true hb1);apply qK;apply zZ (mT [] [9]) id;apply ao;apply qB 1;apply zV 2;refine qy ((av (k:=.i64) (l:=l) (enc:=Co.v) (i:=((k:Nat):Int)) Co.zero kq eL kp (fun _=>rfl) oq oq).trans (congrArg (fun cs=>some (aa.pimm cs 0,_)) (dV (l.getD k Co.zero)))) ?_ ?_ ?_;refine zR 4 (fun _=>[(0,.imm (l.map Co.v)),(1,.str n),(5,nI k),(18,.bool ((l.getD k Co.zero).name==n))]) (fun _=>[]) ?_ ?_;by_cases hb2:(l.getD k Co.zero).name=n;apply qt (beq_iff_eq.2 hb2);apply zV 2;apply qT;apply iR;apply aR;apply aR;apply iR;apply aR;refine fe (n:=((k:Nat):Int)) (.inr rfl) kq ?_
 rotate_left
 iterate 3 kernel_rfl
 apply qf (beq_eq_false_iff_ne.2 hb2);apply qk;apply ag;apply ab;apply zZ (mT [] [18]) id;apply qo;apply qr 1;refine qy (aA (a:=((k:Nat):Int)) (b:=1) kq oq oq) ?_ ?_ ?_;apply qr 1;apply qe;refine ab ⟨k+1,?_,?_,(fg kq kq az CJ)⟩
 . omega
 . refine ⟨by omega,fun i hi=>?_⟩;rcases Nat.lt_succ_iff_lt_or_eq.1 hi with h|h
   . exact ha i h
   . subst h;assumption
 iterate 19 kernel_rfl
 apply qf (decide_eq_false hb1);refine aK 0 kq kq ?_;apply ac;apply ac;apply au;apply ab;refine zZ (fun _=>[]) (fun _=>[]) ?_ ?_;apply zV 1;apply qT;refine fe (n:=(-1)) (.inr rfl) kq ?_
 rotate_left
 iterate 15 kernel_rfl
 all_goals
  first|exact CH oq ha aq|exact C9 (fun i hi=>ha i oq)
noncomputable def c37:Code:=aF Tryz.f37
theorem jp (l:List (List UInt8)) (n:List UInt8) (hn:l.length<1000000000):af cx 37 [.imm (l.map aa.str),.str n] (.int .i64 (bQ l n)):=by
 refine am (cx:=cx) 19 0 [(ResultVar.tmp 4)] Tryz.func37 rfl rfl rfl rfl rfl zq ?_;show wpA cx 19 0 (at_ c37 []) _ _ _;refine zZ (fun _=>[(0,.imm (l.map aa.str)),(1,.str n)]) (fun _=>[]) ?_ ?_;apply zW 1 id id;apply ao;apply zW 1 (mU [(5,.int .i64 0)]) id;apply qB 0;refine aU (σ:=Nat) (fun k=>[(0,.imm (l.map aa.str)),(1,.str n),(5,.int .i64 ((k:Nat):Int))]) (fun k=>[]) (fun k=>k<=l.length/\∀ i,i<k->¬ (l.getD i [])=n) (fun k=>l.length - k) 0 kq Li (fg kq kq az CJ) ?_;rintro k ⟨hk,ha⟩;apply ao;apply zV 2;refine qy (aw (l:=l) (enc:=aa.str) kq bf) ?_ ?_ ?_;apply zR 1 (mU [(9,.bool (decide (((k:Nat):Int)<((l.length:Nat):Int))))]) id;by_cases hb1:((k:Nat):Int)<((l.length:Nat):Int);apply qt (decide_eq_true hb1);apply qK;apply zZ (mT [] [9]) id;apply ao;apply qB 1;apply zV 2;refine qy (av (k:=.i64) (l:=l) (enc:=aa.str) (i:=((k:Nat):Int)) [] kq bf ty9 (fun _=>rfl) oq oq) ?_ ?_ ?_;refine zR 3 (fun _=>[(0,.imm (l.map aa.str)),(1,.str n),(5,nI k),(17,.bool ((l.getD k [])==n))]) (fun _=>[]) ?_ ?_;by_cases hb2:(l.getD k [])=n;apply qt (beq_iff_eq.2 hb2);apply zV 2;apply qT;apply iR;apply aR;apply aR;apply iR;apply aR;refine fe (n:=((k:Nat):Int)) (.inr rfl) kq ?_
 rotate_left
 iterate 3 kernel_rfl
 apply qf (beq_eq_false_iff_ne.2 hb2);apply qk;apply ag;apply ab;apply zZ (mT [] [17]) id;apply qo;apply qr 1;refine qy (aA (a:=((k:Nat):Int)) (b:=1) kq oq oq) ?_ ?_ ?_;apply qr 1;apply qe;refine ab ⟨k+1,?_,?_,(fg kq kq az CJ)⟩
 . omega
 . refine ⟨by omega,fun i hi=>?_⟩;rcases Nat.lt_succ_iff_lt_or_eq.1 hi with h|h
   . exact ha i h
   . subst h;assumption
 iterate 19 kernel_rfl
 apply qf (decide_eq_false hb1);refine aK 0 kq kq ?_;apply ac;apply ac;apply au;apply ab;refine zZ (fun _=>[]) (fun _=>[]) ?_ ?_;apply zV 1;apply qT;refine fe (n:=(-1)) (.inr rfl) kq ?_
 rotate_left
 iterate 15 kernel_rfl
 all_goals
  first|exact Aw oq ha aq|exact zP (fun i hi=>ha i oq)
theorem LU {l:List Tb} {n:List UInt8} {k:Nat} (hk:k<l.length) (h:(l.getD k Tb.zero).name=n):true=dJ l n:=by
 unfold dJ;exact (List.any_eq_true.2 ⟨_,bF _ _ _ hk,by simpa using h⟩).symm
theorem Mu {l:List Tb} {n:List UInt8} (ha:∀ i,i<l.length->¬ (l.getD i Tb.zero).name=n):false=dJ l n:=by
 unfold dJ;symm;rw [List.any_eq_false];intro x hx;obtain ⟨i,hi,rfl⟩:=List.getElem_of_mem hx;have:=ha i hi;rw [bJ _ _ _ hi] at this;simpa using this
noncomputable def c39:Code:=aF Tryz.f39
theorem Dy (l:List Tb) (n:List UInt8) (hn:l.length<1000000000):af cx 39 [.imm (l.map Tb.v),.str n] (.bool (dJ l n)):=by
 refine am (cx:=cx) 19 0 [(ResultVar.tmp 4)] Tryz.func39 rfl rfl rfl rfl rfl zq ?_;show wpA cx 19 0 (at_ c39 []) _ _ _;refine zZ (fun _=>[(0,.imm (l.map Tb.v)),(1,.str n)]) (fun _=>[]) ?_ ?_;apply zW 1 id id;apply ao;apply zW 1 (mU [(5,.int .i64 0)]) id;apply qB 0;refine aU (σ:=Nat) (fun k=>[(0,.imm (l.map Tb.v)),(1,.str n),(5,.int .i64 ((k:Nat):Int))]) (fun k=>[]) (fun k=>k<=l.length/\∀ i,i<k->¬ (l.getD i Tb.zero).name=n) (fun k=>l.length - k) 0 kq Li (fg kq kq az CJ) ?_;rintro k ⟨hk,ha⟩;apply ao;apply zV 2;refine qy (aw (l:=l) (enc:=Tb.v) kq b7) ?_ ?_ ?_;apply zR 1 (mU [(9,.bool (decide (((k:Nat):Int)<((l.length:Nat):Int))))]) id;by_cases hb1:((k:Nat):Int)<((l.length:Nat):Int);apply qt (decide_eq_true hb1);apply qK;apply zZ (mT [] [9]) id;apply ao;apply qB 1;apply zV 2;refine qy ((av (k:=.i64) (l:=l) (enc:=Tb.v) (i:=((k:Nat):Int)) Tb.zero kq b7 cN (fun _=>rfl) oq oq).trans (congrArg (fun cs=>some (aa.pimm cs 0,_)) (cQ (l.getD k Tb.zero)))) ?_ ?_ ?_;refine zR 4 (fun _=>[(0,.imm (l.map Tb.v)),(1,.str n),(5,nI k),(18,.bool ((l.getD k Tb.zero).name==n))]) (fun _=>[]) ?_ ?_;by_cases hb2:(l.getD k Tb.zero).name=n;apply qt (beq_iff_eq.2 hb2);apply zV 1;apply qT;apply iR;apply aR;apply aR;apply iR;apply aR;refine aJ (b:=true) (.inr rfl) kq ?_
 rotate_left
 iterate 3 kernel_rfl
 apply qf (beq_eq_false_iff_ne.2 hb2);apply qk;apply ag;apply ab;apply zZ (mT [] [18]) id;apply qo;apply qr 1;refine qy (aA (a:=((k:Nat):Int)) (b:=1) kq oq oq) ?_ ?_ ?_;apply qr 1;apply qe;refine ab ⟨k+1,?_,?_,(fg kq kq az CJ)⟩
 . omega
 . refine ⟨by omega,fun i hi=>?_⟩;rcases Nat.lt_succ_iff_lt_or_eq.1 hi with h|h
   . exact ha i h
   . subst h;assumption
 iterate 19 kernel_rfl
 apply qf (decide_eq_false hb1);refine aK 0 kq kq ?_;apply ac;apply ac;apply au;apply ab;refine zZ (fun _=>[]) (fun _=>[]) ?_ ?_;apply zV 1;apply qT;refine aJ (b:=false) (.inr rfl) kq ?_
 rotate_left
 iterate 15 kernel_rfl
 all_goals
  first|exact LU (k:=k) oq aq|exact Mu (fun i hi=>ha i oq)
theorem HZ {n:List UInt8} {V:List Md} {i:Nat} (hi:¬ ((i:Nat):Int)<((V.length:Nat):Int)) (h:ba n (V.take i)=none):ba n V=none:=by
 rwa [List.take_of_length_le oq] at h
noncomputable def c93:Code:=aF Tryz.f93
theorem pS {p:Prop} (h:p:=by first|omega):p:=h
theorem xG (V:List Md) (n:List UInt8) (hn:V.length<=2) (hm:∀ i,(V.getD i Md.zero).decls.length<=40):af cx 93 [.imm (V.map Md.v),.str n] (.tup [Tb.v ((ba n V).getD Tb.zero),.bool ((ba n V).isSome)]):=by
 refine am (cx:=cx) 45 0 [(ResultVar.cell 4 52),(ResultVar.tmp 5)] Tryz.func93 rfl rfl rfl rfl rfl zq ?_;show wpA cx 45 0 (at_ c93 []) _ _ _;refine zZ (fun _=>[(0,.imm (V.map Md.v)),(1,.str n)]) (fun _=>[]) ?_ ?_;apply zW 2 (mU [(4,.ptr 0 0)]) (mH [] [.box [.str [],.full [],.full [],.full [],.int .i64 0,.str [],.int .i64 0,.str [],.full [],.full [],.full [],.int .i64 0,.int .i64 0]]);apply ao;apply zW 1 (mU [(6,.int .i64 0)]) id;apply qB 0;refine aU (σ:=Nat) (fun i=>[(0,.imm (V.map Md.v)),(1,.str n),(4,.ptr 0 0),(6,.int .i64 ((i:Nat):Int))]) (fun i=>[.box [.str [],.full [],.full [],.full [],.int .i64 0,.str [],.int .i64 0,.str [],.full [],.full [],.full [],.int .i64 0,.int .i64 0]]) (fun i=>i<=V.length/\ba n (V.take i)=none) (fun i=>V.length - i) 0 kq (by exact ⟨Nat.zero_le _,rfl⟩) (fg kq kq az eC) ?_;rintro i ⟨hi,hA⟩;have hmi:=hm i;apply ao;apply zV 2;refine qy (aw (l:=V) (enc:=Md.v) kq l2) ?_ ?_ ?_;apply zR 1 (mU [(12,.bool (decide (((i:Nat):Int)<((V.length:Nat):Int))))]) id;by_cases hb1:((i:Nat):Int)<((V.length:Nat):Int);apply qt (decide_eq_true hb1);apply qK;apply zZ (mT [] [12]) id;apply ao;apply qB 1;apply zW 1 (mU [(7,.int .i64 0)]) id;apply qB 2;refine aU (σ:=Nat) (fun k=>[(0,.imm (V.map Md.v)),(1,.str n),(4,.ptr 0 0),(6,.int .i64 ((i:Nat):Int)),(7,.int .i64 ((k:Nat):Int))]) (fun k=>[.box [.str [],.full [],.full [],.full [],.int .i64 0,.str [],.int .i64 0,.str [],.full [],.full [],.full [],.int .i64 0,.int .i64 0]]) (fun k=>k<=(V.getD i Md.zero).decls.length/\fZ n ((V.getD i Md.zero).decls.take k)=none) (fun k=>(V.getD i Md.zero).decls.length - k) 0 kq (by exact ⟨Nat.zero_le _,rfl⟩) (fg kq kq az eC) ?_;rintro k ⟨hk,hB⟩;apply ao;apply zV 3;refine qy ((av (k:=.i64) (l:=V) (enc:=Md.v) (i:=((i:Nat):Int)) Md.zero kq l2 sX (fun _=>rfl) pS pS).trans (congrArg (fun cs=>some (aa.pimm cs 0,_)) (eD (V.getD i Md.zero)))) ?_ ?_ ?_;apply qr 2;refine qy (aw (l:=(V.getD i Md.zero).decls) (enc:=Dc.v) kq ga) ?_ ?_ ?_;apply zR 1 (mU [(22,.bool (decide (((k:Nat):Int)<(((V.getD i Md.zero).decls.length:Nat):Int))))]) id;by_cases hb2:((k:Nat):Int)<(((V.getD i Md.zero).decls.length:Nat):Int);apply qt (decide_eq_true hb2);apply qK;apply zZ (mT [] [22]) id;apply ao;apply qB 3;apply zV 2;refine qy ((av (k:=.i64) (l:=V) (enc:=Md.v) (i:=((i:Nat):Int)) Md.zero kq l2 sX (fun _=>rfl) pS pS).trans (congrArg (fun cs=>some (aa.pimm cs 0,_)) (eD (V.getD i Md.zero)))) ?_ ?_ ?_;apply qr 3;refine qy ((av (k:=.i64) (l:=(V.getD i Md.zero).decls) (enc:=Dc.v) (i:=((k:Nat):Int)) Dc.zero kq ga oB (fun _=>rfl) pS pS).trans (congrArg (fun cs=>some (aa.pimm cs 0,_)) (ij ((V.getD i Md.zero).decls.getD k Dc.zero)))) ?_ ?_ ?_;apply zR 3 (mU [(8,.ptr 1 0)]) (mH [] [.box (Dc.cs ((V.getD i Md.zero).decls.getD k Dc.zero))]);apply zV 4;by_cases hb3:(((V.getD i Md.zero).decls.getD k Dc.zero).kind)=1;apply zm [35,36] (beq_iff_eq.2 hb3);apply zR 5 (mU [(37,.ptr 1 1),(38,.str ((V.getD i Md.zero).decls.getD k Dc.zero).name),(39,.str n),(40,.bool (((V.getD i Md.zero).decls.getD k Dc.zero).name==n)),(41,.bool (((V.getD i Md.zero).decls.getD k Dc.zero).name==n))]) id;by_cases hb4:((V.getD i Md.zero).decls.getD k Dc.zero).name=n;apply qt (beq_iff_eq.2 hb4);refine zW 4 (fun _=>[(4,.ptr 0 0),(5,.bool true)]) (fun _=>[.box (Tb.cs ((V.getD i Md.zero).decls.getD k Dc.zero).tab),.box (Dc.cs ((V.getD i Md.zero).decls.getD k Dc.zero))]) ?_ ?_;refine bq kq ?_;apply iR;apply aR;apply aR;apply iR;apply iR;apply aR;apply aR;apply iR;apply aR;refine cq (l:=[.agg (Tb.cs ((V.getD i Md.zero).decls.getD k Dc.zero).tab),.bool true]) (.inr rfl) kq ?_
 rotate_left
 iterate 2 kernel_rfl
 apply qf (beq_eq_false_iff_ne.2 hb4);apply qk;apply ag;apply ab;apply zZ (mT [] [8,41]) id;apply qo;apply qr 1;refine qy (aA (a:=((k:Nat):Int)) (b:=1) kq pS pS) ?_ ?_ ?_;apply qr 1;apply qe;refine ab ⟨k+1,?_,?_,(fg kq kq az eC)⟩
 . omega
 . refine ⟨by omega,tJ oq hB ?_⟩;intro hc;simp_all
 iterate 11 kernel_rfl
 apply zm [35,36] (beq_eq_false_iff_ne.2 hb3);apply zR 5 (mU [(37,.tup []),(38,.tup []),(39,.tup []),(40,.tup []),(41,.bool false)]) id;refine fM kq kq ?_;apply qk;apply ag;apply ab;apply zZ (mT [] [8,41]) id;apply qo;apply qr 1;refine qy (aA (a:=((k:Nat):Int)) (b:=1) kq pS pS) ?_ ?_ ?_;apply qr 1;apply qe;refine ab ⟨k+1,?_,?_,(fg kq kq az eC)⟩
 . omega
 . refine ⟨by omega,tJ oq hB ?_⟩;intro hc;simp_all
 iterate 24 kernel_rfl
 apply qf (decide_eq_false hb2);refine aK 2 kq kq ?_;apply ac;apply ac;apply au;apply ag;apply ab;apply zZ (mT [] [7,22]) id;apply qo;apply qr 1;refine qy (aA (a:=((i:Nat):Int)) (b:=1) kq pS pS) ?_ ?_ ?_;apply qr 1;apply qe;refine ab ⟨i+1,?_,?_,(fg kq kq az eC)⟩
 . omega
 . refine ⟨by omega,CU oq hA ?_⟩;have e_:k=(V.getD i Md.zero).decls.length:=by omega
   rw [e_,List.take_length] at hB;exact hB
 iterate 25 kernel_rfl
 apply qf (decide_eq_false hb1);refine aK 0 kq kq ?_;apply ac;apply ac;apply au;apply ab;apply zZ (mT [] [0,1,6,12]) id;refine zW 3 (fun _=>[(4,.ptr 0 0),(5,.bool false)]) (fun _=>[.box [.str [],.full [],.full [],.full [],.int .i64 0,.str [],.int .i64 0,.str [],.full [],.full [],.full [],.int .i64 0,.int .i64 0]]) ?_ ?_;refine bq kq ?_;refine cq (l:=[.agg [.str [],.full [],.full [],.full [],.int .i64 0,.str [],.int .i64 0,.str [],.full [],.full [],.full [],.int .i64 0,.int .i64 0],.bool false]) (.inr rfl) kq ?_
 rotate_left
 iterate 14 kernel_rfl
 all_goals
  first|(rw [Hc (n:=n) (i:=i) (k:=k) oq oq hA hB aq aq];simp [bg,aa.frz,aQ,Tb.v_cs];done)|(rw [HZ aq hA];simp [bg,aa.frz,aQ,Tb.v_cs,Tb.cs,Tb.zero,Ex.zero,Ex.kind,Ex.name,Ex.n,Ex.s,Ex.names,Ex.binds,Ex.kids,Ex.pos,Ex.fin];done)
noncomputable def c94:Code:=aF Tryz.f94
theorem C7 {p:Prop} (h:p:=by first|omega|exact E3 aq|(rw [o5 aq];exact hz _)):p:=h
theorem uK (t:Tb) (w:Ty) (hc:t.cols.length<1000000000) (hz:∀ n,(bV t.cols n).type.sz<100000000):af cx 94 [Tb.v t,Ty.v w] (.bool (tgt t w)):=by
 refine am (cx:=cx) 29 0 [(ResultVar.tmp 4)] Tryz.func94 rfl rfl rfl rfl rfl zq ?_;show wpA cx 29 0 (at_ c94 []) _ _ _;refine zZ (fun _=>[(0,Tb.v t),(1,Ty.v w)]) (fun _=>[]) ?_ ?_;apply zW 3 (mT [(2,.ptr 0 0),(3,.ptr 1 0)] [0,1]) (mH [] [.box (Tb.cs t),w.bx]);apply ao;apply zV 2;refine qy (aw (l:=t.key) (enc:=aa.str) kq bf) ?_ ?_ ?_;apply zR 1 (mU [(10,.bool (((t.key.length:Nat):Int) != 1))]) id;by_cases hb1:((t.key.length:Nat):Int)=1;refine qf (x:=(((t.key.length:Nat):Int) != 1)) (bne_eq_false_iff_eq.2 hb1) ?_ ?_;apply qK;apply zZ (mT [] [10]) id;apply ao;refine zD cxM kq aj ?_;apply qu 4;refine qd (av (k:=.i64) (l:=t.key) (enc:=aa.str) (i:=0) [] kq bf ty9 (fun _=>rfl) C7 C7) ?_ ?_ ?_ ?_;apply qu 1;refine qQ (iW t.cols (t.key.getD 0 []) C7) aY aY aY kq ?_;apply qu 1;refine bh kq ⟨kq,?_⟩;apply zE (mU [(5,.int .i64 (dw t.cols (t.key.getD 0 [])))]) id;apply ao;refine zW 2 (fun _=>[(2,.ptr 0 0),(3,.ptr 1 0),(5,.int .i64 (dw t.cols (t.key.getD 0 []))),(19,.bool (decide ((dw t.cols (t.key.getD 0 []))<0)))]) (fun _=>[.box (Tb.cs t),w.bx]) ?_ ?_;by_cases hb2:(dw t.cols (t.key.getD 0 []))<0;apply qt (decide_eq_true hb2);apply zV 1;apply qT;apply aR;refine aJ (b:=false) (.inr rfl) kq ?_
 rotate_left
 iterate 3 kernel_rfl
 apply qf (decide_eq_false hb2);apply qK;apply zZ (mT [] [19]) id;apply ao;refine zD cxM kq aj ?_;apply qu 3;refine qd ((av (k:=.i64) (l:=t.cols) (enc:=Co.v) (i:=(dw t.cols (t.key.getD 0 []))) Co.zero kq eL kp (fun _=>rfl) C7 C7).trans (congrArg (fun cs=>some (aa.pimm cs 0,_)) (dV (t.cols.getD (((dw t.cols (t.key.getD 0 []))).toNat) Co.zero)))) ?_ ?_ ?_ ?_;apply qu 3;refine qQ (d9 ((t.cols.getD (((dw t.cols (t.key.getD 0 []))).toNat) Co.zero).type) w C7) aY aY aY kq ?_;apply qu 1;refine bh kq ⟨kq,?_⟩;refine zE (fun _=>[(6,.bool (((t.cols.getD (((dw t.cols (t.key.getD 0 []))).toNat) Co.zero).type).beq w))]) (fun _=>[.box (Tb.cs t),w.bx]) ?_ ?_;apply zV 2;apply qT;refine aJ (b:=(((t.cols.getD (((dw t.cols (t.key.getD 0 []))).toNat) Co.zero).type).beq w)) (.inr rfl) kq ?_
 rotate_left
 iterate 26 kernel_rfl
 refine qt (x:=(((t.key.length:Nat):Int) != 1)) (bne_iff_ne.2 hb1) ?_ ?_;apply zV 1;apply qT;apply aR;refine aJ (b:=false) (.inr rfl) kq ?_
 rotate_left
 iterate 10 kernel_rfl
 all_goals
  first|(rw [KH aq];done)|(rw [J4 oq (by rw [jI aq];decide)];done)|(rw [BT oq (gn aq),o5 aq];done)|(rw [BT oq (gn aq),<- o5 aq];assumption)
end Go.Proofs.YtcpklndelobigaaGreatDoor
