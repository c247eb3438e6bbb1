/- Equal of types in both packages. No condition. -/
import Derived.Test.YtcpklndelobigaaGreatDoorC1
set_option linter.all false
namespace Go.Proofs.YtcpklndelobigaaGreatDoor
open Go.Proofs.YtcpklndelobigaaGreatDoor.Abs
set_option maxRecDepth 20000
set_option maxHeartbeats 4000000
theorem m7 {a b:List (List UInt8)} (hl:a.length=b.length) (h:∀ i,i<a.length→a.getD i []=b.getD i []):true=(a==b):=by
 rw [← ig,bH (·==·) [] [] a b hl (fun i hi=>by simpa using h i hi)]
theorem sM {a b:List (List UInt8)} {i:Nat} (hl:a.length=b.length) (hi:i<a.length) (h:¬ a.getD i []=b.getD i []):false=(a==b):=by
 rw [← ig,cN (·==·) [] [] a b i hl hi (by simpa using h)]
theorem pD {a b:List (List UInt8)} (hl:¬ ((a.length:Nat):Int)=((b.length:Nat):Int)):false=(a==b):=by
 rw [← ig,cl _ a b oq]
noncomputable def c42:Code:=aT Tryz.f42
theorem cX (a b:List (List UInt8)) (hn:a.length<1000000000):ao cx 42 [.imm (a.map aa.str),.imm (b.map aa.str)] (.bool (a==b)):=by
 refine aC (cx:=cx) 26 0 [(ResultVar.tmp 4)] Tryz.func42 rfl rfl rfl rfl rfl zq ?_
 show wpA cx 26 0 (at_ c42 []) _ _ _
 refine qZ [(0,.imm (a.map aa.str)),(1,.imm (b.map aa.str))] [] ?_ ?_
 refine qU 1 [(0,.imm (a.map aa.str)),(1,.imm (b.map aa.str))] ?_ ?_
 refine az ?_ ?_
 refine qV 1 ?_ ?_
 refine qy (aw (l:=a) (enc:=aa.str) kq b5) ?_ ?_ ?_
 refine qr 1 ?_ ?_
 refine qy (aw (l:=b) (enc:=aa.str) kq b5) ?_ ?_ ?_
 refine qR 1 [(0,.imm (a.map aa.str)),(1,.imm (b.map aa.str)),(10,.bool (((a.length:Nat):Int) != ((b.length:Nat):Int)))] [] ?_ ?_
 by_cases hb1:((a.length:Nat):Int)=((b.length:Nat):Int)
 refine qf (x:=(((a.length:Nat):Int) != ((b.length:Nat):Int))) (bne_eq_false_iff_eq.2 hb1) ?_ ?_
 refine qK ?_ ?_
 refine qz [(0,.imm (a.map aa.str)),(1,.imm (b.map aa.str))] ?_ ?_
 refine az ?_ ?_
 refine qU 1 [(0,.imm (a.map aa.str)),(1,.imm (b.map aa.str)),(5,.int .i64 0)] ?_ ?_
 refine qB 0 ?_ ?_ ?_
 refine bn (σ:=Nat) (fun k=>[(0,.imm (a.map aa.str)),(1,.imm (b.map aa.str)),(5,.int .i64 ((k:Nat):Int))]) (fun k=>[]) (fun k=>k≤a.length∧∀ i,i<k→a.getD i []=b.getD i []) (fun k=>a.length - k) 0 kq zq ⟨⟨kq,kq,kq,trivial⟩,by simp [aG,aa.bel],by simp,kq,by simp⟩ ?_
 rintro k ⟨hk,ha⟩
 refine az ?_ ?_
 refine qV 2 ?_ ?_
 refine qy (aw (l:=a) (enc:=aa.str) kq b5) ?_ ?_ ?_
 refine qR 1 [(0,.imm (a.map aa.str)),(1,.imm (b.map aa.str)),(5,nI k),(14,.bool (decide (((k:Nat):Int)<((a.length:Nat):Int))))] [] ?_ ?_
 by_cases hb2:((k:Nat):Int)<((a.length:Nat):Int)
 refine qt (decide_eq_true hb2) ?_ ?_
 refine qK ?_ ?_
 refine qz [(0,.imm (a.map aa.str)),(1,.imm (b.map aa.str)),(5,nI k)] ?_ ?_
 refine az ?_ ?_
 refine qB 1 ?_ ?_ ?_
 refine az ?_ ?_
 refine b6 cxM kq ap (aU ?_)
 refine qu 2 ?_ ?_
 refine qd (aA (k:=.i64) (l:=a) (enc:=aa.str) (i:=((k:Nat):Int)) [] kq b5 ty9 (fun _=>rfl) oq oq) ?_ ?_ ?_ ?_
 refine qu 3 ?_ ?_
 refine qd (aA (k:=.i64) (l:=b) (enc:=aa.str) (i:=((k:Nat):Int)) [] kq b5 ty9 (fun _=>rfl) oq oq) ?_ ?_ ?_ ?_
 refine qu 2 ?_ ?_
 refine bG kq ⟨kq,?_⟩
 refine ab ?_
 refine qZ [(0,.imm (a.map aa.str)),(1,.imm (b.map aa.str)),(5,nI k),(25,.bool (!((a.getD k [])==(b.getD k []))))] [] ?_ ?_
 by_cases hb3:(a.getD k [])=(b.getD k [])
 refine qf (x:=(!((a.getD k [])==(b.getD k [])))) (congrArg not (beq_iff_eq.2 hb3)) ?_ ?_
 refine qk ?_ ?_
 refine ah ?_
 refine ab ?_
 refine qz [(0,.imm (a.map aa.str)),(1,.imm (b.map aa.str)),(5,nI k)] ?_ ?_
 refine qo ?_ ?_
 refine qr 1 ?_ ?_
 refine qy (aI (a:=((k:Nat):Int)) (b:=1) kq oq oq) ?_ ?_ ?_
 refine qr 1 ?_ ?_
 refine qe ?_ ?_
 refine ab ⟨k+1,?_,?_,⟨⟨kq,kq,kq,trivial⟩,by simp [aG,aa.bel],by simp,kq,by simp⟩⟩
 · omega
 · refine ⟨by omega,fun i hi=>?_⟩
   rcases Nat.lt_succ_iff_lt_or_eq.1 hi with h|h
   · exact ha i h
   · subst h;assumption
 iterate 9 kernel_rfl
 refine qt (x:=(!((a.getD k [])==(b.getD k [])))) (congrArg not (beq_eq_false_iff_ne.2 hb3)) ?_ ?_
 refine qV 1 ?_ ?_
 refine qT ?_ ?_
 apply iR
 apply aR
 apply aR
 apply iR
 apply aR
 refine a7 (b:=false) (.inr rfl) kq ?_
 rotate_left
 iterate 20 kernel_rfl
 refine qf (decide_eq_false hb2) ?_ ?_
 refine a6 0 kq kq ?_
 refine af ?_
 refine af ?_
 refine aE ?_
 refine ab ?_
 refine qz [] ?_ ?_
 refine qV 1 ?_ ?_
 refine qT ?_ ?_
 refine a7 (b:=true) (.inr rfl) kq ?_
 rotate_left
 iterate 16 kernel_rfl
 refine qt (x:=(((a.length:Nat):Int) != ((b.length:Nat):Int))) (bne_iff_ne.2 hb1) ?_ ?_
 refine qV 1 ?_ ?_
 refine qT ?_ ?_
 apply aR
 refine a7 (b:=false) (.inr rfl) kq ?_
 rotate_left
 iterate 13 kernel_rfl
 all_goals
  first|exact pD aq|exact m7 oq (fun i hi=>ha i oq)|exact sM (i:=k) oq oq aq
noncomputable def c64:Code:=aT Tryz.f64
theorem nA (a b:List (List UInt8)) (hn:a.length<1000000000):ao cx 64 [.imm (a.map aa.str),.imm (b.map aa.str)] (.bool (a==b)):=by
 refine aC (cx:=cx) 26 0 [(ResultVar.tmp 4)] Tryz.func64 rfl rfl rfl rfl rfl zq ?_
 show wpA cx 26 0 (at_ c64 []) _ _ _
 refine qZ [(0,.imm (a.map aa.str)),(1,.imm (b.map aa.str))] [] ?_ ?_
 refine qU 1 [(0,.imm (a.map aa.str)),(1,.imm (b.map aa.str))] ?_ ?_
 refine az ?_ ?_
 refine qV 1 ?_ ?_
 refine qy (aw (l:=a) (enc:=aa.str) kq b5) ?_ ?_ ?_
 refine qr 1 ?_ ?_
 refine qy (aw (l:=b) (enc:=aa.str) kq b5) ?_ ?_ ?_
 refine qR 1 [(0,.imm (a.map aa.str)),(1,.imm (b.map aa.str)),(10,.bool (((a.length:Nat):Int) != ((b.length:Nat):Int)))] [] ?_ ?_
 by_cases hb1:((a.length:Nat):Int)=((b.length:Nat):Int)
 refine qf (x:=(((a.length:Nat):Int) != ((b.length:Nat):Int))) (bne_eq_false_iff_eq.2 hb1) ?_ ?_
 refine qK ?_ ?_
 refine qz [(0,.imm (a.map aa.str)),(1,.imm (b.map aa.str))] ?_ ?_
 refine az ?_ ?_
 refine qV 1 ?_ ?_
 refine qy (aw (l:=a) (enc:=aa.str) kq b5) ?_ ?_ ?_
 refine qR 1 [(0,.imm (a.map aa.str)),(1,.imm (b.map aa.str)),(12,nI a.length),(13,.int .i64 0)] [] ?_ ?_
 refine qB 0 ?_ ?_ ?_
 refine bn (σ:=Nat) (fun k=>[(0,.imm (a.map aa.str)),(1,.imm (b.map aa.str)),(12,.int .i64 ((a.length:Nat):Int)),(13,.int .i64 ((k:Nat):Int))]) (fun k=>[]) (fun k=>k≤a.length∧∀ i,i<k→a.getD i []=b.getD i []) (fun k=>a.length - k) 0 kq zq ⟨⟨kq,kq,kq,kq,trivial⟩,by simp [aG,aa.bel],by simp,kq,by simp⟩ ?_
 rintro k ⟨hk,ha⟩
 refine qW 1 [(0,.imm (a.map aa.str)),(1,.imm (b.map aa.str)),(12,nI a.length),(13,nI k),(14,.bool (decide (((k:Nat):Int)<((a.length:Nat):Int))))] [] ?_ ?_
 refine az ?_ ?_
 by_cases hb2:((k:Nat):Int)<((a.length:Nat):Int)
 refine qt (decide_eq_true hb2) ?_ ?_
 refine qK ?_ ?_
 refine qz [(0,.imm (a.map aa.str)),(1,.imm (b.map aa.str)),(12,nI a.length),(13,nI k)] ?_ ?_
 refine az ?_ ?_
 refine qB 1 ?_ ?_ ?_
 refine qU 2 [(0,.imm (a.map aa.str)),(1,.imm (b.map aa.str)),(5,nI k),(12,nI a.length),(13,nI k)] ?_ ?_
 refine az ?_ ?_
 refine b6 cxM kq ap (aU ?_)
 refine qu 2 ?_ ?_
 refine qd (aA (k:=.i64) (l:=a) (enc:=aa.str) (i:=((k:Nat):Int)) [] kq b5 ty9 (fun _=>rfl) oq oq) ?_ ?_ ?_ ?_
 refine qu 3 ?_ ?_
 refine qd (aA (k:=.i64) (l:=b) (enc:=aa.str) (i:=((k:Nat):Int)) [] kq b5 ty9 (fun _=>rfl) oq oq) ?_ ?_ ?_ ?_
 refine qu 2 ?_ ?_
 refine bG kq ⟨kq,?_⟩
 refine ab ?_
 refine qZ [(0,.imm (a.map aa.str)),(1,.imm (b.map aa.str)),(12,nI a.length),(13,nI k),(24,.bool (!((a.getD k [])==(b.getD k []))))] [] ?_ ?_
 by_cases hb3:(a.getD k [])=(b.getD k [])
 refine qf (x:=(!((a.getD k [])==(b.getD k [])))) (congrArg not (beq_iff_eq.2 hb3)) ?_ ?_
 refine qk ?_ ?_
 refine ah ?_
 refine ab ?_
 refine qz [(0,.imm (a.map aa.str)),(1,.imm (b.map aa.str)),(12,nI a.length),(13,nI k)] ?_ ?_
 refine qo ?_ ?_
 refine qy (aI (a:=((k:Nat):Int)) (b:=1) kq oq oq) ?_ ?_ ?_
 refine qr 1 ?_ ?_
 refine qe ?_ ?_
 refine ab ⟨k+1,?_,?_,⟨⟨kq,kq,kq,kq,trivial⟩,by simp [aG,aa.bel],by simp,kq,by simp⟩⟩
 · omega
 · refine ⟨by omega,fun i hi=>?_⟩
   rcases Nat.lt_succ_iff_lt_or_eq.1 hi with h|h
   · exact ha i h
   · subst h;assumption
 iterate 8 kernel_rfl
 refine qt (x:=(!((a.getD k [])==(b.getD k [])))) (congrArg not (beq_eq_false_iff_ne.2 hb3)) ?_ ?_
 refine qV 1 ?_ ?_
 refine qT ?_ ?_
 apply iR
 apply aR
 apply aR
 apply iR
 apply aR
 refine a7 (b:=false) (.inr rfl) kq ?_
 rotate_left
 iterate 21 kernel_rfl
 refine qf (decide_eq_false hb2) ?_ ?_
 refine a6 0 kq kq ?_
 refine af ?_
 refine af ?_
 refine aE ?_
 refine ab ?_
 refine qz [] ?_ ?_
 refine qV 1 ?_ ?_
 refine qT ?_ ?_
 refine a7 (b:=true) (.inr rfl) kq ?_
 rotate_left
 iterate 16 kernel_rfl
 refine qt (x:=(((a.length:Nat):Int) != ((b.length:Nat):Int))) (bne_iff_ne.2 hb1) ?_ ?_
 refine qV 1 ?_ ?_
 refine qT ?_ ?_
 apply aR
 refine a7 (b:=false) (.inr rfl) kq ?_
 rotate_left
 iterate 13 kernel_rfl
 all_goals
  first|exact pD aq|exact m7 oq (fun i hi=>ha i oq)|exact sM (i:=k) oq oq aq
noncomputable def CW:Code:=aT Tryz.f143
theorem jx {p:Prop} (h:p:=by simp [Ty.v]):p:=h
theorem oS (a b:List Ty) (f:Nat) (p:Ty→Ty→Bool) (hc:∀ i,i<a.length→i<b.length→ao cx f [(a.getD i Ty.zero).v,(b.getD i Ty.zero).v] (.bool (p (a.getD i Ty.zero) (b.getD i Ty.zero)))) (hn:a.length<1000000000):ao cx 143 [.imm (a.map Ty.enc),.imm (b.map Ty.enc),.fn (.func f) [] []] (.bool (bw p a b)):=by
 refine aC (cx:=cx) 32 0 [(ResultVar.tmp 6)] Tryz.func143 rfl rfl rfl rfl rfl zq ?_
 show wpA cx 32 0 (at_ CW []) _ _ _
 refine qZ [(0,.imm (a.map Ty.enc)),(1,.imm (b.map Ty.enc)),(2,.fn (.func f) [] [])] [] ?_ ?_
 refine qU 1 [(0,.imm (a.map Ty.enc)),(1,.imm (b.map Ty.enc)),(2,.fn (.func f) [] [])] ?_ ?_
 refine az ?_ ?_
 refine qV 1 ?_ ?_
 refine qy (aw (l:=a) (enc:=Ty.enc) kq mC) ?_ ?_ ?_
 refine qr 1 ?_ ?_
 refine qy (aw (l:=b) (enc:=Ty.enc) kq mC) ?_ ?_ ?_
 refine qR 1 [(0,.imm (a.map Ty.enc)),(1,.imm (b.map Ty.enc)),(2,.fn (.func f) [] []),(14,.bool (((a.length:Nat):Int) != ((b.length:Nat):Int)))] [] ?_ ?_
 by_cases hb1:((a.length:Nat):Int)=((b.length:Nat):Int)
 refine qf (x:=(((a.length:Nat):Int) != ((b.length:Nat):Int))) (bne_eq_false_iff_eq.2 hb1) ?_ ?_
 refine qK ?_ ?_
 refine qz [(0,.imm (a.map Ty.enc)),(1,.imm (b.map Ty.enc)),(2,.fn (.func f) [] [])] ?_ ?_
 refine az ?_ ?_
 refine qV 1 ?_ ?_
 refine qy (aw (l:=a) (enc:=Ty.enc) kq mC) ?_ ?_ ?_
 refine qR 1 [(1,.imm (b.map Ty.enc)),(2,.fn (.func f) [] []),(15,.imm (a.map Ty.enc)),(16,nI a.length),(17,.int .i64 0)] [] ?_ ?_
 refine qB 0 ?_ ?_ ?_
 refine bn (σ:=Nat) (fun k=>[(1,.imm (b.map Ty.enc)),(2,.fn (.func f) [] []),(15,.imm (a.map Ty.enc)),(16,.int .i64 ((a.length:Nat):Int)),(17,.int .i64 ((k:Nat):Int))]) (fun k=>[]) (fun k=>k≤a.length∧∀ i,i<k→p (a.getD i Ty.zero) (b.getD i Ty.zero)=true) (fun k=>a.length - k) 0 kq zq ⟨⟨kq,kq,kq,kq,kq,trivial⟩,by simp [aG,aa.bel],by simp,kq,by simp⟩ ?_
 rintro k ⟨hk,ha⟩
 refine qW 1 [(1,.imm (b.map Ty.enc)),(2,.fn (.func f) [] []),(15,.imm (a.map Ty.enc)),(16,nI a.length),(17,nI k),(18,.bool (decide (((k:Nat):Int)<((a.length:Nat):Int))))] [] ?_ ?_
 refine az ?_ ?_
 by_cases hb2:((k:Nat):Int)<((a.length:Nat):Int)
 refine qt (decide_eq_true hb2) ?_ ?_
 refine qK ?_ ?_
 refine qz [(1,.imm (b.map Ty.enc)),(2,.fn (.func f) [] []),(15,.imm (a.map Ty.enc)),(16,nI a.length),(17,nI k)] ?_ ?_
 refine az ?_ ?_
 refine qB 1 ?_ ?_ ?_
 refine qV 1 ?_ ?_
 refine qy ((aA (k:=.i64) (l:=a) (enc:=Ty.enc) (i:=((k:Nat):Int)) Ty.zero kq mC xD lj oq oq).trans (congrArg (fun cs=>some (aa.pimm cs 0,_)) (gZ (a.getD k Ty.zero)))) ?_ ?_ ?_
 refine qR 4 [(1,.imm (b.map Ty.enc)),(2,.fn (.func f) [] []),(7,nI k),(8,.ptr 0 0),(15,.imm (a.map Ty.enc)),(16,nI a.length),(17,nI k)] [(a.getD k Ty.zero).bx] ?_ ?_
 refine qV 2 ?_ ?_
 refine qy ((aA (k:=.i64) (l:=b) (enc:=Ty.enc) (i:=((k:Nat):Int)) Ty.zero kq mC xD lj oq oq).trans (congrArg (fun cs=>some (aa.pimm cs 0,_)) (gZ (b.getD k Ty.zero)))) ?_ ?_ ?_
 refine qR 3 [(1,.imm (b.map Ty.enc)),(2,.fn (.func f) [] []),(8,.ptr 0 0),(9,.ptr 1 0),(15,.imm (a.map Ty.enc)),(16,nI a.length),(17,nI k)] [(a.getD k Ty.zero).bx,(b.getD k Ty.zero).bx] ?_ ?_
 refine qV 3 ?_ ?_
 refine bj (args:=[.agg [.int .i64 ((a.getD k Ty.zero).kind),.str (a.getD k Ty.zero).name,.int .i64 ((a.getD k Ty.zero).n),.imm ((a.getD k Ty.zero).names.map aa.str),.imm ((a.getD k Ty.zero).kids.map Ty.enc)],.agg [.int .i64 ((b.getD k Ty.zero).kind),.str (b.getD k Ty.zero).name,.int .i64 ((b.getD k Ty.zero).n),.imm ((b.getD k Ty.zero).names.map aa.str),.imm ((b.getD k Ty.zero).kids.map Ty.enc)]]) kq kq kq kq (hc k oq oq) jx jx jx ?_
 refine qR 1 [(1,.imm (b.map Ty.enc)),(2,.fn (.func f) [] []),(15,.imm (a.map Ty.enc)),(16,nI a.length),(17,nI k),(30,.bool (!(p (a.getD k Ty.zero) (b.getD k Ty.zero))))] [(a.getD k Ty.zero).bx,(b.getD k Ty.zero).bx] ?_ ?_
 by_cases hb3:(p (a.getD k Ty.zero) (b.getD k Ty.zero))=true
 refine qf (x:=(!(p (a.getD k Ty.zero) (b.getD k Ty.zero)))) (congrArg not (hb3)) ?_ ?_
 refine qk ?_ ?_
 refine ah ?_
 refine ab ?_
 refine qz [(1,.imm (b.map Ty.enc)),(2,.fn (.func f) [] []),(15,.imm (a.map Ty.enc)),(16,nI a.length),(17,nI k)] ?_ ?_
 refine qo ?_ ?_
 refine qy (aI (a:=((k:Nat):Int)) (b:=1) kq oq oq) ?_ ?_ ?_
 refine qr 1 ?_ ?_
 refine qe ?_ ?_
 refine ab ⟨k+1,?_,?_,⟨⟨kq,kq,kq,kq,kq,trivial⟩,by simp [aG,aa.bel],by simp,kq,by simp⟩⟩
 · omega
 · refine ⟨by omega,fun i hi=>?_⟩
   rcases Nat.lt_succ_iff_lt_or_eq.1 hi with h|h
   · exact ha i h
   · subst h;assumption
 iterate 8 kernel_rfl
 refine qt (x:=(!(p (a.getD k Ty.zero) (b.getD k Ty.zero)))) (congrArg not (Bool.eq_false_iff.2 hb3)) ?_ ?_
 refine qV 1 ?_ ?_
 refine qT ?_ ?_
 apply iR
 apply aR
 apply aR
 apply iR
 apply aR
 refine a7 (b:=false) (.inr rfl) kq ?_
 rotate_left
 iterate 19 kernel_rfl
 refine qf (decide_eq_false hb2) ?_ ?_
 refine a6 0 kq kq ?_
 refine af ?_
 refine af ?_
 refine aE ?_
 refine ab ?_
 refine qz [] ?_ ?_
 refine qV 1 ?_ ?_
 refine qT ?_ ?_
 refine a7 (b:=true) (.inr rfl) kq ?_
 rotate_left
 iterate 16 kernel_rfl
 refine qt (x:=(((a.length:Nat):Int) != ((b.length:Nat):Int))) (bne_iff_ne.2 hb1) ?_ ?_
 refine qV 1 ?_ ?_
 refine qT ?_ ?_
 apply aR
 refine a7 (b:=false) (.inr rfl) kq ?_
 rotate_left
 iterate 13 kernel_rfl
 all_goals
  first|exact (cl p a b oq).symm|exact (bH p Ty.zero Ty.zero a b oq (fun i hi=>ha i oq)).symm|exact (cN p Ty.zero Ty.zero a b k oq oq (Bool.eq_false_iff.2 aq)).symm
noncomputable def c58:Code:=aT Tryz.f58
theorem pP (a b:Ty) (hs:a.sz<100000000):ao cx 58 [Ty.v a,Ty.v b] (.bool (a.beq b)):=by
 induction hN:a.sz using Nat.strongRecOn generalizing a b with|_ N ih =>
 have hc:∀ i,i<a.kids.length→i<b.kids.length→ao cx 58 [(a.kids.getD i Ty.zero).v,(b.kids.getD i Ty.zero).v] (.bool ((a.kids.getD i Ty.zero).beq (b.kids.getD i Ty.zero))):=fun i h1 _=>ih _ (by rw [← hN];exact l3 a i h1) _ _ (Nat.lt_trans (l3 a i h1) hs) rfl
 have hz1:=pg a
 have hz2:=tb a
 refine aC (cx:=cx) 38 0 [(ResultVar.tmp 4)] Tryz.func58 rfl rfl rfl rfl rfl zq ?_
 show wpA cx 38 0 (at_ c58 []) _ _ _
 refine qZ [(0,Ty.v a),(1,Ty.v b)] [] ?_ ?_
 refine qW 3 [(2,.ptr 0 0),(3,.ptr 1 0)] [a.bx,b.bx] ?_ ?_
 refine qV 6 ?_ ?_
 by_cases hb1:(a.kind)=(b.kind)
 refine qm [9,10] (beq_iff_eq.2 hb1) ?_ ?_
 refine qr 7 ?_ ?_
 by_cases hb2:a.name=b.name
 refine qm [15,16,17] (beq_iff_eq.2 hb2) ?_ ?_
 refine qr 7 ?_ ?_
 by_cases hb3:(a.n)=(b.n)
 refine qm [22,23,24] (beq_iff_eq.2 hb3) ?_ ?_
 refine qr 4 ?_ ?_
 refine bj (args:=[.imm (a.names.map aa.str),.imm (b.names.map aa.str)]) kq kq kq kq (nA a.names b.names oq) jx jx jx ?_
 refine qr 2 ?_ ?_
 by_cases hb4:(a.names==b.names)=true
 refine qm [29,30,31] (hb4) ?_ ?_
 refine qr 4 ?_ ?_
 refine bj (args:=[.imm (a.kids.map Ty.enc),.imm (b.kids.map Ty.enc),.fn (.func 58) [] []]) kq kq kq kq (oS a.kids b.kids 58 Ty.beq (hc) oq) jx jx jx ?_
 refine qX 2 ?_ ?_
 refine a7 (b:=(bw Ty.beq a.kids b.kids)) (.inr rfl) kq ?_
 · simp [beq_eq, *]
 iterate 3 kernel_rfl
 refine qm [29,30,31] (Bool.eq_false_iff.2 hb4) ?_ ?_
 refine qX 7 ?_ ?_
 refine a7 (b:=false) (.inr rfl) kq ?_
 · simp [beq_eq, *]
 iterate 5 kernel_rfl
 refine qm [22,23,24] (beq_eq_false_iff_ne.2 hb3) ?_ ?_
 refine qX 14 ?_ ?_
 refine a7 (b:=false) (.inr rfl) kq ?_
 · simp [beq_eq, *]
 iterate 4 kernel_rfl
 refine qm [15,16,17] (beq_eq_false_iff_ne.2 hb2) ?_ ?_
 refine qX 21 ?_ ?_
 refine a7 (b:=false) (.inr rfl) kq ?_
 · simp [beq_eq, *]
 iterate 4 kernel_rfl
 refine qm [9,10] (beq_eq_false_iff_ne.2 hb1) ?_ ?_
 refine qX 28 ?_ ?_
 refine a7 (b:=false) (.inr rfl) kq ?_
 · simp [beq_eq, *]
 iterate 5 kernel_rfl
theorem xF {a b:Ty} {v:Bool} (h:v=((a.kind==b.kind) && ((a.name==b.name) && ((a.n==b.n) && ((a.names==b.names) && bw Ty.beq a.kids b.kids))))):v=a.beq b:=by rw [beq_eq];exact h
noncomputable def c95:Code:=aT Tryz.f95
theorem gP (a b:Ty) (hs:a.sz<100000000):ao cx 95 [Ty.v a,Ty.v b] (.bool (a.beq b)):=by
 induction hN:a.sz using Nat.strongRecOn generalizing a b with|_ N ih =>
 have hc:∀ i,i<a.kids.length→i<b.kids.length→ao cx 95 [(a.kids.getD i Ty.zero).v,(b.kids.getD i Ty.zero).v] (.bool ((a.kids.getD i Ty.zero).beq (b.kids.getD i Ty.zero))):=fun i h1 _=>ih _ (by rw [← hN];exact l3 a i h1) _ _ (Nat.lt_trans (l3 a i h1) hs) rfl
 have hz1:=pg a
 have hz2:=tb a
 refine aC (cx:=cx) 65 0 [(ResultVar.tmp 4)] Tryz.func95 rfl rfl rfl rfl rfl zq ?_
 show wpA cx 65 0 (at_ c95 []) _ _ _
 refine qZ [(0,Ty.v a),(1,Ty.v b)] [] ?_ ?_
 refine qW 3 [(2,.ptr 0 0),(3,.ptr 1 0)] [a.bx,b.bx] ?_ ?_
 refine qV 4 ?_ ?_
 refine bj (args:=[.imm (a.names.map aa.str),.imm (b.names.map aa.str)]) kq kq kq kq (cX a.names b.names oq) jx jx jx ?_
 refine qR 1 [(2,.ptr 0 0),(3,.ptr 1 0),(5,.bool (a.names==b.names))] [a.bx,b.bx] ?_ ?_
 refine az ?_ ?_
 refine qV 3 ?_ ?_
 by_cases hb1:(a.names==b.names)=true
 refine qm [14,15] (x:=(!(a.names==b.names))) (congrArg not (hb1)) ?_ ?_
 refine qr 7 ?_ ?_
 by_cases hb2:(a.kind)=(b.kind)
 refine qm [20,21,22] (x:=((a.kind) != (b.kind))) (bne_eq_false_iff_eq.2 hb2) ?_ ?_
 refine qr 7 ?_ ?_
 by_cases hb3:a.name=b.name
 refine qm [27,28,29] (x:=(!(a.name==b.name))) (congrArg not (beq_iff_eq.2 hb3)) ?_ ?_
 refine qr 7 ?_ ?_
 by_cases hb4:(a.n)=(b.n)
 refine qm [34,35,36] (x:=((a.n) != (b.n))) (bne_eq_false_iff_eq.2 hb4) ?_ ?_
 refine qr 2 ?_ ?_
 refine qy (aw (l:=a.kids) (enc:=Ty.enc) kq mC) ?_ ?_ ?_
 refine qr 2 ?_ ?_
 refine qy (aw (l:=b.kids) (enc:=Ty.enc) kq mC) ?_ ?_ ?_
 refine qR 2 [(2,.ptr 0 0),(3,.ptr 1 0),(44,.bool (((a.kids.length:Nat):Int) != ((b.kids.length:Nat):Int)))] [a.bx,b.bx] ?_ ?_
 by_cases hb5:((a.kids.length:Nat):Int)=((b.kids.length:Nat):Int)
 refine qf (x:=(((a.kids.length:Nat):Int) != ((b.kids.length:Nat):Int))) (bne_eq_false_iff_eq.2 hb5) ?_ ?_
 refine qK ?_ ?_
 refine qz [(2,.ptr 0 0),(3,.ptr 1 0)] ?_ ?_
 refine az ?_ ?_
 refine qU 1 [(2,.ptr 0 0),(3,.ptr 1 0),(6,.int .i64 0)] ?_ ?_
 refine qB 0 ?_ ?_ ?_
 refine bn (σ:=Nat) (fun k=>[(2,.ptr 0 0),(3,.ptr 1 0),(6,.int .i64 ((k:Nat):Int))]) (fun k=>[a.bx,b.bx]) (fun k=>k≤a.kids.length∧∀ i,i<k→(a.kids.getD i Ty.zero).beq (b.kids.getD i Ty.zero)=true) (fun k=>a.kids.length - k) 0 kq zq ⟨⟨kq,kq,kq,trivial⟩,by simp [aG,aa.bel],by simp,kq,by simp [ai.belO]⟩ ?_
 rintro k ⟨hk,ha⟩
 refine az ?_ ?_
 refine qV 3 ?_ ?_
 refine qy (aw (l:=a.kids) (enc:=Ty.enc) kq mC) ?_ ?_ ?_
 refine qR 1 [(2,.ptr 0 0),(3,.ptr 1 0),(6,nI k),(49,.bool (decide (((k:Nat):Int)<((a.kids.length:Nat):Int))))] [a.bx,b.bx] ?_ ?_
 by_cases hb6:((k:Nat):Int)<((a.kids.length:Nat):Int)
 refine qt (decide_eq_true hb6) ?_ ?_
 refine qK ?_ ?_
 refine qz [(2,.ptr 0 0),(3,.ptr 1 0),(6,nI k)] ?_ ?_
 refine az ?_ ?_
 refine qB 1 ?_ ?_ ?_
 refine az ?_ ?_
 refine b6 cxM kq ap (aU ?_)
 refine qu 3 ?_ ?_
 refine qd ((aA (k:=.i64) (l:=a.kids) (enc:=Ty.enc) (i:=((k:Nat):Int)) Ty.zero kq mC xD lj oq oq).trans (congrArg (fun cs=>some (aa.pimm cs 0,_)) (gZ (a.kids.getD k Ty.zero)))) ?_ ?_ ?_ ?_
 refine qu 4 ?_ ?_
 refine qd ((aA (k:=.i64) (l:=b.kids) (enc:=Ty.enc) (i:=((k:Nat):Int)) Ty.zero kq mC xD lj oq oq).trans (congrArg (fun cs=>some (aa.pimm cs 0,_)) (gZ (b.kids.getD k Ty.zero)))) ?_ ?_ ?_ ?_
 refine qu 1 ?_ ?_
 refine cc (args:=[.agg [.int .i64 ((a.kids.getD k Ty.zero).kind),.str (a.kids.getD k Ty.zero).name,.int .i64 ((a.kids.getD k Ty.zero).n),.imm ((a.kids.getD k Ty.zero).names.map aa.str),.imm ((a.kids.getD k Ty.zero).kids.map Ty.enc)],.agg [.int .i64 ((b.kids.getD k Ty.zero).kind),.str (b.kids.getD k Ty.zero).name,.int .i64 ((b.kids.getD k Ty.zero).n),.imm ((b.kids.getD k Ty.zero).names.map aa.str),.imm ((b.kids.getD k Ty.zero).kids.map Ty.enc)]]) kq kq kq kq kq (hc k oq oq) (by intro _;simp [Ty.v]) jx jx ?_
 refine qu 1 ?_ ?_
 refine bG kq ⟨kq,?_⟩
 refine ab ?_
 refine qZ [(2,.ptr 0 0),(3,.ptr 1 0),(6,nI k),(7,.bool ((a.kids.getD k Ty.zero).beq (b.kids.getD k Ty.zero)))] [a.bx,b.bx] ?_ ?_
 refine qU 2 [(2,.ptr 0 0),(3,.ptr 1 0),(6,nI k),(64,.bool (!((a.kids.getD k Ty.zero).beq (b.kids.getD k Ty.zero))))] ?_ ?_
 by_cases hb7:((a.kids.getD k Ty.zero).beq (b.kids.getD k Ty.zero))=true
 refine qf (x:=(!((a.kids.getD k Ty.zero).beq (b.kids.getD k Ty.zero)))) (congrArg not (hb7)) ?_ ?_
 refine qk ?_ ?_
 refine ah ?_
 refine ab ?_
 refine qz [(2,.ptr 0 0),(3,.ptr 1 0),(6,nI k)] ?_ ?_
 refine qo ?_ ?_
 refine qr 1 ?_ ?_
 refine qy (aI (a:=((k:Nat):Int)) (b:=1) kq oq oq) ?_ ?_ ?_
 refine qr 1 ?_ ?_
 refine qe ?_ ?_
 refine ab ⟨k+1,?_,?_,⟨⟨kq,kq,kq,trivial⟩,by simp [aG,aa.bel],by simp,kq,by simp [ai.belO]⟩⟩
 · omega
 · refine ⟨by omega,fun i hi=>?_⟩
   rcases Nat.lt_succ_iff_lt_or_eq.1 hi with h|h
   · exact ha i h
   · subst h;assumption
 iterate 9 kernel_rfl
 refine qt (x:=(!((a.kids.getD k Ty.zero).beq (b.kids.getD k Ty.zero)))) (congrArg not (Bool.eq_false_iff.2 hb7)) ?_ ?_
 refine qV 1 ?_ ?_
 refine qT ?_ ?_
 apply iR
 apply aR
 apply aR
 apply iR
 apply aR
 refine a7 (b:=false) (.inr rfl) kq ?_
 rotate_left
 iterate 22 kernel_rfl
 refine qf (decide_eq_false hb6) ?_ ?_
 refine a6 0 kq kq ?_
 refine af ?_
 refine af ?_
 refine aE ?_
 refine ab ?_
 refine qz [] ?_ ?_
 refine qV 1 ?_ ?_
 refine qT ?_ ?_
 refine a7 (b:=true) (.inr rfl) kq ?_
 rotate_left
 iterate 16 kernel_rfl
 refine qt (x:=(((a.kids.length:Nat):Int) != ((b.kids.length:Nat):Int))) (bne_iff_ne.2 hb5) ?_ ?_
 refine qV 1 ?_ ?_
 refine qT ?_ ?_
 apply aR
 refine a7 (b:=false) (.inr rfl) kq ?_
 rotate_left
 iterate 11 kernel_rfl
 refine qm [34,35,36] (x:=((a.n) != (b.n))) (bne_iff_ne.2 hb4) ?_ ?_
 refine qR 8 [(2,.ptr 0 0),(3,.ptr 1 0),(44,.bool true)] [a.bx,b.bx] ?_ ?_
 refine cU kq kq ?_
 refine qV 1 ?_ ?_
 refine qT ?_ ?_
 apply aR
 refine a7 (b:=false) (.inr rfl) kq ?_
 rotate_left
 iterate 6 kernel_rfl
 refine qm [27,28,29] (x:=(!(a.name==b.name))) (congrArg not (beq_eq_false_iff_ne.2 hb3)) ?_ ?_
 refine qR 15 [(2,.ptr 0 0),(3,.ptr 1 0),(44,.bool true)] [a.bx,b.bx] ?_ ?_
 refine cU kq kq ?_
 refine qV 1 ?_ ?_
 refine qT ?_ ?_
 apply aR
 refine a7 (b:=false) (.inr rfl) kq ?_
 rotate_left
 iterate 6 kernel_rfl
 refine qm [20,21,22] (x:=((a.kind) != (b.kind))) (bne_iff_ne.2 hb2) ?_ ?_
 refine qR 22 [(2,.ptr 0 0),(3,.ptr 1 0),(44,.bool true)] [a.bx,b.bx] ?_ ?_
 refine cU kq kq ?_
 refine qV 1 ?_ ?_
 refine qT ?_ ?_
 apply aR
 refine a7 (b:=false) (.inr rfl) kq ?_
 rotate_left
 iterate 6 kernel_rfl
 refine qm [14,15] (x:=(!(a.names==b.names))) (congrArg not (Bool.eq_false_iff.2 hb1)) ?_ ?_
 refine qR 29 [(2,.ptr 0 0),(3,.ptr 1 0),(44,.bool true)] [a.bx,b.bx] ?_ ?_
 refine cU kq kq ?_
 refine qV 1 ?_ ?_
 refine qT ?_ ?_
 apply aR
 refine a7 (b:=false) (.inr rfl) kq ?_
 rotate_left
 iterate 10 kernel_rfl
 all_goals
  refine xF ?_
  first|(simp only [cl Ty.beq a.kids b.kids oq,Bool.and_false];done)|(rw [bH Ty.beq Ty.zero Ty.zero a.kids b.kids oq (fun i hi=>ha i oq)];simp_all;done)|(rw [cN Ty.beq Ty.zero Ty.zero a.kids b.kids k oq oq (Bool.eq_false_iff.2 aq)];simp;done)|(simp_all;done)
end Go.Proofs.YtcpklndelobigaaGreatDoor
