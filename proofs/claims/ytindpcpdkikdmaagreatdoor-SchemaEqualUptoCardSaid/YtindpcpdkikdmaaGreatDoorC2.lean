/- Equal of types in both packages. No condition. -/
import Derived.Test.YtindpcpdkikdmaaGreatDoorC1
set_option linter.all false
namespace Go.Proofs.YtindpcpdkikdmaaGreatDoor
open Go.Proofs.YtindpcpdkikdmaaGreatDoor.Abs
set_option maxRecDepth 20000
set_option maxHeartbeats 4000000
theorem strs_true {a b:List (List UInt8)} (hl:a.length=b.length) (h:∀ i,i<a.length→a.getD i []=b.getD i []):true=(a==b):=by
 rw [← zipAll_eq,zipAll_true (·==·) [] [] a b hl (fun i hi=>by simpa using h i hi)]
theorem strs_at {a b:List (List UInt8)} {i:Nat} (hl:a.length=b.length) (hi:i<a.length) (h:¬ a.getD i []=b.getD i []):false=(a==b):=by
 rw [← zipAll_eq,zipAll_at (·==·) [] [] a b i hl hi (by simpa using h)]
theorem strs_len {a b:List (List UInt8)} (hl:¬ ((a.length:Nat):Int)=((b.length:Nat):Int)):false=(a==b):=by
 rw [← zipAll_eq,zipAll_len _ a b oq]
noncomputable def c40:Code:=bodyOf Tryz.f40
theorem sameTexts_spec (a b:List (List UInt8)) (hn:a.length<1000000000):CallsP cx 40 [.imm (a.map AVal.str),.imm (b.map AVal.str)] (.bool (a==b)):=by
 refine func_intro (cx:=cx) 26 0 [(ResultVar.tmp 4)] Tryz.func40 rfl rfl rfl rfl rfl zq ?_
 show wpA cx 26 0 (at_ c40 []) _ _ _
 refine wSt [0,1] [(0,.imm (a.map AVal.str)),(1,.imm (b.map AVal.str))] [] kq kq ?_
 refine wSeq kq ?_
 refine wOrd kq (vstart ?_)
 refine vrun 1 kq ?_
 refine vend kq ?_
 refine AThen_normal ?_
 refine wSt [0,1] [(0,.imm (a.map AVal.str)),(1,.imm (b.map AVal.str))] [] kq kq ?_
 refine wSeq kq ?_
 refine wSeq kq ?_
 refine wOrd kq (vstart ?_)
 refine vrun 1 kq ?_
 refine vsym kq kq (o_lenmap (l:=a) (enc:=AVal.str) kq ty34) ?_
 refine vrun 1 kq ?_
 refine vsym kq kq (o_lenmap (l:=b) (enc:=AVal.str) kq ty34) ?_
 refine vrun 1 kq ?_
 refine vend kq ?_
 refine AThen_normal ?_
 refine wSt [0,1,10] [(0,.imm (a.map AVal.str)),(1,.imm (b.map AVal.str)),(10,.bool (((a.length:Nat):Int) != ((b.length:Nat):Int)))] [] kq kq ?_
 by_cases hb1:((a.length:Nat):Int)=((b.length:Nat):Int)
 · refine wIfF kq (Eq.trans (b:=.bool (((a.length:Nat):Int) != ((b.length:Nat):Int))) kq (congrArg AVal.bool (bne_eq_false_iff_eq.2 hb1))) ?_
   refine wSkip kq ?_
   refine AThen_normal ?_
   refine wSt [0,1] [(0,.imm (a.map AVal.str)),(1,.imm (b.map AVal.str))] [] kq kq ?_
   refine wSeq kq ?_
   refine wSeq kq ?_
   refine wOrd kq (vstart ?_)
   refine vrun 1 kq ?_
   refine vend kq ?_
   refine AThen_normal ?_
   refine wSt [0,1,5] [(0,.imm (a.map AVal.str)),(1,.imm (b.map AVal.str)),(5,.int .i64 0)] [] kq kq ?_
   refine wBlock 0 kq kq ?_
   refine wLoop (σ:=Nat) (fun k=>[(0,.imm (a.map AVal.str)),(1,.imm (b.map AVal.str)),(5,.int .i64 ((k:Nat):Int))]) (fun k=>[]) (fun k=>k≤a.length∧∀ i,i<k→a.getD i []=b.getD i []) (fun k=>a.length - k) 0 kq zq ⟨⟨kq,kq,kq,trivial⟩,by simp [BelL,AVal.bel],by simp,kq,by simp⟩ ?_
   rintro k ⟨hk,ha⟩
   refine wSeq kq ?_
   refine wSeq kq ?_
   refine wOrd kq (vstart ?_)
   refine vrun 2 kq ?_
   refine vsym kq kq (o_lenmap (l:=a) (enc:=AVal.str) kq ty34) ?_
   refine vrun 1 kq ?_
   refine vend kq ?_
   refine AThen_normal ?_
   refine wSt [0,1,5,14] [(0,.imm (a.map AVal.str)),(1,.imm (b.map AVal.str)),(5,.int .i64 ((k:Nat):Int)),(14,.bool (decide (((k:Nat):Int)<((a.length:Nat):Int))))] [] kq kq ?_
   by_cases hb2:((k:Nat):Int)<((a.length:Nat):Int)
   · refine wIfT kq (Eq.trans (b:=.bool (decide (((k:Nat):Int)<((a.length:Nat):Int)))) kq (congrArg AVal.bool (decide_eq_true hb2))) ?_
     refine wSkip kq ?_
     refine AThen_normal ?_
     refine wSt [0,1,5] [(0,.imm (a.map AVal.str)),(1,.imm (b.map AVal.str)),(5,.int .i64 ((k:Nat):Int))] [] kq kq ?_
     refine wSeq kq ?_
     refine wBlock 1 kq kq ?_
     refine wSeq kq ?_
     refine wDrw cxM kq extThen (dstart ?_)
     refine drun 2 kq ?_
     refine dsym kq kq kq (o_ixmap (k:=.i64) (l:=a) (enc:=AVal.str) (i:=((k:Nat):Int)) [] kq ty34 ty9 (fun _=>rfl) oq oq) ?_
     refine drun 3 kq ?_
     refine dsym kq kq kq (o_ixmap (k:=.i64) (l:=b) (enc:=AVal.str) (i:=((k:Nat):Int)) [] kq ty34 ty9 (fun _=>rfl) oq oq) ?_
     refine drun 2 kq ?_
     refine dend kq ⟨kq,?_⟩
     refine AThen_normal ?_
     refine wSt [0,1,5,25] [(0,.imm (a.map AVal.str)),(1,.imm (b.map AVal.str)),(5,.int .i64 ((k:Nat):Int)),(25,.bool (!((a.getD k [])==(b.getD k []))))] [] kq kq ?_
     by_cases hb3:(a.getD k [])=(b.getD k [])
     · refine wIfF kq (Eq.trans (b:=.bool (!((a.getD k [])==(b.getD k [])))) kq (congrArg AVal.bool (congrArg not (beq_iff_eq.2 hb3)))) ?_
       refine wSkip kq ?_
       refine AIn_normal ?_
       refine AThen_normal ?_
       refine wSt [0,1,5] [(0,.imm (a.map AVal.str)),(1,.imm (b.map AVal.str)),(5,.int .i64 ((k:Nat):Int))] [] kq kq ?_
       refine wOrd kq (vstart ?_)
       refine vrun 1 kq ?_
       refine vsym kq kq (o_add (a:=((k:Nat):Int)) (b:=1) kq oq oq) ?_
       refine vrun 1 kq ?_
       refine vend kq ?_
       refine AThen_normal ⟨k+1,?_,?_,⟨⟨kq,kq,kq,trivial⟩,by simp [BelL,AVal.bel],by simp,kq,by simp⟩⟩
       · omega
       · refine ⟨by omega,fun i hi=>?_⟩
         rcases Nat.lt_succ_iff_lt_or_eq.1 hi with h|h
         · exact ha i h
         · subst h;assumption
     · refine wIfT kq (Eq.trans (b:=.bool (!((a.getD k [])==(b.getD k [])))) kq (congrArg AVal.bool (congrArg not (beq_eq_false_iff_ne.2 hb3)))) ?_
       refine wSeq kq ?_
       refine wOrd kq (vstart ?_)
       refine vrun 1 kq ?_
       refine vend kq ?_
       refine AThen_normal ?_
       refine wSt [4] [(4,.bool false)] [] kq kq ?_
       refine wRet kq ?_
       refine AIn_ret ?_
       refine AThen_ret ?_
       refine AThen_ret ?_
       refine AIn_ret ?_
       refine AThen_ret ?_
       refine leafB (b:=false) (.inr rfl) kq ?_
       first|exact strs_len aq|exact strs_true oq (fun i hi=>ha i oq)|exact strs_at (i:=k) oq oq aq
   · refine wIfF kq (Eq.trans (b:=.bool (decide (((k:Nat):Int)<((a.length:Nat):Int)))) kq (congrArg AVal.bool (decide_eq_false hb2))) ?_
     refine wExit 0 kq kq ?_
     refine AThen_exit ?_
     refine AThen_exit ?_
     refine AIn_exit ?_
     refine AThen_normal ?_
     refine wSt [] [] [] kq kq ?_
     refine wSeq kq ?_
     refine wOrd kq (vstart ?_)
     refine vrun 1 kq ?_
     refine vend kq ?_
     refine AThen_normal ?_
     refine wSt [4] [(4,.bool true)] [] kq kq ?_
     refine wRet kq ?_
     refine leafB (b:=true) (.inr rfl) kq ?_
     first|exact strs_len aq|exact strs_true oq (fun i hi=>ha i oq)|exact strs_at (i:=k) oq oq aq
 · refine wIfT kq (Eq.trans (b:=.bool (((a.length:Nat):Int) != ((b.length:Nat):Int))) kq (congrArg AVal.bool (bne_iff_ne.2 hb1))) ?_
   refine wSeq kq ?_
   refine wOrd kq (vstart ?_)
   refine vrun 1 kq ?_
   refine vend kq ?_
   refine AThen_normal ?_
   refine wSt [4] [(4,.bool false)] [] kq kq ?_
   refine wRet kq ?_
   refine AThen_ret ?_
   refine leafB (b:=false) (.inr rfl) kq ?_
   first|exact strs_len aq|exact strs_true oq (fun i hi=>ha i oq)|exact strs_at (i:=k) oq oq aq
noncomputable def c32:Code:=bodyOf Tryz.f32
theorem slEqual_spec (a b:List (List UInt8)) (hn:a.length<1000000000):CallsP cx 32 [.imm (a.map AVal.str),.imm (b.map AVal.str)] (.bool (a==b)):=by
 refine func_intro (cx:=cx) 26 0 [(ResultVar.tmp 4)] Tryz.func32 rfl rfl rfl rfl rfl zq ?_
 show wpA cx 26 0 (at_ c32 []) _ _ _
 refine wSt [0,1] [(0,.imm (a.map AVal.str)),(1,.imm (b.map AVal.str))] [] kq kq ?_
 refine wSeq kq ?_
 refine wOrd kq (vstart ?_)
 refine vrun 1 kq ?_
 refine vend kq ?_
 refine AThen_normal ?_
 refine wSt [0,1] [(0,.imm (a.map AVal.str)),(1,.imm (b.map AVal.str))] [] kq kq ?_
 refine wSeq kq ?_
 refine wSeq kq ?_
 refine wOrd kq (vstart ?_)
 refine vrun 1 kq ?_
 refine vsym kq kq (o_lenmap (l:=a) (enc:=AVal.str) kq ty34) ?_
 refine vrun 1 kq ?_
 refine vsym kq kq (o_lenmap (l:=b) (enc:=AVal.str) kq ty34) ?_
 refine vrun 1 kq ?_
 refine vend kq ?_
 refine AThen_normal ?_
 refine wSt [0,1,10] [(0,.imm (a.map AVal.str)),(1,.imm (b.map AVal.str)),(10,.bool (((a.length:Nat):Int) != ((b.length:Nat):Int)))] [] kq kq ?_
 by_cases hb1:((a.length:Nat):Int)=((b.length:Nat):Int)
 · refine wIfF kq (Eq.trans (b:=.bool (((a.length:Nat):Int) != ((b.length:Nat):Int))) kq (congrArg AVal.bool (bne_eq_false_iff_eq.2 hb1))) ?_
   refine wSkip kq ?_
   refine AThen_normal ?_
   refine wSt [0,1] [(0,.imm (a.map AVal.str)),(1,.imm (b.map AVal.str))] [] kq kq ?_
   refine wSeq kq ?_
   refine wSeq kq ?_
   refine wOrd kq (vstart ?_)
   refine vrun 1 kq ?_
   refine vsym kq kq (o_lenmap (l:=a) (enc:=AVal.str) kq ty34) ?_
   refine vrun 1 kq ?_
   refine vend kq ?_
   refine AThen_normal ?_
   refine wSt [0,1,12,13] [(0,.imm (a.map AVal.str)),(1,.imm (b.map AVal.str)),(12,.int .i64 ((a.length:Nat):Int)),(13,.int .i64 0)] [] kq kq ?_
   refine wBlock 0 kq kq ?_
   refine wLoop (σ:=Nat) (fun k=>[(0,.imm (a.map AVal.str)),(1,.imm (b.map AVal.str)),(12,.int .i64 ((a.length:Nat):Int)),(13,.int .i64 ((k:Nat):Int))]) (fun k=>[]) (fun k=>k≤a.length∧∀ i,i<k→a.getD i []=b.getD i []) (fun k=>a.length - k) 0 kq zq ⟨⟨kq,kq,kq,kq,trivial⟩,by simp [BelL,AVal.bel],by simp,kq,by simp⟩ ?_
   rintro k ⟨hk,ha⟩
   refine wSeq kq ?_
   refine wOrd kq (vstart ?_)
   refine vrun 1 kq ?_
   refine vend kq ?_
   refine AThen_normal ?_
   refine wSt [0,1,12,13,14] [(0,.imm (a.map AVal.str)),(1,.imm (b.map AVal.str)),(12,.int .i64 ((a.length:Nat):Int)),(13,.int .i64 ((k:Nat):Int)),(14,.bool (decide (((k:Nat):Int)<((a.length:Nat):Int))))] [] kq kq ?_
   refine wSeq kq ?_
   by_cases hb2:((k:Nat):Int)<((a.length:Nat):Int)
   · refine wIfT kq (Eq.trans (b:=.bool (decide (((k:Nat):Int)<((a.length:Nat):Int)))) kq (congrArg AVal.bool (decide_eq_true hb2))) ?_
     refine wSkip kq ?_
     refine AThen_normal ?_
     refine wSt [0,1,12,13] [(0,.imm (a.map AVal.str)),(1,.imm (b.map AVal.str)),(12,.int .i64 ((a.length:Nat):Int)),(13,.int .i64 ((k:Nat):Int))] [] kq kq ?_
     refine wSeq kq ?_
     refine wBlock 1 kq kq ?_
     refine wSeq kq ?_
     refine wOrd kq (vstart ?_)
     refine vrun 2 kq ?_
     refine vend kq ?_
     refine AThen_normal ?_
     refine wSt [0,1,5,12,13] [(0,.imm (a.map AVal.str)),(1,.imm (b.map AVal.str)),(5,.int .i64 ((k:Nat):Int)),(12,.int .i64 ((a.length:Nat):Int)),(13,.int .i64 ((k:Nat):Int))] [] kq kq ?_
     refine wSeq kq ?_
     refine wDrw cxM kq extThen (dstart ?_)
     refine drun 2 kq ?_
     refine dsym kq kq kq (o_ixmap (k:=.i64) (l:=a) (enc:=AVal.str) (i:=((k:Nat):Int)) [] kq ty34 ty9 (fun _=>rfl) oq oq) ?_
     refine drun 3 kq ?_
     refine dsym kq kq kq (o_ixmap (k:=.i64) (l:=b) (enc:=AVal.str) (i:=((k:Nat):Int)) [] kq ty34 ty9 (fun _=>rfl) oq oq) ?_
     refine drun 2 kq ?_
     refine dend kq ⟨kq,?_⟩
     refine AThen_normal ?_
     refine wSt [0,1,12,13,24] [(0,.imm (a.map AVal.str)),(1,.imm (b.map AVal.str)),(12,.int .i64 ((a.length:Nat):Int)),(13,.int .i64 ((k:Nat):Int)),(24,.bool (!((a.getD k [])==(b.getD k []))))] [] kq kq ?_
     by_cases hb3:(a.getD k [])=(b.getD k [])
     · refine wIfF kq (Eq.trans (b:=.bool (!((a.getD k [])==(b.getD k [])))) kq (congrArg AVal.bool (congrArg not (beq_iff_eq.2 hb3)))) ?_
       refine wSkip kq ?_
       refine AIn_normal ?_
       refine AThen_normal ?_
       refine wSt [0,1,12,13] [(0,.imm (a.map AVal.str)),(1,.imm (b.map AVal.str)),(12,.int .i64 ((a.length:Nat):Int)),(13,.int .i64 ((k:Nat):Int))] [] kq kq ?_
       refine wOrd kq (vstart ?_)
       refine vsym kq kq (o_add (a:=((k:Nat):Int)) (b:=1) kq oq oq) ?_
       refine vrun 1 kq ?_
       refine vend kq ?_
       refine AThen_normal ⟨k+1,?_,?_,⟨⟨kq,kq,kq,kq,trivial⟩,by simp [BelL,AVal.bel],by simp,kq,by simp⟩⟩
       · omega
       · refine ⟨by omega,fun i hi=>?_⟩
         rcases Nat.lt_succ_iff_lt_or_eq.1 hi with h|h
         · exact ha i h
         · subst h;assumption
     · refine wIfT kq (Eq.trans (b:=.bool (!((a.getD k [])==(b.getD k [])))) kq (congrArg AVal.bool (congrArg not (beq_eq_false_iff_ne.2 hb3)))) ?_
       refine wSeq kq ?_
       refine wOrd kq (vstart ?_)
       refine vrun 1 kq ?_
       refine vend kq ?_
       refine AThen_normal ?_
       refine wSt [4] [(4,.bool false)] [] kq kq ?_
       refine wRet kq ?_
       refine AIn_ret ?_
       refine AThen_ret ?_
       refine AThen_ret ?_
       refine AIn_ret ?_
       refine AThen_ret ?_
       refine leafB (b:=false) (.inr rfl) kq ?_
       first|exact strs_len aq|exact strs_true oq (fun i hi=>ha i oq)|exact strs_at (i:=k) oq oq aq
   · refine wIfF kq (Eq.trans (b:=.bool (decide (((k:Nat):Int)<((a.length:Nat):Int)))) kq (congrArg AVal.bool (decide_eq_false hb2))) ?_
     refine wExit 0 kq kq ?_
     refine AThen_exit ?_
     refine AThen_exit ?_
     refine AIn_exit ?_
     refine AThen_normal ?_
     refine wSt [] [] [] kq kq ?_
     refine wSeq kq ?_
     refine wOrd kq (vstart ?_)
     refine vrun 1 kq ?_
     refine vend kq ?_
     refine AThen_normal ?_
     refine wSt [4] [(4,.bool true)] [] kq kq ?_
     refine wRet kq ?_
     refine leafB (b:=true) (.inr rfl) kq ?_
     first|exact strs_len aq|exact strs_true oq (fun i hi=>ha i oq)|exact strs_at (i:=k) oq oq aq
 · refine wIfT kq (Eq.trans (b:=.bool (((a.length:Nat):Int) != ((b.length:Nat):Int))) kq (congrArg AVal.bool (bne_iff_ne.2 hb1))) ?_
   refine wSeq kq ?_
   refine wOrd kq (vstart ?_)
   refine vrun 1 kq ?_
   refine vend kq ?_
   refine AThen_normal ?_
   refine wSt [4] [(4,.bool false)] [] kq kq ?_
   refine wRet kq ?_
   refine AThen_ret ?_
   refine leafB (b:=false) (.inr rfl) kq ?_
   first|exact strs_len aq|exact strs_true oq (fun i hi=>ha i oq)|exact strs_at (i:=k) oq oq aq
theorem cx_enc {f:FuncId} {x y:Ty} {b:Bool} (h:CallsP cx f [x.v,y.v] (.bool b)):CallsP cx f [x.v,y.v] (.bool b):=h
noncomputable def c61:Code:=bodyOf Tryz.f61
theorem eqFunc_spec (a b:List Ty) (f:Nat) (p:Ty→Ty→Bool) (hc:∀ i,i<a.length→i<b.length→CallsP cx f [(a.getD i Ty.zero).v,(b.getD i Ty.zero).v] (.bool (p (a.getD i Ty.zero) (b.getD i Ty.zero)))) (hn:a.length<1000000000):CallsP cx 61 [.imm (a.map Ty.enc),.imm (b.map Ty.enc),.fn (.func f) [] []] (.bool (zipAll p a b)):=by
 refine func_intro (cx:=cx) 32 0 [(ResultVar.tmp 6)] Tryz.func61 rfl rfl rfl rfl rfl zq ?_
 show wpA cx 32 0 (at_ c61 []) _ _ _
 refine wSt [0,1,2] [(0,.imm (a.map Ty.enc)),(1,.imm (b.map Ty.enc)),(2,.fn (.func f) [] [])] [] kq kq ?_
 refine wSeq kq ?_
 refine wOrd kq (vstart ?_)
 refine vrun 1 kq ?_
 refine vend kq ?_
 refine AThen_normal ?_
 refine wSt [0,1,2] [(0,.imm (a.map Ty.enc)),(1,.imm (b.map Ty.enc)),(2,.fn (.func f) [] [])] [] kq kq ?_
 refine wSeq kq ?_
 refine wSeq kq ?_
 refine wOrd kq (vstart ?_)
 refine vrun 1 kq ?_
 refine vsym kq kq (o_lenmap (l:=a) (enc:=Ty.enc) kq ty52) ?_
 refine vrun 1 kq ?_
 refine vsym kq kq (o_lenmap (l:=b) (enc:=Ty.enc) kq ty52) ?_
 refine vrun 1 kq ?_
 refine vend kq ?_
 refine AThen_normal ?_
 refine wSt [0,1,2,14] [(0,.imm (a.map Ty.enc)),(1,.imm (b.map Ty.enc)),(2,.fn (.func f) [] []),(14,.bool (((a.length:Nat):Int) != ((b.length:Nat):Int)))] [] kq kq ?_
 by_cases hb1:((a.length:Nat):Int)=((b.length:Nat):Int)
 · refine wIfF kq (Eq.trans (b:=.bool (((a.length:Nat):Int) != ((b.length:Nat):Int))) kq (congrArg AVal.bool (bne_eq_false_iff_eq.2 hb1))) ?_
   refine wSkip kq ?_
   refine AThen_normal ?_
   refine wSt [0,1,2] [(0,.imm (a.map Ty.enc)),(1,.imm (b.map Ty.enc)),(2,.fn (.func f) [] [])] [] kq kq ?_
   refine wSeq kq ?_
   refine wSeq kq ?_
   refine wOrd kq (vstart ?_)
   refine vrun 1 kq ?_
   refine vsym kq kq (o_lenmap (l:=a) (enc:=Ty.enc) kq ty52) ?_
   refine vrun 1 kq ?_
   refine vend kq ?_
   refine AThen_normal ?_
   refine wSt [1,2,15,16,17] [(1,.imm (b.map Ty.enc)),(2,.fn (.func f) [] []),(15,.imm (a.map Ty.enc)),(16,.int .i64 ((a.length:Nat):Int)),(17,.int .i64 0)] [] kq kq ?_
   refine wBlock 0 kq kq ?_
   refine wLoop (σ:=Nat) (fun k=>[(1,.imm (b.map Ty.enc)),(2,.fn (.func f) [] []),(15,.imm (a.map Ty.enc)),(16,.int .i64 ((a.length:Nat):Int)),(17,.int .i64 ((k:Nat):Int))]) (fun k=>[]) (fun k=>k≤a.length∧∀ i,i<k→p (a.getD i Ty.zero) (b.getD i Ty.zero)=true) (fun k=>a.length - k) 0 kq zq ⟨⟨kq,kq,kq,kq,kq,trivial⟩,by simp [BelL,AVal.bel],by simp,kq,by simp⟩ ?_
   rintro k ⟨hk,ha⟩
   refine wSeq kq ?_
   refine wOrd kq (vstart ?_)
   refine vrun 1 kq ?_
   refine vend kq ?_
   refine AThen_normal ?_
   refine wSt [1,2,15,16,17,18] [(1,.imm (b.map Ty.enc)),(2,.fn (.func f) [] []),(15,.imm (a.map Ty.enc)),(16,.int .i64 ((a.length:Nat):Int)),(17,.int .i64 ((k:Nat):Int)),(18,.bool (decide (((k:Nat):Int)<((a.length:Nat):Int))))] [] kq kq ?_
   refine wSeq kq ?_
   by_cases hb2:((k:Nat):Int)<((a.length:Nat):Int)
   · refine wIfT kq (Eq.trans (b:=.bool (decide (((k:Nat):Int)<((a.length:Nat):Int)))) kq (congrArg AVal.bool (decide_eq_true hb2))) ?_
     refine wSkip kq ?_
     refine AThen_normal ?_
     refine wSt [1,2,15,16,17] [(1,.imm (b.map Ty.enc)),(2,.fn (.func f) [] []),(15,.imm (a.map Ty.enc)),(16,.int .i64 ((a.length:Nat):Int)),(17,.int .i64 ((k:Nat):Int))] [] kq kq ?_
     refine wSeq kq ?_
     refine wBlock 1 kq kq ?_
     refine wSeq kq ?_
     refine wOrd kq (vstart ?_)
     refine vrun 1 kq ?_
     refine vsym kq kq ((o_ixmap (k:=.i64) (l:=a) (enc:=Ty.enc) (i:=((k:Nat):Int)) Ty.zero kq ty52 ty54 ty_size oq oq).trans (congrArg (fun cs=>some (AVal.pimm cs 0,_)) (ty_cells (a.getD k Ty.zero)))) ?_
     refine vrun 4 kq ?_
     refine vend kq ?_
     refine AThen_normal ?_
     refine wSt [1,2,7,8,15,16,17] [(1,.imm (b.map Ty.enc)),(2,.fn (.func f) [] []),(7,.int .i64 ((k:Nat):Int)),(8,.ptr 0 0),(15,.imm (a.map Ty.enc)),(16,.int .i64 ((a.length:Nat):Int)),(17,.int .i64 ((k:Nat):Int))] [(a.getD k Ty.zero).bx] kq kq ?_
     refine wSeq kq ?_
     refine wOrd kq (vstart ?_)
     refine vrun 2 kq ?_
     refine vsym kq kq ((o_ixmap (k:=.i64) (l:=b) (enc:=Ty.enc) (i:=((k:Nat):Int)) Ty.zero kq ty52 ty54 ty_size oq oq).trans (congrArg (fun cs=>some (AVal.pimm cs 0,_)) (ty_cells (b.getD k Ty.zero)))) ?_
     refine vrun 3 kq ?_
     refine vend kq ?_
     refine AThen_normal ?_
     refine wSt [1,2,8,9,15,16,17] [(1,.imm (b.map Ty.enc)),(2,.fn (.func f) [] []),(8,.ptr 0 0),(9,.ptr 1 0),(15,.imm (a.map Ty.enc)),(16,.int .i64 ((a.length:Nat):Int)),(17,.int .i64 ((k:Nat):Int))] [(a.getD k Ty.zero).bx,(b.getD k Ty.zero).bx] kq kq ?_
     refine wSeq kq ?_
     refine wOrd kq (vstart ?_)
     refine vrun 3 kq ?_
     refine vcallP (args:=[.agg [.int .i64 ((a.getD k Ty.zero).kind),.str (a.getD k Ty.zero).name,.int .i64 ((a.getD k Ty.zero).n),.imm ((a.getD k Ty.zero).names.map AVal.str),.imm ((a.getD k Ty.zero).kids.map Ty.enc)],.agg [.int .i64 ((b.getD k Ty.zero).kind),.str (b.getD k Ty.zero).name,.int .i64 ((b.getD k Ty.zero).n),.imm ((b.getD k Ty.zero).names.map AVal.str),.imm ((b.getD k Ty.zero).kids.map Ty.enc)]]) kq kq kq kq (hc k oq oq) (by simp [Ty.v]) (by simp [Ty.v]) (by simp [Ty.v]) ?_
     refine vrun 1 kq ?_
     refine vend kq ?_
     refine AThen_normal ?_
     refine wSt [1,2,15,16,17,30] [(1,.imm (b.map Ty.enc)),(2,.fn (.func f) [] []),(15,.imm (a.map Ty.enc)),(16,.int .i64 ((a.length:Nat):Int)),(17,.int .i64 ((k:Nat):Int)),(30,.bool (!(p (a.getD k Ty.zero) (b.getD k Ty.zero))))] [(a.getD k Ty.zero).bx,(b.getD k Ty.zero).bx] kq kq ?_
     by_cases hb3:(p (a.getD k Ty.zero) (b.getD k Ty.zero))=true
     · refine wIfF kq (Eq.trans (b:=.bool (!(p (a.getD k Ty.zero) (b.getD k Ty.zero)))) kq (congrArg AVal.bool (congrArg not (hb3)))) ?_
       refine wSkip kq ?_
       refine AIn_normal ?_
       refine AThen_normal ?_
       refine wSt [1,2,15,16,17] [(1,.imm (b.map Ty.enc)),(2,.fn (.func f) [] []),(15,.imm (a.map Ty.enc)),(16,.int .i64 ((a.length:Nat):Int)),(17,.int .i64 ((k:Nat):Int))] [(a.getD k Ty.zero).bx,(b.getD k Ty.zero).bx] kq kq ?_
       refine wOrd kq (vstart ?_)
       refine vsym kq kq (o_add (a:=((k:Nat):Int)) (b:=1) kq oq oq) ?_
       refine vrun 1 kq ?_
       refine vend kq ?_
       refine AThen_normal ⟨k+1,?_,?_,⟨⟨kq,kq,kq,kq,kq,trivial⟩,by simp [BelL,AVal.bel],by simp,kq,by simp⟩⟩
       · omega
       · refine ⟨by omega,fun i hi=>?_⟩
         rcases Nat.lt_succ_iff_lt_or_eq.1 hi with h|h
         · exact ha i h
         · subst h;assumption
     · refine wIfT kq (Eq.trans (b:=.bool (!(p (a.getD k Ty.zero) (b.getD k Ty.zero)))) kq (congrArg AVal.bool (congrArg not (Bool.eq_false_iff.2 hb3)))) ?_
       refine wSeq kq ?_
       refine wOrd kq (vstart ?_)
       refine vrun 1 kq ?_
       refine vend kq ?_
       refine AThen_normal ?_
       refine wSt [6] [(6,.bool false)] [(a.getD k Ty.zero).bx,(b.getD k Ty.zero).bx] kq kq ?_
       refine wRet kq ?_
       refine AIn_ret ?_
       refine AThen_ret ?_
       refine AThen_ret ?_
       refine AIn_ret ?_
       refine AThen_ret ?_
       refine leafB (b:=false) (.inr rfl) kq ?_
       first|exact (zipAll_len p a b oq).symm|exact (zipAll_true p Ty.zero Ty.zero a b oq (fun i hi=>ha i oq)).symm|exact (zipAll_at p Ty.zero Ty.zero a b k oq oq (Bool.eq_false_iff.2 aq)).symm
   · refine wIfF kq (Eq.trans (b:=.bool (decide (((k:Nat):Int)<((a.length:Nat):Int)))) kq (congrArg AVal.bool (decide_eq_false hb2))) ?_
     refine wExit 0 kq kq ?_
     refine AThen_exit ?_
     refine AThen_exit ?_
     refine AIn_exit ?_
     refine AThen_normal ?_
     refine wSt [] [] [] kq kq ?_
     refine wSeq kq ?_
     refine wOrd kq (vstart ?_)
     refine vrun 1 kq ?_
     refine vend kq ?_
     refine AThen_normal ?_
     refine wSt [6] [(6,.bool true)] [] kq kq ?_
     refine wRet kq ?_
     refine leafB (b:=true) (.inr rfl) kq ?_
     first|exact (zipAll_len p a b oq).symm|exact (zipAll_true p Ty.zero Ty.zero a b oq (fun i hi=>ha i oq)).symm|exact (zipAll_at p Ty.zero Ty.zero a b k oq oq (Bool.eq_false_iff.2 aq)).symm
 · refine wIfT kq (Eq.trans (b:=.bool (((a.length:Nat):Int) != ((b.length:Nat):Int))) kq (congrArg AVal.bool (bne_iff_ne.2 hb1))) ?_
   refine wSeq kq ?_
   refine wOrd kq (vstart ?_)
   refine vrun 1 kq ?_
   refine vend kq ?_
   refine AThen_normal ?_
   refine wSt [6] [(6,.bool false)] [] kq kq ?_
   refine wRet kq ?_
   refine AThen_ret ?_
   refine leafB (b:=false) (.inr rfl) kq ?_
   first|exact (zipAll_len p a b oq).symm|exact (zipAll_true p Ty.zero Ty.zero a b oq (fun i hi=>ha i oq)).symm|exact (zipAll_at p Ty.zero Ty.zero a b k oq oq (Bool.eq_false_iff.2 aq)).symm
noncomputable def c26:Code:=bodyOf Tryz.f26
theorem tEqual_spec (a b:Ty) (hs:a.sz<100000000):CallsP cx 26 [Ty.v a,Ty.v b] (.bool (a.beq b)):=by
 induction hN:a.sz using Nat.strongRecOn generalizing a b with|_ N ih =>
 have hc:∀ i,i<a.kids.length→i<b.kids.length→CallsP cx 26 [(a.kids.getD i Ty.zero).v,(b.kids.getD i Ty.zero).v] (.bool ((a.kids.getD i Ty.zero).beq (b.kids.getD i Ty.zero))):=fun i h1 _=>ih _ (by rw [← hN];exact sz_kid a i h1) _ _ (Nat.lt_trans (sz_kid a i h1) hs) rfl
 have hz1:=sz_names a
 have hz2:=sz_kids a
 refine func_intro (cx:=cx) 38 0 [(ResultVar.tmp 4)] Tryz.func26 rfl rfl rfl rfl rfl zq ?_
 show wpA cx 38 0 (at_ c26 []) _ _ _
 refine wSt [0,1] [(0,Ty.v a),(1,Ty.v b)] [] kq kq ?_
 refine wSeq kq ?_
 refine wOrd kq (vstart ?_)
 refine vrun 3 kq ?_
 refine vend kq ?_
 refine AThen_normal ?_
 refine wSt [2,3] [(2,.ptr 0 0),(3,.ptr 1 0)] [a.bx,b.bx] kq kq ?_
 refine wSeq kq ?_
 refine wOrd kq (vstart ?_)
 refine vrun 6 kq ?_
 by_cases hb1:(a.kind)=(b.kind)
 · refine vset 9 (.bool ((a.kind)==(b.kind))) (.bool true) (extO extThen) kq (congrArg AVal.bool (beq_iff_eq.2 hb1)) ?_
   refine vset 10 (.bool ((a.kind)==(b.kind))) (.bool true) (extO extThen) kq (congrArg AVal.bool (beq_iff_eq.2 hb1)) ?_
   refine vrun 7 kq ?_
   by_cases hb2:a.name=b.name
   · refine vset 15 (.bool (a.name==b.name)) (.bool true) (extO extThen) kq (congrArg AVal.bool (beq_iff_eq.2 hb2)) ?_
     refine vset 16 (.bool (a.name==b.name)) (.bool true) (extO extThen) kq (congrArg AVal.bool (beq_iff_eq.2 hb2)) ?_
     refine vset 17 (.bool (a.name==b.name)) (.bool true) (extO extThen) kq (congrArg AVal.bool (beq_iff_eq.2 hb2)) ?_
     refine vrun 7 kq ?_
     by_cases hb3:(a.n)=(b.n)
     · refine vset 22 (.bool ((a.n)==(b.n))) (.bool true) (extO extThen) kq (congrArg AVal.bool (beq_iff_eq.2 hb3)) ?_
       refine vset 23 (.bool ((a.n)==(b.n))) (.bool true) (extO extThen) kq (congrArg AVal.bool (beq_iff_eq.2 hb3)) ?_
       refine vset 24 (.bool ((a.n)==(b.n))) (.bool true) (extO extThen) kq (congrArg AVal.bool (beq_iff_eq.2 hb3)) ?_
       refine vrun 4 kq ?_
       refine vcallP (args:=[.imm (a.names.map AVal.str),.imm (b.names.map AVal.str)]) kq kq kq kq (slEqual_spec a.names b.names oq) (by simp [Ty.v]) (by simp [Ty.v]) (by simp [Ty.v]) ?_
       refine vrun 2 kq ?_
       by_cases hb4:(a.names==b.names)=true
       · refine vset 29 (.bool (a.names==b.names)) (.bool true) (extO extThen) kq (congrArg AVal.bool (hb4)) ?_
         refine vset 30 (.bool (a.names==b.names)) (.bool true) (extO extThen) kq (congrArg AVal.bool (hb4)) ?_
         refine vset 31 (.bool (a.names==b.names)) (.bool true) (extO extThen) kq (congrArg AVal.bool (hb4)) ?_
         refine vrun 4 kq ?_
         refine vcallP (args:=[.imm (a.kids.map Ty.enc),.imm (b.kids.map Ty.enc),.fn (.func 26) [] []]) kq kq kq kq (eqFunc_spec a.kids b.kids 26 Ty.beq (hc) oq) (by simp [Ty.v]) (by simp [Ty.v]) (by simp [Ty.v]) ?_
         refine vrun 2 kq ?_
         refine vend kq ?_
         refine AThen_normal ?_
         refine wSt [4] [(4,.bool (zipAll Ty.beq a.kids b.kids))] [a.bx,b.bx] kq kq ?_
         refine wRet kq ?_
         refine leafB (b:=(zipAll Ty.beq a.kids b.kids)) (.inr rfl) kq ?_
         simp [beq_eq, *]
       · refine vset 29 (.bool (a.names==b.names)) (.bool false) (extO extThen) kq (congrArg AVal.bool (Bool.eq_false_iff.2 hb4)) ?_
         refine vset 30 (.bool (a.names==b.names)) (.bool false) (extO extThen) kq (congrArg AVal.bool (Bool.eq_false_iff.2 hb4)) ?_
         refine vset 31 (.bool (a.names==b.names)) (.bool false) (extO extThen) kq (congrArg AVal.bool (Bool.eq_false_iff.2 hb4)) ?_
         refine vrun 7 kq ?_
         refine vend kq ?_
         refine AThen_normal ?_
         refine wSt [4] [(4,.bool false)] [a.bx,b.bx] kq kq ?_
         refine wRet kq ?_
         refine leafB (b:=false) (.inr rfl) kq ?_
         simp [beq_eq, *]
     · refine vset 22 (.bool ((a.n)==(b.n))) (.bool false) (extO extThen) kq (congrArg AVal.bool (beq_eq_false_iff_ne.2 hb3)) ?_
       refine vset 23 (.bool ((a.n)==(b.n))) (.bool false) (extO extThen) kq (congrArg AVal.bool (beq_eq_false_iff_ne.2 hb3)) ?_
       refine vset 24 (.bool ((a.n)==(b.n))) (.bool false) (extO extThen) kq (congrArg AVal.bool (beq_eq_false_iff_ne.2 hb3)) ?_
       refine vrun 14 kq ?_
       refine vend kq ?_
       refine AThen_normal ?_
       refine wSt [4] [(4,.bool false)] [a.bx,b.bx] kq kq ?_
       refine wRet kq ?_
       refine leafB (b:=false) (.inr rfl) kq ?_
       simp [beq_eq, *]
   · refine vset 15 (.bool (a.name==b.name)) (.bool false) (extO extThen) kq (congrArg AVal.bool (beq_eq_false_iff_ne.2 hb2)) ?_
     refine vset 16 (.bool (a.name==b.name)) (.bool false) (extO extThen) kq (congrArg AVal.bool (beq_eq_false_iff_ne.2 hb2)) ?_
     refine vset 17 (.bool (a.name==b.name)) (.bool false) (extO extThen) kq (congrArg AVal.bool (beq_eq_false_iff_ne.2 hb2)) ?_
     refine vrun 21 kq ?_
     refine vend kq ?_
     refine AThen_normal ?_
     refine wSt [4] [(4,.bool false)] [a.bx,b.bx] kq kq ?_
     refine wRet kq ?_
     refine leafB (b:=false) (.inr rfl) kq ?_
     simp [beq_eq, *]
 · refine vset 9 (.bool ((a.kind)==(b.kind))) (.bool false) (extO extThen) kq (congrArg AVal.bool (beq_eq_false_iff_ne.2 hb1)) ?_
   refine vset 10 (.bool ((a.kind)==(b.kind))) (.bool false) (extO extThen) kq (congrArg AVal.bool (beq_eq_false_iff_ne.2 hb1)) ?_
   refine vrun 28 kq ?_
   refine vend kq ?_
   refine AThen_normal ?_
   refine wSt [4] [(4,.bool false)] [a.bx,b.bx] kq kq ?_
   refine wRet kq ?_
   refine leafB (b:=false) (.inr rfl) kq ?_
   simp [beq_eq, *]
theorem beq_lit {a b:Ty} {v:Bool} (h:v=((a.kind==b.kind) && ((a.name==b.name) && ((a.n==b.n) && ((a.names==b.names) && zipAll Ty.beq a.kids b.kids))))):v=a.beq b:=by rw [beq_eq];exact h
noncomputable def c18:Code:=bodyOf Tryz.f18
theorem rEqual_spec (a b:Ty) (hs:a.sz<100000000):CallsP cx 18 [Ty.v a,Ty.v b] (.bool (a.beq b)):=by
 induction hN:a.sz using Nat.strongRecOn generalizing a b with|_ N ih =>
 have hc:∀ i,i<a.kids.length→i<b.kids.length→CallsP cx 18 [(a.kids.getD i Ty.zero).v,(b.kids.getD i Ty.zero).v] (.bool ((a.kids.getD i Ty.zero).beq (b.kids.getD i Ty.zero))):=fun i h1 _=>ih _ (by rw [← hN];exact sz_kid a i h1) _ _ (Nat.lt_trans (sz_kid a i h1) hs) rfl
 have hz1:=sz_names a
 have hz2:=sz_kids a
 refine func_intro (cx:=cx) 65 0 [(ResultVar.tmp 4)] Tryz.func18 rfl rfl rfl rfl rfl zq ?_
 show wpA cx 65 0 (at_ c18 []) _ _ _
 refine wSt [0,1] [(0,Ty.v a),(1,Ty.v b)] [] kq kq ?_
 refine wSeq kq ?_
 refine wOrd kq (vstart ?_)
 refine vrun 3 kq ?_
 refine vend kq ?_
 refine AThen_normal ?_
 refine wSt [2,3] [(2,.ptr 0 0),(3,.ptr 1 0)] [a.bx,b.bx] kq kq ?_
 refine wSeq kq ?_
 refine wOrd kq (vstart ?_)
 refine vrun 4 kq ?_
 refine vcallP (args:=[.imm (a.names.map AVal.str),.imm (b.names.map AVal.str)]) kq kq kq kq (sameTexts_spec a.names b.names oq) (by simp [Ty.v]) (by simp [Ty.v]) (by simp [Ty.v]) ?_
 refine vrun 1 kq ?_
 refine vend kq ?_
 refine AThen_normal ?_
 refine wSt [2,3,5] [(2,.ptr 0 0),(3,.ptr 1 0),(5,.bool (a.names==b.names))] [a.bx,b.bx] kq kq ?_
 refine wSeq kq ?_
 refine wSeq kq ?_
 refine wOrd kq (vstart ?_)
 refine vrun 3 kq ?_
 by_cases hb1:(a.names==b.names)=true
 · refine vset 14 (.bool (!(a.names==b.names))) (.bool false) (extO extThen) kq (congrArg AVal.bool (congrArg not (hb1))) ?_
   refine vset 15 (.bool (!(a.names==b.names))) (.bool false) (extO extThen) kq (congrArg AVal.bool (congrArg not (hb1))) ?_
   refine vrun 7 kq ?_
   by_cases hb2:(a.kind)=(b.kind)
   · refine vset 20 (.bool ((a.kind) != (b.kind))) (.bool false) (extO extThen) kq (congrArg AVal.bool (bne_eq_false_iff_eq.2 hb2)) ?_
     refine vset 21 (.bool ((a.kind) != (b.kind))) (.bool false) (extO extThen) kq (congrArg AVal.bool (bne_eq_false_iff_eq.2 hb2)) ?_
     refine vset 22 (.bool ((a.kind) != (b.kind))) (.bool false) (extO extThen) kq (congrArg AVal.bool (bne_eq_false_iff_eq.2 hb2)) ?_
     refine vrun 7 kq ?_
     by_cases hb3:a.name=b.name
     · refine vset 27 (.bool (!(a.name==b.name))) (.bool false) (extO extThen) kq (congrArg AVal.bool (congrArg not (beq_iff_eq.2 hb3))) ?_
       refine vset 28 (.bool (!(a.name==b.name))) (.bool false) (extO extThen) kq (congrArg AVal.bool (congrArg not (beq_iff_eq.2 hb3))) ?_
       refine vset 29 (.bool (!(a.name==b.name))) (.bool false) (extO extThen) kq (congrArg AVal.bool (congrArg not (beq_iff_eq.2 hb3))) ?_
       refine vrun 7 kq ?_
       by_cases hb4:(a.n)=(b.n)
       · refine vset 34 (.bool ((a.n) != (b.n))) (.bool false) (extO extThen) kq (congrArg AVal.bool (bne_eq_false_iff_eq.2 hb4)) ?_
         refine vset 35 (.bool ((a.n) != (b.n))) (.bool false) (extO extThen) kq (congrArg AVal.bool (bne_eq_false_iff_eq.2 hb4)) ?_
         refine vset 36 (.bool ((a.n) != (b.n))) (.bool false) (extO extThen) kq (congrArg AVal.bool (bne_eq_false_iff_eq.2 hb4)) ?_
         refine vrun 2 kq ?_
         refine vsym kq kq (o_lenmap (l:=a.kids) (enc:=Ty.enc) kq ty52) ?_
         refine vrun 2 kq ?_
         refine vsym kq kq (o_lenmap (l:=b.kids) (enc:=Ty.enc) kq ty52) ?_
         refine vrun 2 kq ?_
         refine vend kq ?_
         refine AThen_normal ?_
         refine wSt [2,3,44] [(2,.ptr 0 0),(3,.ptr 1 0),(44,.bool (((a.kids.length:Nat):Int) != ((b.kids.length:Nat):Int)))] [a.bx,b.bx] kq kq ?_
         by_cases hb5:((a.kids.length:Nat):Int)=((b.kids.length:Nat):Int)
         · refine wIfF kq (Eq.trans (b:=.bool (((a.kids.length:Nat):Int) != ((b.kids.length:Nat):Int))) kq (congrArg AVal.bool (bne_eq_false_iff_eq.2 hb5))) ?_
           refine wSkip kq ?_
           refine AThen_normal ?_
           refine wSt [2,3] [(2,.ptr 0 0),(3,.ptr 1 0)] [a.bx,b.bx] kq kq ?_
           refine wSeq kq ?_
           refine wSeq kq ?_
           refine wOrd kq (vstart ?_)
           refine vrun 1 kq ?_
           refine vend kq ?_
           refine AThen_normal ?_
           refine wSt [2,3,6] [(2,.ptr 0 0),(3,.ptr 1 0),(6,.int .i64 0)] [a.bx,b.bx] kq kq ?_
           refine wBlock 0 kq kq ?_
           refine wLoop (σ:=Nat) (fun k=>[(2,.ptr 0 0),(3,.ptr 1 0),(6,.int .i64 ((k:Nat):Int))]) (fun k=>[a.bx,b.bx]) (fun k=>k≤a.kids.length∧∀ i,i<k→(a.kids.getD i Ty.zero).beq (b.kids.getD i Ty.zero)=true) (fun k=>a.kids.length - k) 0 kq zq ⟨⟨kq,kq,kq,trivial⟩,by simp [BelL,AVal.bel],by simp,kq,by simp [AObj.belO]⟩ ?_
           rintro k ⟨hk,ha⟩
           refine wSeq kq ?_
           refine wSeq kq ?_
           refine wOrd kq (vstart ?_)
           refine vrun 3 kq ?_
           refine vsym kq kq (o_lenmap (l:=a.kids) (enc:=Ty.enc) kq ty52) ?_
           refine vrun 1 kq ?_
           refine vend kq ?_
           refine AThen_normal ?_
           refine wSt [2,3,6,49] [(2,.ptr 0 0),(3,.ptr 1 0),(6,.int .i64 ((k:Nat):Int)),(49,.bool (decide (((k:Nat):Int)<((a.kids.length:Nat):Int))))] [a.bx,b.bx] kq kq ?_
           by_cases hb6:((k:Nat):Int)<((a.kids.length:Nat):Int)
           · refine wIfT kq (Eq.trans (b:=.bool (decide (((k:Nat):Int)<((a.kids.length:Nat):Int)))) kq (congrArg AVal.bool (decide_eq_true hb6))) ?_
             refine wSkip kq ?_
             refine AThen_normal ?_
             refine wSt [2,3,6] [(2,.ptr 0 0),(3,.ptr 1 0),(6,.int .i64 ((k:Nat):Int))] [a.bx,b.bx] kq kq ?_
             refine wSeq kq ?_
             refine wBlock 1 kq kq ?_
             refine wSeq kq ?_
             refine wDrw cxM kq extThen (dstart ?_)
             refine drun 3 kq ?_
             refine dsym kq kq kq ((o_ixmap (k:=.i64) (l:=a.kids) (enc:=Ty.enc) (i:=((k:Nat):Int)) Ty.zero kq ty52 ty54 ty_size oq oq).trans (congrArg (fun cs=>some (AVal.pimm cs 0,_)) (ty_cells (a.kids.getD k Ty.zero)))) ?_
             refine drun 4 kq ?_
             refine dsym kq kq kq ((o_ixmap (k:=.i64) (l:=b.kids) (enc:=Ty.enc) (i:=((k:Nat):Int)) Ty.zero kq ty52 ty54 ty_size oq oq).trans (congrArg (fun cs=>some (AVal.pimm cs 0,_)) (ty_cells (b.kids.getD k Ty.zero)))) ?_
             refine drun 1 kq ?_
             refine dcallP (args:=[.agg [.int .i64 ((a.kids.getD k Ty.zero).kind),.str (a.kids.getD k Ty.zero).name,.int .i64 ((a.kids.getD k Ty.zero).n),.imm ((a.kids.getD k Ty.zero).names.map AVal.str),.imm ((a.kids.getD k Ty.zero).kids.map Ty.enc)],.agg [.int .i64 ((b.kids.getD k Ty.zero).kind),.str (b.kids.getD k Ty.zero).name,.int .i64 ((b.kids.getD k Ty.zero).n),.imm ((b.kids.getD k Ty.zero).names.map AVal.str),.imm ((b.kids.getD k Ty.zero).kids.map Ty.enc)]]) kq kq kq kq kq (hc k oq oq) (by intro _;simp [Ty.v]) (by simp [Ty.v]) (by simp [Ty.v]) ?_
             refine drun 1 kq ?_
             refine dend kq ⟨kq,?_⟩
             refine AThen_normal ?_
             refine wSt [2,3,6,7] [(2,.ptr 0 0),(3,.ptr 1 0),(6,.int .i64 ((k:Nat):Int)),(7,.bool ((a.kids.getD k Ty.zero).beq (b.kids.getD k Ty.zero)))] [a.bx,b.bx] kq kq ?_
             refine wSeq kq ?_
             refine wOrd kq (vstart ?_)
             refine vrun 2 kq ?_
             refine vend kq ?_
             refine AThen_normal ?_
             refine wSt [2,3,6,64] [(2,.ptr 0 0),(3,.ptr 1 0),(6,.int .i64 ((k:Nat):Int)),(64,.bool (!((a.kids.getD k Ty.zero).beq (b.kids.getD k Ty.zero))))] [a.bx,b.bx] kq kq ?_
             by_cases hb7:((a.kids.getD k Ty.zero).beq (b.kids.getD k Ty.zero))=true
             · refine wIfF kq (Eq.trans (b:=.bool (!((a.kids.getD k Ty.zero).beq (b.kids.getD k Ty.zero)))) kq (congrArg AVal.bool (congrArg not (hb7)))) ?_
               refine wSkip kq ?_
               refine AIn_normal ?_
               refine AThen_normal ?_
               refine wSt [2,3,6] [(2,.ptr 0 0),(3,.ptr 1 0),(6,.int .i64 ((k:Nat):Int))] [a.bx,b.bx] kq kq ?_
               refine wOrd kq (vstart ?_)
               refine vrun 1 kq ?_
               refine vsym kq kq (o_add (a:=((k:Nat):Int)) (b:=1) kq oq oq) ?_
               refine vrun 1 kq ?_
               refine vend kq ?_
               refine AThen_normal ⟨k+1,?_,?_,⟨⟨kq,kq,kq,trivial⟩,by simp [BelL,AVal.bel],by simp,kq,by simp [AObj.belO]⟩⟩
               · omega
               · refine ⟨by omega,fun i hi=>?_⟩
                 rcases Nat.lt_succ_iff_lt_or_eq.1 hi with h|h
                 · exact ha i h
                 · subst h;assumption
             · refine wIfT kq (Eq.trans (b:=.bool (!((a.kids.getD k Ty.zero).beq (b.kids.getD k Ty.zero)))) kq (congrArg AVal.bool (congrArg not (Bool.eq_false_iff.2 hb7)))) ?_
               refine wSeq kq ?_
               refine wOrd kq (vstart ?_)
               refine vrun 1 kq ?_
               refine vend kq ?_
               refine AThen_normal ?_
               refine wSt [4] [(4,.bool false)] [a.bx,b.bx] kq kq ?_
               refine wRet kq ?_
               refine AIn_ret ?_
               refine AThen_ret ?_
               refine AThen_ret ?_
               refine AIn_ret ?_
               refine AThen_ret ?_
               refine leafB (b:=false) (.inr rfl) kq ?_
               refine beq_lit ?_
               first|(simp only [zipAll_len Ty.beq a.kids b.kids oq,Bool.and_false];done)|(rw [zipAll_true Ty.beq Ty.zero Ty.zero a.kids b.kids oq (fun i hi=>ha i oq)];simp_all;done)|(rw [zipAll_at Ty.beq Ty.zero Ty.zero a.kids b.kids k oq oq (Bool.eq_false_iff.2 aq)];simp;done)|(simp_all;done)
           · refine wIfF kq (Eq.trans (b:=.bool (decide (((k:Nat):Int)<((a.kids.length:Nat):Int)))) kq (congrArg AVal.bool (decide_eq_false hb6))) ?_
             refine wExit 0 kq kq ?_
             refine AThen_exit ?_
             refine AThen_exit ?_
             refine AIn_exit ?_
             refine AThen_normal ?_
             refine wSt [] [] [a.bx,b.bx] kq kq ?_
             refine wSeq kq ?_
             refine wOrd kq (vstart ?_)
             refine vrun 1 kq ?_
             refine vend kq ?_
             refine AThen_normal ?_
             refine wSt [4] [(4,.bool true)] [a.bx,b.bx] kq kq ?_
             refine wRet kq ?_
             refine leafB (b:=true) (.inr rfl) kq ?_
             refine beq_lit ?_
             first|(simp only [zipAll_len Ty.beq a.kids b.kids oq,Bool.and_false];done)|(rw [zipAll_true Ty.beq Ty.zero Ty.zero a.kids b.kids oq (fun i hi=>ha i oq)];simp_all;done)|(rw [zipAll_at Ty.beq Ty.zero Ty.zero a.kids b.kids k oq oq (Bool.eq_false_iff.2 aq)];simp;done)|(simp_all;done)
         · refine wIfT kq (Eq.trans (b:=.bool (((a.kids.length:Nat):Int) != ((b.kids.length:Nat):Int))) kq (congrArg AVal.bool (bne_iff_ne.2 hb5))) ?_
           refine wSeq kq ?_
           refine wOrd kq (vstart ?_)
           refine vrun 1 kq ?_
           refine vend kq ?_
           refine AThen_normal ?_
           refine wSt [4] [(4,.bool false)] [a.bx,b.bx] kq kq ?_
           refine wRet kq ?_
           refine AThen_ret ?_
           refine leafB (b:=false) (.inr rfl) kq ?_
           refine beq_lit ?_
           first|(simp only [zipAll_len Ty.beq a.kids b.kids oq,Bool.and_false];done)|(rw [zipAll_true Ty.beq Ty.zero Ty.zero a.kids b.kids oq (fun i hi=>ha i oq)];simp_all;done)|(rw [zipAll_at Ty.beq Ty.zero Ty.zero a.kids b.kids k oq oq (Bool.eq_false_iff.2 aq)];simp;done)|(simp_all;done)
       · refine vset 34 (.bool ((a.n) != (b.n))) (.bool true) (extO extThen) kq (congrArg AVal.bool (bne_iff_ne.2 hb4)) ?_
         refine vset 35 (.bool ((a.n) != (b.n))) (.bool true) (extO extThen) kq (congrArg AVal.bool (bne_iff_ne.2 hb4)) ?_
         refine vset 36 (.bool ((a.n) != (b.n))) (.bool true) (extO extThen) kq (congrArg AVal.bool (bne_iff_ne.2 hb4)) ?_
         refine vrun 8 kq ?_
         refine vend kq ?_
         refine AThen_normal ?_
         refine wSt [2,3,44] [(2,.ptr 0 0),(3,.ptr 1 0),(44,.bool true)] [a.bx,b.bx] kq kq ?_
         refine wIfT kq kq ?_
         refine wSeq kq ?_
         refine wOrd kq (vstart ?_)
         refine vrun 1 kq ?_
         refine vend kq ?_
         refine AThen_normal ?_
         refine wSt [4] [(4,.bool false)] [a.bx,b.bx] kq kq ?_
         refine wRet kq ?_
         refine AThen_ret ?_
         refine leafB (b:=false) (.inr rfl) kq ?_
         refine beq_lit ?_
         first|(simp only [zipAll_len Ty.beq a.kids b.kids oq,Bool.and_false];done)|(rw [zipAll_true Ty.beq Ty.zero Ty.zero a.kids b.kids oq (fun i hi=>ha i oq)];simp_all;done)|(rw [zipAll_at Ty.beq Ty.zero Ty.zero a.kids b.kids k oq oq (Bool.eq_false_iff.2 aq)];simp;done)|(simp_all;done)
     · refine vset 27 (.bool (!(a.name==b.name))) (.bool true) (extO extThen) kq (congrArg AVal.bool (congrArg not (beq_eq_false_iff_ne.2 hb3))) ?_
       refine vset 28 (.bool (!(a.name==b.name))) (.bool true) (extO extThen) kq (congrArg AVal.bool (congrArg not (beq_eq_false_iff_ne.2 hb3))) ?_
       refine vset 29 (.bool (!(a.name==b.name))) (.bool true) (extO extThen) kq (congrArg AVal.bool (congrArg not (beq_eq_false_iff_ne.2 hb3))) ?_
       refine vrun 15 kq ?_
       refine vend kq ?_
       refine AThen_normal ?_
       refine wSt [2,3,44] [(2,.ptr 0 0),(3,.ptr 1 0),(44,.bool true)] [a.bx,b.bx] kq kq ?_
       refine wIfT kq kq ?_
       refine wSeq kq ?_
       refine wOrd kq (vstart ?_)
       refine vrun 1 kq ?_
       refine vend kq ?_
       refine AThen_normal ?_
       refine wSt [4] [(4,.bool false)] [a.bx,b.bx] kq kq ?_
       refine wRet kq ?_
       refine AThen_ret ?_
       refine leafB (b:=false) (.inr rfl) kq ?_
       refine beq_lit ?_
       first|(simp only [zipAll_len Ty.beq a.kids b.kids oq,Bool.and_false];done)|(rw [zipAll_true Ty.beq Ty.zero Ty.zero a.kids b.kids oq (fun i hi=>ha i oq)];simp_all;done)|(rw [zipAll_at Ty.beq Ty.zero Ty.zero a.kids b.kids k oq oq (Bool.eq_false_iff.2 aq)];simp;done)|(simp_all;done)
   · refine vset 20 (.bool ((a.kind) != (b.kind))) (.bool true) (extO extThen) kq (congrArg AVal.bool (bne_iff_ne.2 hb2)) ?_
     refine vset 21 (.bool ((a.kind) != (b.kind))) (.bool true) (extO extThen) kq (congrArg AVal.bool (bne_iff_ne.2 hb2)) ?_
     refine vset 22 (.bool ((a.kind) != (b.kind))) (.bool true) (extO extThen) kq (congrArg AVal.bool (bne_iff_ne.2 hb2)) ?_
     refine vrun 22 kq ?_
     refine vend kq ?_
     refine AThen_normal ?_
     refine wSt [2,3,44] [(2,.ptr 0 0),(3,.ptr 1 0),(44,.bool true)] [a.bx,b.bx] kq kq ?_
     refine wIfT kq kq ?_
     refine wSeq kq ?_
     refine wOrd kq (vstart ?_)
     refine vrun 1 kq ?_
     refine vend kq ?_
     refine AThen_normal ?_
     refine wSt [4] [(4,.bool false)] [a.bx,b.bx] kq kq ?_
     refine wRet kq ?_
     refine AThen_ret ?_
     refine leafB (b:=false) (.inr rfl) kq ?_
     refine beq_lit ?_
     first|(simp only [zipAll_len Ty.beq a.kids b.kids oq,Bool.and_false];done)|(rw [zipAll_true Ty.beq Ty.zero Ty.zero a.kids b.kids oq (fun i hi=>ha i oq)];simp_all;done)|(rw [zipAll_at Ty.beq Ty.zero Ty.zero a.kids b.kids k oq oq (Bool.eq_false_iff.2 aq)];simp;done)|(simp_all;done)
 · refine vset 14 (.bool (!(a.names==b.names))) (.bool true) (extO extThen) kq (congrArg AVal.bool (congrArg not (Bool.eq_false_iff.2 hb1))) ?_
   refine vset 15 (.bool (!(a.names==b.names))) (.bool true) (extO extThen) kq (congrArg AVal.bool (congrArg not (Bool.eq_false_iff.2 hb1))) ?_
   refine vrun 29 kq ?_
   refine vend kq ?_
   refine AThen_normal ?_
   refine wSt [2,3,44] [(2,.ptr 0 0),(3,.ptr 1 0),(44,.bool true)] [a.bx,b.bx] kq kq ?_
   refine wIfT kq kq ?_
   refine wSeq kq ?_
   refine wOrd kq (vstart ?_)
   refine vrun 1 kq ?_
   refine vend kq ?_
   refine AThen_normal ?_
   refine wSt [4] [(4,.bool false)] [a.bx,b.bx] kq kq ?_
   refine wRet kq ?_
   refine AThen_ret ?_
   refine leafB (b:=false) (.inr rfl) kq ?_
   refine beq_lit ?_
   first|(simp only [zipAll_len Ty.beq a.kids b.kids oq,Bool.and_false];done)|(rw [zipAll_true Ty.beq Ty.zero Ty.zero a.kids b.kids oq (fun i hi=>ha i oq)];simp_all;done)|(rw [zipAll_at Ty.beq Ty.zero Ty.zero a.kids b.kids k oq oq (Bool.eq_false_iff.2 aq)];simp;done)|(simp_all;done)
end Go.Proofs.YtindpcpdkikdmaaGreatDoor
