/- Equal of constructors, columns, references and sums. Condition: sizes that can be had. -/
import Derived.Test.YtindpcpdkikdmaaGreatDoorC5
set_option linter.all false
namespace Go.Proofs.YtindpcpdkikdmaaGreatDoor
open Go.Proofs.YtindpcpdkikdmaaGreatDoor.Abs
set_option maxRecDepth 20000
set_option maxHeartbeats 4000000
noncomputable def c25:Code:=bodyOf Tryz.f25
theorem ctEqual_spec (a b:Ct) (hs:a.sm):CallsP cx 25 [Ct.v a,Ct.v b] (.bool (a.beq b)):=by
 refine func_intro (cx:=cx) 24 0 [(ResultVar.tmp 4)] Tryz.func25 rfl rfl rfl rfl rfl zq ?_
 show wpA cx 24 0 (at_ c25 []) _ _ _
 refine wSt [0,1] [(0,Ct.v a),(1,Ct.v b)] [] kq kq ?_
 refine wSeq kq ?_
 refine wOrd kq (vstart ?_)
 refine vrun 3 kq ?_
 refine vend kq ?_
 refine AThen_normal ?_
 refine wSt [2,3] [(2,.ptr 0 0),(3,.ptr 1 0)] [.box [.str a.name,.bool (a.has),.int .i64 (a.arg.kind),.str a.arg.name,.int .i64 (a.arg.n),.imm (a.arg.names.map AVal.str),.imm (a.arg.kids.map Ty.enc)],.box [.str b.name,.bool (b.has),.int .i64 (b.arg.kind),.str b.arg.name,.int .i64 (b.arg.n),.imm (b.arg.names.map AVal.str),.imm (b.arg.kids.map Ty.enc)]] kq kq ?_
 refine wSeq kq ?_
 refine wOrd kq (vstart ?_)
 refine vrun 6 kq ?_
 by_cases hb1:a.name=b.name
 · refine vset 9 (.bool (a.name==b.name)) (.bool true) (extO extThen) kq (congrArg AVal.bool (beq_iff_eq.2 hb1)) ?_
   refine vset 10 (.bool (a.name==b.name)) (.bool true) (extO extThen) kq (congrArg AVal.bool (beq_iff_eq.2 hb1)) ?_
   refine vrun 7 kq ?_
   by_cases hb2:((a.has)==(b.has))=true
   · refine vset 15 (.bool ((a.has)==(b.has))) (.bool true) (extO extThen) kq (congrArg AVal.bool (hb2)) ?_
     refine vset 16 (.bool ((a.has)==(b.has))) (.bool true) (extO extThen) kq (congrArg AVal.bool (hb2)) ?_
     refine vset 17 (.bool ((a.has)==(b.has))) (.bool true) (extO extThen) kq (congrArg AVal.bool (hb2)) ?_
     refine vrun 4 kq ?_
     refine vcallP (args:=[.agg [.int .i64 (a.arg.kind),.str a.arg.name,.int .i64 (a.arg.n),.imm (a.arg.names.map AVal.str),.imm (a.arg.kids.map Ty.enc)],.agg [.int .i64 (b.arg.kind),.str b.arg.name,.int .i64 (b.arg.n),.imm (b.arg.names.map AVal.str),.imm (b.arg.kids.map Ty.enc)]]) kq kq kq kq (tEqual_spec a.arg b.arg (by exact hs)) (by simp [Ty.v,Ex.v,Ct.v,Co.v,Rf.v,Sm.v,Tb.v]) (by simp [Ty.v,Ex.v,Ct.v,Co.v,Rf.v,Sm.v,Tb.v]) (by simp [Ty.v,Ex.v,Ct.v,Co.v,Rf.v,Sm.v,Tb.v]) ?_
     refine vrun 2 kq ?_
     refine vend kq ?_
     refine AThen_normal ?_
     refine wSt [4] [(4,.bool (a.arg.beq b.arg))] [.box [.str a.name,.bool (a.has),.int .i64 (a.arg.kind),.str a.arg.name,.int .i64 (a.arg.n),.imm (a.arg.names.map AVal.str),.imm (a.arg.kids.map Ty.enc)],.box [.str b.name,.bool (b.has),.int .i64 (b.arg.kind),.str b.arg.name,.int .i64 (b.arg.n),.imm (b.arg.names.map AVal.str),.imm (b.arg.kids.map Ty.enc)]] kq kq ?_
     refine wRet kq ?_
     refine leafB (b:=(a.arg.beq b.arg)) (.inr rfl) kq ?_
     simp [Ct.beq, *]
   · refine vset 15 (.bool ((a.has)==(b.has))) (.bool false) (extO extThen) kq (congrArg AVal.bool (Bool.eq_false_iff.2 hb2)) ?_
     refine vset 16 (.bool ((a.has)==(b.has))) (.bool false) (extO extThen) kq (congrArg AVal.bool (Bool.eq_false_iff.2 hb2)) ?_
     refine vset 17 (.bool ((a.has)==(b.has))) (.bool false) (extO extThen) kq (congrArg AVal.bool (Bool.eq_false_iff.2 hb2)) ?_
     refine vrun 7 kq ?_
     refine vend kq ?_
     refine AThen_normal ?_
     refine wSt [4] [(4,.bool false)] [.box [.str a.name,.bool (a.has),.int .i64 (a.arg.kind),.str a.arg.name,.int .i64 (a.arg.n),.imm (a.arg.names.map AVal.str),.imm (a.arg.kids.map Ty.enc)],.box [.str b.name,.bool (b.has),.int .i64 (b.arg.kind),.str b.arg.name,.int .i64 (b.arg.n),.imm (b.arg.names.map AVal.str),.imm (b.arg.kids.map Ty.enc)]] kq kq ?_
     refine wRet kq ?_
     refine leafB (b:=false) (.inr rfl) kq ?_
     simp [Ct.beq, *]
 · refine vset 9 (.bool (a.name==b.name)) (.bool false) (extO extThen) kq (congrArg AVal.bool (beq_eq_false_iff_ne.2 hb1)) ?_
   refine vset 10 (.bool (a.name==b.name)) (.bool false) (extO extThen) kq (congrArg AVal.bool (beq_eq_false_iff_ne.2 hb1)) ?_
   refine vrun 14 kq ?_
   refine vend kq ?_
   refine AThen_normal ?_
   refine wSt [4] [(4,.bool false)] [.box [.str a.name,.bool (a.has),.int .i64 (a.arg.kind),.str a.arg.name,.int .i64 (a.arg.n),.imm (a.arg.names.map AVal.str),.imm (a.arg.kids.map Ty.enc)],.box [.str b.name,.bool (b.has),.int .i64 (b.arg.kind),.str b.arg.name,.int .i64 (b.arg.n),.imm (b.arg.names.map AVal.str),.imm (b.arg.kids.map Ty.enc)]] kq kq ?_
   refine wRet kq ?_
   refine leafB (b:=false) (.inr rfl) kq ?_
   simp [Ct.beq, *]
noncomputable def c29:Code:=bodyOf Tryz.f29
theorem coEqual_spec (a b:Co) (hs:a.sm):CallsP cx 29 [Co.v a,Co.v b] (.bool (a.beq b)):=by
 refine func_intro (cx:=cx) 17 0 [(ResultVar.tmp 4)] Tryz.func29 rfl rfl rfl rfl rfl zq ?_
 show wpA cx 17 0 (at_ c29 []) _ _ _
 refine wSt [0,1] [(0,Co.v a),(1,Co.v b)] [] kq kq ?_
 refine wSeq kq ?_
 refine wOrd kq (vstart ?_)
 refine vrun 3 kq ?_
 refine vend kq ?_
 refine AThen_normal ?_
 refine wSt [2,3] [(2,.ptr 0 0),(3,.ptr 1 0)] [.box [.str a.name,.int .i64 (a.type.kind),.str a.type.name,.int .i64 (a.type.n),.imm (a.type.names.map AVal.str),.imm (a.type.kids.map Ty.enc)],.box [.str b.name,.int .i64 (b.type.kind),.str b.type.name,.int .i64 (b.type.n),.imm (b.type.names.map AVal.str),.imm (b.type.kids.map Ty.enc)]] kq kq ?_
 refine wSeq kq ?_
 refine wOrd kq (vstart ?_)
 refine vrun 6 kq ?_
 by_cases hb1:a.name=b.name
 · refine vset 9 (.bool (a.name==b.name)) (.bool true) (extO extThen) kq (congrArg AVal.bool (beq_iff_eq.2 hb1)) ?_
   refine vset 10 (.bool (a.name==b.name)) (.bool true) (extO extThen) kq (congrArg AVal.bool (beq_iff_eq.2 hb1)) ?_
   refine vrun 4 kq ?_
   refine vcallP (args:=[.agg [.int .i64 (a.type.kind),.str a.type.name,.int .i64 (a.type.n),.imm (a.type.names.map AVal.str),.imm (a.type.kids.map Ty.enc)],.agg [.int .i64 (b.type.kind),.str b.type.name,.int .i64 (b.type.n),.imm (b.type.names.map AVal.str),.imm (b.type.kids.map Ty.enc)]]) kq kq kq kq (tEqual_spec a.type b.type (by exact hs)) (by simp [Ty.v,Ex.v,Ct.v,Co.v,Rf.v,Sm.v,Tb.v]) (by simp [Ty.v,Ex.v,Ct.v,Co.v,Rf.v,Sm.v,Tb.v]) (by simp [Ty.v,Ex.v,Ct.v,Co.v,Rf.v,Sm.v,Tb.v]) ?_
   refine vrun 2 kq ?_
   refine vend kq ?_
   refine AThen_normal ?_
   refine wSt [4] [(4,.bool (a.type.beq b.type))] [.box [.str a.name,.int .i64 (a.type.kind),.str a.type.name,.int .i64 (a.type.n),.imm (a.type.names.map AVal.str),.imm (a.type.kids.map Ty.enc)],.box [.str b.name,.int .i64 (b.type.kind),.str b.type.name,.int .i64 (b.type.n),.imm (b.type.names.map AVal.str),.imm (b.type.kids.map Ty.enc)]] kq kq ?_
   refine wRet kq ?_
   refine leafB (b:=(a.type.beq b.type)) (.inr rfl) kq ?_
   simp [Co.beq, *]
 · refine vset 9 (.bool (a.name==b.name)) (.bool false) (extO extThen) kq (congrArg AVal.bool (beq_eq_false_iff_ne.2 hb1)) ?_
   refine vset 10 (.bool (a.name==b.name)) (.bool false) (extO extThen) kq (congrArg AVal.bool (beq_eq_false_iff_ne.2 hb1)) ?_
   refine vrun 7 kq ?_
   refine vend kq ?_
   refine AThen_normal ?_
   refine wSt [4] [(4,.bool false)] [.box [.str a.name,.int .i64 (a.type.kind),.str a.type.name,.int .i64 (a.type.n),.imm (a.type.names.map AVal.str),.imm (a.type.kids.map Ty.enc)],.box [.str b.name,.int .i64 (b.type.kind),.str b.type.name,.int .i64 (b.type.n),.imm (b.type.names.map AVal.str),.imm (b.type.kids.map Ty.enc)]] kq kq ?_
   refine wRet kq ?_
   refine leafB (b:=false) (.inr rfl) kq ?_
   simp [Co.beq, *]
noncomputable def c28:Code:=bodyOf Tryz.f28
theorem eqFuncCt_spec (a b:List Ct) (f:Nat) (p:Ct→Ct→Bool) (hc:∀ i,i<a.length→i<b.length→CallsP cx f [(a.getD i Ct.zero).v,(b.getD i Ct.zero).v] (.bool (p (a.getD i Ct.zero) (b.getD i Ct.zero)))) (hn:a.length<1000000000):CallsP cx 28 [.imm (a.map Ct.v),.imm (b.map Ct.v),.fn (.func f) [] []] (.bool (zipAll p a b)):=by
 refine func_intro (cx:=cx) 32 0 [(ResultVar.tmp 6)] Tryz.func28 rfl rfl rfl rfl rfl zq ?_
 show wpA cx 32 0 (at_ c28 []) _ _ _
 refine wSt [0,1,2] [(0,.imm (a.map Ct.v)),(1,.imm (b.map Ct.v)),(2,.fn (.func f) [] [])] [] kq kq ?_
 refine wSeq kq ?_
 refine wOrd kq (vstart ?_)
 refine vrun 1 kq ?_
 refine vend kq ?_
 refine AThen_normal ?_
 refine wSt [0,1,2] [(0,.imm (a.map Ct.v)),(1,.imm (b.map Ct.v)),(2,.fn (.func f) [] [])] [] kq kq ?_
 refine wSeq kq ?_
 refine wSeq kq ?_
 refine wOrd kq (vstart ?_)
 refine vrun 1 kq ?_
 refine vsym kq kq (o_lenmap (l:=a) (enc:=Ct.v) kq ty44) ?_
 refine vrun 1 kq ?_
 refine vsym kq kq (o_lenmap (l:=b) (enc:=Ct.v) kq ty44) ?_
 refine vrun 1 kq ?_
 refine vend kq ?_
 refine AThen_normal ?_
 refine wSt [0,1,2,14] [(0,.imm (a.map Ct.v)),(1,.imm (b.map Ct.v)),(2,.fn (.func f) [] []),(14,.bool (((a.length:Nat):Int) != ((b.length:Nat):Int)))] [] kq kq ?_
 by_cases hb1:((a.length:Nat):Int)=((b.length:Nat):Int)
 · refine wIfF kq (Eq.trans (b:=.bool (((a.length:Nat):Int) != ((b.length:Nat):Int))) kq (congrArg AVal.bool (bne_eq_false_iff_eq.2 hb1))) ?_
   refine wSkip kq ?_
   refine AThen_normal ?_
   refine wSt [0,1,2] [(0,.imm (a.map Ct.v)),(1,.imm (b.map Ct.v)),(2,.fn (.func f) [] [])] [] kq kq ?_
   refine wSeq kq ?_
   refine wSeq kq ?_
   refine wOrd kq (vstart ?_)
   refine vrun 1 kq ?_
   refine vsym kq kq (o_lenmap (l:=a) (enc:=Ct.v) kq ty44) ?_
   refine vrun 1 kq ?_
   refine vend kq ?_
   refine AThen_normal ?_
   refine wSt [1,2,15,16,17] [(1,.imm (b.map Ct.v)),(2,.fn (.func f) [] []),(15,.imm (a.map Ct.v)),(16,.int .i64 ((a.length:Nat):Int)),(17,.int .i64 0)] [] kq kq ?_
   refine wBlock 0 kq kq ?_
   refine wLoop (σ:=Nat) (fun k=>[(1,.imm (b.map Ct.v)),(2,.fn (.func f) [] []),(15,.imm (a.map Ct.v)),(16,.int .i64 ((a.length:Nat):Int)),(17,.int .i64 ((k:Nat):Int))]) (fun k=>[]) (fun k=>k≤a.length∧∀ i,i<k→p (a.getD i Ct.zero) (b.getD i Ct.zero)=true) (fun k=>a.length - k) 0 kq zq ⟨⟨kq,kq,kq,kq,kq,trivial⟩,by simp [BelL,AVal.bel],by simp,kq,by simp⟩ ?_
   rintro k ⟨hk,ha⟩
   refine wSeq kq ?_
   refine wOrd kq (vstart ?_)
   refine vrun 1 kq ?_
   refine vend kq ?_
   refine AThen_normal ?_
   refine wSt [1,2,15,16,17,18] [(1,.imm (b.map Ct.v)),(2,.fn (.func f) [] []),(15,.imm (a.map Ct.v)),(16,.int .i64 ((a.length:Nat):Int)),(17,.int .i64 ((k:Nat):Int)),(18,.bool (decide (((k:Nat):Int)<((a.length:Nat):Int))))] [] kq kq ?_
   refine wSeq kq ?_
   by_cases hb2:((k:Nat):Int)<((a.length:Nat):Int)
   · refine wIfT kq (Eq.trans (b:=.bool (decide (((k:Nat):Int)<((a.length:Nat):Int)))) kq (congrArg AVal.bool (decide_eq_true hb2))) ?_
     refine wSkip kq ?_
     refine AThen_normal ?_
     refine wSt [1,2,15,16,17] [(1,.imm (b.map Ct.v)),(2,.fn (.func f) [] []),(15,.imm (a.map Ct.v)),(16,.int .i64 ((a.length:Nat):Int)),(17,.int .i64 ((k:Nat):Int))] [] kq kq ?_
     refine wSeq kq ?_
     refine wBlock 1 kq kq ?_
     refine wSeq kq ?_
     refine wOrd kq (vstart ?_)
     refine vrun 1 kq ?_
     refine vsym kq kq ((o_ixmap (k:=.i64) (l:=a) (enc:=Ct.v) (i:=((k:Nat):Int)) Ct.zero kq ty44 ty60 (fun _=>rfl) oq oq).trans (congrArg (fun cs=>some (AVal.pimm cs 0,_)) (ct_cells (a.getD k Ct.zero)))) ?_
     refine vrun 4 kq ?_
     refine vend kq ?_
     refine AThen_normal ?_
     refine wSt [1,2,7,8,15,16,17] [(1,.imm (b.map Ct.v)),(2,.fn (.func f) [] []),(7,.int .i64 ((k:Nat):Int)),(8,.ptr 0 0),(15,.imm (a.map Ct.v)),(16,.int .i64 ((a.length:Nat):Int)),(17,.int .i64 ((k:Nat):Int))] [.box [.str (a.getD k Ct.zero).name,.bool ((a.getD k Ct.zero).has),.int .i64 ((a.getD k Ct.zero).arg.kind),.str (a.getD k Ct.zero).arg.name,.int .i64 ((a.getD k Ct.zero).arg.n),.imm ((a.getD k Ct.zero).arg.names.map AVal.str),.imm ((a.getD k Ct.zero).arg.kids.map Ty.enc)]] kq kq ?_
     refine wSeq kq ?_
     refine wOrd kq (vstart ?_)
     refine vrun 2 kq ?_
     refine vsym kq kq ((o_ixmap (k:=.i64) (l:=b) (enc:=Ct.v) (i:=((k:Nat):Int)) Ct.zero kq ty44 ty60 (fun _=>rfl) oq oq).trans (congrArg (fun cs=>some (AVal.pimm cs 0,_)) (ct_cells (b.getD k Ct.zero)))) ?_
     refine vrun 3 kq ?_
     refine vend kq ?_
     refine AThen_normal ?_
     refine wSt [1,2,8,9,15,16,17] [(1,.imm (b.map Ct.v)),(2,.fn (.func f) [] []),(8,.ptr 0 0),(9,.ptr 1 0),(15,.imm (a.map Ct.v)),(16,.int .i64 ((a.length:Nat):Int)),(17,.int .i64 ((k:Nat):Int))] [.box [.str (a.getD k Ct.zero).name,.bool ((a.getD k Ct.zero).has),.int .i64 ((a.getD k Ct.zero).arg.kind),.str (a.getD k Ct.zero).arg.name,.int .i64 ((a.getD k Ct.zero).arg.n),.imm ((a.getD k Ct.zero).arg.names.map AVal.str),.imm ((a.getD k Ct.zero).arg.kids.map Ty.enc)],.box [.str (b.getD k Ct.zero).name,.bool ((b.getD k Ct.zero).has),.int .i64 ((b.getD k Ct.zero).arg.kind),.str (b.getD k Ct.zero).arg.name,.int .i64 ((b.getD k Ct.zero).arg.n),.imm ((b.getD k Ct.zero).arg.names.map AVal.str),.imm ((b.getD k Ct.zero).arg.kids.map Ty.enc)]] kq kq ?_
     refine wSeq kq ?_
     refine wOrd kq (vstart ?_)
     refine vrun 3 kq ?_
     refine vcallP (args:=[.agg [.str (a.getD k Ct.zero).name,.bool ((a.getD k Ct.zero).has),.int .i64 ((a.getD k Ct.zero).arg.kind),.str (a.getD k Ct.zero).arg.name,.int .i64 ((a.getD k Ct.zero).arg.n),.imm ((a.getD k Ct.zero).arg.names.map AVal.str),.imm ((a.getD k Ct.zero).arg.kids.map Ty.enc)],.agg [.str (b.getD k Ct.zero).name,.bool ((b.getD k Ct.zero).has),.int .i64 ((b.getD k Ct.zero).arg.kind),.str (b.getD k Ct.zero).arg.name,.int .i64 ((b.getD k Ct.zero).arg.n),.imm ((b.getD k Ct.zero).arg.names.map AVal.str),.imm ((b.getD k Ct.zero).arg.kids.map Ty.enc)]]) kq kq kq kq (hc k oq oq) (by simp [Ty.v,Ex.v,Ct.v,Co.v,Rf.v,Sm.v,Tb.v]) (by simp [Ty.v,Ex.v,Ct.v,Co.v,Rf.v,Sm.v,Tb.v]) (by simp [Ty.v,Ex.v,Ct.v,Co.v,Rf.v,Sm.v,Tb.v]) ?_
     refine vrun 1 kq ?_
     refine vend kq ?_
     refine AThen_normal ?_
     refine wSt [1,2,15,16,17,30] [(1,.imm (b.map Ct.v)),(2,.fn (.func f) [] []),(15,.imm (a.map Ct.v)),(16,.int .i64 ((a.length:Nat):Int)),(17,.int .i64 ((k:Nat):Int)),(30,.bool (!(p (a.getD k Ct.zero) (b.getD k Ct.zero))))] [.box [.str (a.getD k Ct.zero).name,.bool ((a.getD k Ct.zero).has),.int .i64 ((a.getD k Ct.zero).arg.kind),.str (a.getD k Ct.zero).arg.name,.int .i64 ((a.getD k Ct.zero).arg.n),.imm ((a.getD k Ct.zero).arg.names.map AVal.str),.imm ((a.getD k Ct.zero).arg.kids.map Ty.enc)],.box [.str (b.getD k Ct.zero).name,.bool ((b.getD k Ct.zero).has),.int .i64 ((b.getD k Ct.zero).arg.kind),.str (b.getD k Ct.zero).arg.name,.int .i64 ((b.getD k Ct.zero).arg.n),.imm ((b.getD k Ct.zero).arg.names.map AVal.str),.imm ((b.getD k Ct.zero).arg.kids.map Ty.enc)]] kq kq ?_
     by_cases hb3:(p (a.getD k Ct.zero) (b.getD k Ct.zero))=true
     · refine wIfF kq (Eq.trans (b:=.bool (!(p (a.getD k Ct.zero) (b.getD k Ct.zero)))) kq (congrArg AVal.bool (congrArg not (hb3)))) ?_
       refine wSkip kq ?_
       refine AIn_normal ?_
       refine AThen_normal ?_
       refine wSt [1,2,15,16,17] [(1,.imm (b.map Ct.v)),(2,.fn (.func f) [] []),(15,.imm (a.map Ct.v)),(16,.int .i64 ((a.length:Nat):Int)),(17,.int .i64 ((k:Nat):Int))] [.box [.str (a.getD k Ct.zero).name,.bool ((a.getD k Ct.zero).has),.int .i64 ((a.getD k Ct.zero).arg.kind),.str (a.getD k Ct.zero).arg.name,.int .i64 ((a.getD k Ct.zero).arg.n),.imm ((a.getD k Ct.zero).arg.names.map AVal.str),.imm ((a.getD k Ct.zero).arg.kids.map Ty.enc)],.box [.str (b.getD k Ct.zero).name,.bool ((b.getD k Ct.zero).has),.int .i64 ((b.getD k Ct.zero).arg.kind),.str (b.getD k Ct.zero).arg.name,.int .i64 ((b.getD k Ct.zero).arg.n),.imm ((b.getD k Ct.zero).arg.names.map AVal.str),.imm ((b.getD k Ct.zero).arg.kids.map Ty.enc)]] kq kq ?_
       refine wOrd kq (vstart ?_)
       refine vsym kq kq (o_add (a:=((k:Nat):Int)) (b:=1) kq oq oq) ?_
       refine vrun 1 kq ?_
       refine vend kq ?_
       refine AThen_normal ⟨k+1,?_,?_,⟨⟨kq,kq,kq,kq,kq,trivial⟩,by simp [BelL,AVal.bel],by simp,kq,by simp⟩⟩
       · omega
       · refine ⟨by omega,fun i hi=>?_⟩
         rcases Nat.lt_succ_iff_lt_or_eq.1 hi with h|h
         · exact ha i h
         · subst h;assumption
     · refine wIfT kq (Eq.trans (b:=.bool (!(p (a.getD k Ct.zero) (b.getD k Ct.zero)))) kq (congrArg AVal.bool (congrArg not (Bool.eq_false_iff.2 hb3)))) ?_
       refine wSeq kq ?_
       refine wOrd kq (vstart ?_)
       refine vrun 1 kq ?_
       refine vend kq ?_
       refine AThen_normal ?_
       refine wSt [6] [(6,.bool false)] [.box [.str (a.getD k Ct.zero).name,.bool ((a.getD k Ct.zero).has),.int .i64 ((a.getD k Ct.zero).arg.kind),.str (a.getD k Ct.zero).arg.name,.int .i64 ((a.getD k Ct.zero).arg.n),.imm ((a.getD k Ct.zero).arg.names.map AVal.str),.imm ((a.getD k Ct.zero).arg.kids.map Ty.enc)],.box [.str (b.getD k Ct.zero).name,.bool ((b.getD k Ct.zero).has),.int .i64 ((b.getD k Ct.zero).arg.kind),.str (b.getD k Ct.zero).arg.name,.int .i64 ((b.getD k Ct.zero).arg.n),.imm ((b.getD k Ct.zero).arg.names.map AVal.str),.imm ((b.getD k Ct.zero).arg.kids.map Ty.enc)]] kq kq ?_
       refine wRet kq ?_
       refine AIn_ret ?_
       refine AThen_ret ?_
       refine AThen_ret ?_
       refine AIn_ret ?_
       refine AThen_ret ?_
       refine leafB (b:=false) (.inr rfl) kq ?_
       first|exact (zipAll_len p a b oq).symm|exact (zipAll_true p Ct.zero Ct.zero a b oq (fun i hi=>ha i oq)).symm|exact (zipAll_at p Ct.zero Ct.zero a b k oq oq (Bool.eq_false_iff.2 aq)).symm
   · refine wIfF kq (Eq.trans (b:=.bool (decide (((k:Nat):Int)<((a.length:Nat):Int)))) kq (congrArg AVal.bool (decide_eq_false hb2))) ?_
     refine wExit 0 kq kq ?_
     refine AThen_exit ?_
     refine AThen_exit ?_
     refine AIn_exit ?_
     refine AThen_normal ?_
     refine wSt [] [] [] kq kq ?_
     refine wSeq kq ?_
     refine wOrd kq (vstart ?_)
     refine vrun 1 kq ?_
     refine vend kq ?_
     refine AThen_normal ?_
     refine wSt [6] [(6,.bool true)] [] kq kq ?_
     refine wRet kq ?_
     refine leafB (b:=true) (.inr rfl) kq ?_
     first|exact (zipAll_len p a b oq).symm|exact (zipAll_true p Ct.zero Ct.zero a b oq (fun i hi=>ha i oq)).symm|exact (zipAll_at p Ct.zero Ct.zero a b k oq oq (Bool.eq_false_iff.2 aq)).symm
 · refine wIfT kq (Eq.trans (b:=.bool (((a.length:Nat):Int) != ((b.length:Nat):Int))) kq (congrArg AVal.bool (bne_iff_ne.2 hb1))) ?_
   refine wSeq kq ?_
   refine wOrd kq (vstart ?_)
   refine vrun 1 kq ?_
   refine vend kq ?_
   refine AThen_normal ?_
   refine wSt [6] [(6,.bool false)] [] kq kq ?_
   refine wRet kq ?_
   refine AThen_ret ?_
   refine leafB (b:=false) (.inr rfl) kq ?_
   first|exact (zipAll_len p a b oq).symm|exact (zipAll_true p Ct.zero Ct.zero a b oq (fun i hi=>ha i oq)).symm|exact (zipAll_at p Ct.zero Ct.zero a b k oq oq (Bool.eq_false_iff.2 aq)).symm
noncomputable def c31:Code:=bodyOf Tryz.f31
theorem eqFuncCo_spec (a b:List Co) (f:Nat) (p:Co→Co→Bool) (hc:∀ i,i<a.length→i<b.length→CallsP cx f [(a.getD i Co.zero).v,(b.getD i Co.zero).v] (.bool (p (a.getD i Co.zero) (b.getD i Co.zero)))) (hn:a.length<1000000000):CallsP cx 31 [.imm (a.map Co.v),.imm (b.map Co.v),.fn (.func f) [] []] (.bool (zipAll p a b)):=by
 refine func_intro (cx:=cx) 32 0 [(ResultVar.tmp 6)] Tryz.func31 rfl rfl rfl rfl rfl zq ?_
 show wpA cx 32 0 (at_ c31 []) _ _ _
 refine wSt [0,1,2] [(0,.imm (a.map Co.v)),(1,.imm (b.map Co.v)),(2,.fn (.func f) [] [])] [] kq kq ?_
 refine wSeq kq ?_
 refine wOrd kq (vstart ?_)
 refine vrun 1 kq ?_
 refine vend kq ?_
 refine AThen_normal ?_
 refine wSt [0,1,2] [(0,.imm (a.map Co.v)),(1,.imm (b.map Co.v)),(2,.fn (.func f) [] [])] [] kq kq ?_
 refine wSeq kq ?_
 refine wSeq kq ?_
 refine wOrd kq (vstart ?_)
 refine vrun 1 kq ?_
 refine vsym kq kq (o_lenmap (l:=a) (enc:=Co.v) kq ty35) ?_
 refine vrun 1 kq ?_
 refine vsym kq kq (o_lenmap (l:=b) (enc:=Co.v) kq ty35) ?_
 refine vrun 1 kq ?_
 refine vend kq ?_
 refine AThen_normal ?_
 refine wSt [0,1,2,14] [(0,.imm (a.map Co.v)),(1,.imm (b.map Co.v)),(2,.fn (.func f) [] []),(14,.bool (((a.length:Nat):Int) != ((b.length:Nat):Int)))] [] kq kq ?_
 by_cases hb1:((a.length:Nat):Int)=((b.length:Nat):Int)
 · refine wIfF kq (Eq.trans (b:=.bool (((a.length:Nat):Int) != ((b.length:Nat):Int))) kq (congrArg AVal.bool (bne_eq_false_iff_eq.2 hb1))) ?_
   refine wSkip kq ?_
   refine AThen_normal ?_
   refine wSt [0,1,2] [(0,.imm (a.map Co.v)),(1,.imm (b.map Co.v)),(2,.fn (.func f) [] [])] [] kq kq ?_
   refine wSeq kq ?_
   refine wSeq kq ?_
   refine wOrd kq (vstart ?_)
   refine vrun 1 kq ?_
   refine vsym kq kq (o_lenmap (l:=a) (enc:=Co.v) kq ty35) ?_
   refine vrun 1 kq ?_
   refine vend kq ?_
   refine AThen_normal ?_
   refine wSt [1,2,15,16,17] [(1,.imm (b.map Co.v)),(2,.fn (.func f) [] []),(15,.imm (a.map Co.v)),(16,.int .i64 ((a.length:Nat):Int)),(17,.int .i64 0)] [] kq kq ?_
   refine wBlock 0 kq kq ?_
   refine wLoop (σ:=Nat) (fun k=>[(1,.imm (b.map Co.v)),(2,.fn (.func f) [] []),(15,.imm (a.map Co.v)),(16,.int .i64 ((a.length:Nat):Int)),(17,.int .i64 ((k:Nat):Int))]) (fun k=>[]) (fun k=>k≤a.length∧∀ i,i<k→p (a.getD i Co.zero) (b.getD i Co.zero)=true) (fun k=>a.length - k) 0 kq zq ⟨⟨kq,kq,kq,kq,kq,trivial⟩,by simp [BelL,AVal.bel],by simp,kq,by simp⟩ ?_
   rintro k ⟨hk,ha⟩
   refine wSeq kq ?_
   refine wOrd kq (vstart ?_)
   refine vrun 1 kq ?_
   refine vend kq ?_
   refine AThen_normal ?_
   refine wSt [1,2,15,16,17,18] [(1,.imm (b.map Co.v)),(2,.fn (.func f) [] []),(15,.imm (a.map Co.v)),(16,.int .i64 ((a.length:Nat):Int)),(17,.int .i64 ((k:Nat):Int)),(18,.bool (decide (((k:Nat):Int)<((a.length:Nat):Int))))] [] kq kq ?_
   refine wSeq kq ?_
   by_cases hb2:((k:Nat):Int)<((a.length:Nat):Int)
   · refine wIfT kq (Eq.trans (b:=.bool (decide (((k:Nat):Int)<((a.length:Nat):Int)))) kq (congrArg AVal.bool (decide_eq_true hb2))) ?_
     refine wSkip kq ?_
     refine AThen_normal ?_
     refine wSt [1,2,15,16,17] [(1,.imm (b.map Co.v)),(2,.fn (.func f) [] []),(15,.imm (a.map Co.v)),(16,.int .i64 ((a.length:Nat):Int)),(17,.int .i64 ((k:Nat):Int))] [] kq kq ?_
     refine wSeq kq ?_
     refine wBlock 1 kq kq ?_
     refine wSeq kq ?_
     refine wOrd kq (vstart ?_)
     refine vrun 1 kq ?_
     refine vsym kq kq ((o_ixmap (k:=.i64) (l:=a) (enc:=Co.v) (i:=((k:Nat):Int)) Co.zero kq ty35 ty63 (fun _=>rfl) oq oq).trans (congrArg (fun cs=>some (AVal.pimm cs 0,_)) (co_cells (a.getD k Co.zero)))) ?_
     refine vrun 4 kq ?_
     refine vend kq ?_
     refine AThen_normal ?_
     refine wSt [1,2,7,8,15,16,17] [(1,.imm (b.map Co.v)),(2,.fn (.func f) [] []),(7,.int .i64 ((k:Nat):Int)),(8,.ptr 0 0),(15,.imm (a.map Co.v)),(16,.int .i64 ((a.length:Nat):Int)),(17,.int .i64 ((k:Nat):Int))] [.box [.str (a.getD k Co.zero).name,.int .i64 ((a.getD k Co.zero).type.kind),.str (a.getD k Co.zero).type.name,.int .i64 ((a.getD k Co.zero).type.n),.imm ((a.getD k Co.zero).type.names.map AVal.str),.imm ((a.getD k Co.zero).type.kids.map Ty.enc)]] kq kq ?_
     refine wSeq kq ?_
     refine wOrd kq (vstart ?_)
     refine vrun 2 kq ?_
     refine vsym kq kq ((o_ixmap (k:=.i64) (l:=b) (enc:=Co.v) (i:=((k:Nat):Int)) Co.zero kq ty35 ty63 (fun _=>rfl) oq oq).trans (congrArg (fun cs=>some (AVal.pimm cs 0,_)) (co_cells (b.getD k Co.zero)))) ?_
     refine vrun 3 kq ?_
     refine vend kq ?_
     refine AThen_normal ?_
     refine wSt [1,2,8,9,15,16,17] [(1,.imm (b.map Co.v)),(2,.fn (.func f) [] []),(8,.ptr 0 0),(9,.ptr 1 0),(15,.imm (a.map Co.v)),(16,.int .i64 ((a.length:Nat):Int)),(17,.int .i64 ((k:Nat):Int))] [.box [.str (a.getD k Co.zero).name,.int .i64 ((a.getD k Co.zero).type.kind),.str (a.getD k Co.zero).type.name,.int .i64 ((a.getD k Co.zero).type.n),.imm ((a.getD k Co.zero).type.names.map AVal.str),.imm ((a.getD k Co.zero).type.kids.map Ty.enc)],.box [.str (b.getD k Co.zero).name,.int .i64 ((b.getD k Co.zero).type.kind),.str (b.getD k Co.zero).type.name,.int .i64 ((b.getD k Co.zero).type.n),.imm ((b.getD k Co.zero).type.names.map AVal.str),.imm ((b.getD k Co.zero).type.kids.map Ty.enc)]] kq kq ?_
     refine wSeq kq ?_
     refine wOrd kq (vstart ?_)
     refine vrun 3 kq ?_
     refine vcallP (args:=[.agg [.str (a.getD k Co.zero).name,.int .i64 ((a.getD k Co.zero).type.kind),.str (a.getD k Co.zero).type.name,.int .i64 ((a.getD k Co.zero).type.n),.imm ((a.getD k Co.zero).type.names.map AVal.str),.imm ((a.getD k Co.zero).type.kids.map Ty.enc)],.agg [.str (b.getD k Co.zero).name,.int .i64 ((b.getD k Co.zero).type.kind),.str (b.getD k Co.zero).type.name,.int .i64 ((b.getD k Co.zero).type.n),.imm ((b.getD k Co.zero).type.names.map AVal.str),.imm ((b.getD k Co.zero).type.kids.map Ty.enc)]]) kq kq kq kq (hc k oq oq) (by simp [Ty.v,Ex.v,Ct.v,Co.v,Rf.v,Sm.v,Tb.v]) (by simp [Ty.v,Ex.v,Ct.v,Co.v,Rf.v,Sm.v,Tb.v]) (by simp [Ty.v,Ex.v,Ct.v,Co.v,Rf.v,Sm.v,Tb.v]) ?_
     refine vrun 1 kq ?_
     refine vend kq ?_
     refine AThen_normal ?_
     refine wSt [1,2,15,16,17,30] [(1,.imm (b.map Co.v)),(2,.fn (.func f) [] []),(15,.imm (a.map Co.v)),(16,.int .i64 ((a.length:Nat):Int)),(17,.int .i64 ((k:Nat):Int)),(30,.bool (!(p (a.getD k Co.zero) (b.getD k Co.zero))))] [.box [.str (a.getD k Co.zero).name,.int .i64 ((a.getD k Co.zero).type.kind),.str (a.getD k Co.zero).type.name,.int .i64 ((a.getD k Co.zero).type.n),.imm ((a.getD k Co.zero).type.names.map AVal.str),.imm ((a.getD k Co.zero).type.kids.map Ty.enc)],.box [.str (b.getD k Co.zero).name,.int .i64 ((b.getD k Co.zero).type.kind),.str (b.getD k Co.zero).type.name,.int .i64 ((b.getD k Co.zero).type.n),.imm ((b.getD k Co.zero).type.names.map AVal.str),.imm ((b.getD k Co.zero).type.kids.map Ty.enc)]] kq kq ?_
     by_cases hb3:(p (a.getD k Co.zero) (b.getD k Co.zero))=true
     · refine wIfF kq (Eq.trans (b:=.bool (!(p (a.getD k Co.zero) (b.getD k Co.zero)))) kq (congrArg AVal.bool (congrArg not (hb3)))) ?_
       refine wSkip kq ?_
       refine AIn_normal ?_
       refine AThen_normal ?_
       refine wSt [1,2,15,16,17] [(1,.imm (b.map Co.v)),(2,.fn (.func f) [] []),(15,.imm (a.map Co.v)),(16,.int .i64 ((a.length:Nat):Int)),(17,.int .i64 ((k:Nat):Int))] [.box [.str (a.getD k Co.zero).name,.int .i64 ((a.getD k Co.zero).type.kind),.str (a.getD k Co.zero).type.name,.int .i64 ((a.getD k Co.zero).type.n),.imm ((a.getD k Co.zero).type.names.map AVal.str),.imm ((a.getD k Co.zero).type.kids.map Ty.enc)],.box [.str (b.getD k Co.zero).name,.int .i64 ((b.getD k Co.zero).type.kind),.str (b.getD k Co.zero).type.name,.int .i64 ((b.getD k Co.zero).type.n),.imm ((b.getD k Co.zero).type.names.map AVal.str),.imm ((b.getD k Co.zero).type.kids.map Ty.enc)]] kq kq ?_
       refine wOrd kq (vstart ?_)
       refine vsym kq kq (o_add (a:=((k:Nat):Int)) (b:=1) kq oq oq) ?_
       refine vrun 1 kq ?_
       refine vend kq ?_
       refine AThen_normal ⟨k+1,?_,?_,⟨⟨kq,kq,kq,kq,kq,trivial⟩,by simp [BelL,AVal.bel],by simp,kq,by simp⟩⟩
       · omega
       · refine ⟨by omega,fun i hi=>?_⟩
         rcases Nat.lt_succ_iff_lt_or_eq.1 hi with h|h
         · exact ha i h
         · subst h;assumption
     · refine wIfT kq (Eq.trans (b:=.bool (!(p (a.getD k Co.zero) (b.getD k Co.zero)))) kq (congrArg AVal.bool (congrArg not (Bool.eq_false_iff.2 hb3)))) ?_
       refine wSeq kq ?_
       refine wOrd kq (vstart ?_)
       refine vrun 1 kq ?_
       refine vend kq ?_
       refine AThen_normal ?_
       refine wSt [6] [(6,.bool false)] [.box [.str (a.getD k Co.zero).name,.int .i64 ((a.getD k Co.zero).type.kind),.str (a.getD k Co.zero).type.name,.int .i64 ((a.getD k Co.zero).type.n),.imm ((a.getD k Co.zero).type.names.map AVal.str),.imm ((a.getD k Co.zero).type.kids.map Ty.enc)],.box [.str (b.getD k Co.zero).name,.int .i64 ((b.getD k Co.zero).type.kind),.str (b.getD k Co.zero).type.name,.int .i64 ((b.getD k Co.zero).type.n),.imm ((b.getD k Co.zero).type.names.map AVal.str),.imm ((b.getD k Co.zero).type.kids.map Ty.enc)]] kq kq ?_
       refine wRet kq ?_
       refine AIn_ret ?_
       refine AThen_ret ?_
       refine AThen_ret ?_
       refine AIn_ret ?_
       refine AThen_ret ?_
       refine leafB (b:=false) (.inr rfl) kq ?_
       first|exact (zipAll_len p a b oq).symm|exact (zipAll_true p Co.zero Co.zero a b oq (fun i hi=>ha i oq)).symm|exact (zipAll_at p Co.zero Co.zero a b k oq oq (Bool.eq_false_iff.2 aq)).symm
   · refine wIfF kq (Eq.trans (b:=.bool (decide (((k:Nat):Int)<((a.length:Nat):Int)))) kq (congrArg AVal.bool (decide_eq_false hb2))) ?_
     refine wExit 0 kq kq ?_
     refine AThen_exit ?_
     refine AThen_exit ?_
     refine AIn_exit ?_
     refine AThen_normal ?_
     refine wSt [] [] [] kq kq ?_
     refine wSeq kq ?_
     refine wOrd kq (vstart ?_)
     refine vrun 1 kq ?_
     refine vend kq ?_
     refine AThen_normal ?_
     refine wSt [6] [(6,.bool true)] [] kq kq ?_
     refine wRet kq ?_
     refine leafB (b:=true) (.inr rfl) kq ?_
     first|exact (zipAll_len p a b oq).symm|exact (zipAll_true p Co.zero Co.zero a b oq (fun i hi=>ha i oq)).symm|exact (zipAll_at p Co.zero Co.zero a b k oq oq (Bool.eq_false_iff.2 aq)).symm
 · refine wIfT kq (Eq.trans (b:=.bool (((a.length:Nat):Int) != ((b.length:Nat):Int))) kq (congrArg AVal.bool (bne_iff_ne.2 hb1))) ?_
   refine wSeq kq ?_
   refine wOrd kq (vstart ?_)
   refine vrun 1 kq ?_
   refine vend kq ?_
   refine AThen_normal ?_
   refine wSt [6] [(6,.bool false)] [] kq kq ?_
   refine wRet kq ?_
   refine AThen_ret ?_
   refine leafB (b:=false) (.inr rfl) kq ?_
   first|exact (zipAll_len p a b oq).symm|exact (zipAll_true p Co.zero Co.zero a b oq (fun i hi=>ha i oq)).symm|exact (zipAll_at p Co.zero Co.zero a b k oq oq (Bool.eq_false_iff.2 aq)).symm
end Go.Proofs.YtindpcpdkikdmaaGreatDoor
