/- EqualFunc at sums and tables, as schema.Equal calls it. Condition: sizes that can be had. -/
import Derived.Test.YtindpcpdkikdmaaGreatDoorCB
set_option linter.all false
namespace Go.Proofs.YtindpcpdkikdmaaGreatDoor
open Go.Proofs.YtindpcpdkikdmaaGreatDoor.Abs
set_option maxRecDepth 20000
set_option maxHeartbeats 4000000
noncomputable def c35:Code:=bodyOf Tryz.f35
theorem eqFuncSm_raw (a b:List Sm) (hs:∀ x∈a,x.sm) (hn:a.length<1000000000):CallsA cx 35 [.imm (a.map Sm.v),.imm (b.map Sm.v),.fn (.func 27) [] [.ptr 0 0]] [.box [.fn (.func 25) [] []]] (fun v h=>v=(.bool (zipAll Sm.beq a b))∧h=[.box [.fn (.func 25) [] []]]):=by
 refine func_intro (cx:=cx) 32 1 [(ResultVar.tmp 6)] Tryz.func35 rfl rfl rfl rfl rfl zq ?_
 show wpA cx 32 1 (at_ c35 []) _ _ _
 refine wSt [0,1,2] [(0,.imm (a.map Sm.v)),(1,.imm (b.map Sm.v)),(2,.fn (.func 27) [] [.ptr 0 0])] [.box [.fn (.func 25) [] []]] kq kq ?_
 refine wSeq kq ?_
 refine wOrd kq (vstart ?_)
 refine vrun 1 kq ?_
 refine vend kq ?_
 refine AThen_normal ?_
 refine wSt [0,1,2] [(0,.imm (a.map Sm.v)),(1,.imm (b.map Sm.v)),(2,.fn (.func 27) [] [.ptr 0 0])] [.box [.fn (.func 25) [] []]] kq kq ?_
 refine wSeq kq ?_
 refine wSeq kq ?_
 refine wOrd kq (vstart ?_)
 refine vrun 1 kq ?_
 refine vsym kq kq (o_lenmap (l:=a) (enc:=Sm.v) kq ty23) ?_
 refine vrun 1 kq ?_
 refine vsym kq kq (o_lenmap (l:=b) (enc:=Sm.v) kq ty23) ?_
 refine vrun 1 kq ?_
 refine vend kq ?_
 refine AThen_normal ?_
 refine wSt [0,1,2,14] [(0,.imm (a.map Sm.v)),(1,.imm (b.map Sm.v)),(2,.fn (.func 27) [] [.ptr 0 0]),(14,.bool (((a.length:Nat):Int) != ((b.length:Nat):Int)))] [.box [.fn (.func 25) [] []]] kq kq ?_
 by_cases hb1:((a.length:Nat):Int)=((b.length:Nat):Int)
 · refine wIfF kq (Eq.trans (b:=.bool (((a.length:Nat):Int) != ((b.length:Nat):Int))) kq (congrArg AVal.bool (bne_eq_false_iff_eq.2 hb1))) ?_
   refine wSkip kq ?_
   refine AThen_normal ?_
   refine wSt [0,1,2] [(0,.imm (a.map Sm.v)),(1,.imm (b.map Sm.v)),(2,.fn (.func 27) [] [.ptr 0 0])] [.box [.fn (.func 25) [] []]] kq kq ?_
   refine wSeq kq ?_
   refine wSeq kq ?_
   refine wOrd kq (vstart ?_)
   refine vrun 1 kq ?_
   refine vsym kq kq (o_lenmap (l:=a) (enc:=Sm.v) kq ty23) ?_
   refine vrun 1 kq ?_
   refine vend kq ?_
   refine AThen_normal ?_
   refine wSt [1,2,15,16,17] [(1,.imm (b.map Sm.v)),(2,.fn (.func 27) [] [.ptr 0 0]),(15,.imm (a.map Sm.v)),(16,.int .i64 ((a.length:Nat):Int)),(17,.int .i64 0)] [.box [.fn (.func 25) [] []]] kq kq ?_
   refine wBlock 0 kq kq ?_
   refine wLoop (σ:=Nat) (fun k=>[(1,.imm (b.map Sm.v)),(2,.fn (.func 27) [] [.ptr 0 0]),(15,.imm (a.map Sm.v)),(16,.int .i64 ((a.length:Nat):Int)),(17,.int .i64 ((k:Nat):Int))]) (fun k=>[.box [.fn (.func 25) [] []]]) (fun k=>k≤a.length∧∀ i,i<k→(a.getD i Sm.zero).beq (b.getD i Sm.zero)=true) (fun k=>a.length - k) 0 kq zq ⟨⟨kq,kq,kq,kq,kq,trivial⟩,by simp [BelL,AVal.bel],by simp,kq,by simp [AObj.belO]⟩ ?_
   rintro k ⟨hk,ha⟩
   refine wSeq kq ?_
   refine wOrd kq (vstart ?_)
   refine vrun 1 kq ?_
   refine vend kq ?_
   refine AThen_normal ?_
   refine wSt [1,2,15,16,17,18] [(1,.imm (b.map Sm.v)),(2,.fn (.func 27) [] [.ptr 0 0]),(15,.imm (a.map Sm.v)),(16,.int .i64 ((a.length:Nat):Int)),(17,.int .i64 ((k:Nat):Int)),(18,.bool (decide (((k:Nat):Int)<((a.length:Nat):Int))))] [.box [.fn (.func 25) [] []]] kq kq ?_
   refine wSeq kq ?_
   by_cases hb2:((k:Nat):Int)<((a.length:Nat):Int)
   · refine wIfT kq (Eq.trans (b:=.bool (decide (((k:Nat):Int)<((a.length:Nat):Int)))) kq (congrArg AVal.bool (decide_eq_true hb2))) ?_
     refine wSkip kq ?_
     refine AThen_normal ?_
     refine wSt [1,2,15,16,17] [(1,.imm (b.map Sm.v)),(2,.fn (.func 27) [] [.ptr 0 0]),(15,.imm (a.map Sm.v)),(16,.int .i64 ((a.length:Nat):Int)),(17,.int .i64 ((k:Nat):Int))] [.box [.fn (.func 25) [] []]] kq kq ?_
     refine wSeq kq ?_
     refine wBlock 1 kq kq ?_
     refine wSeq kq ?_
     refine wOrd kq (vstart ?_)
     refine vrun 1 kq ?_
     refine vsym kq kq ((o_ixmap (k:=.i64) (l:=a) (enc:=Sm.v) (i:=((k:Nat):Int)) Sm.zero kq ty23 ty46 (fun _=>rfl) oq oq).trans (congrArg (fun cs=>some (AVal.pimm cs 0,_)) (sm_cells (a.getD k Sm.zero)))) ?_
     refine vrun 4 kq ?_
     refine vend kq ?_
     refine AThen_normal ?_
     refine wSt [1,2,7,8,15,16,17] [(1,.imm (b.map Sm.v)),(2,.fn (.func 27) [] [.ptr 0 0]),(7,.int .i64 ((k:Nat):Int)),(8,.ptr 1 0),(15,.imm (a.map Sm.v)),(16,.int .i64 ((a.length:Nat):Int)),(17,.int .i64 ((k:Nat):Int))] [.box [.fn (.func 25) [] []],.box [.str (a.getD k Sm.zero).name,.imm ((a.getD k Sm.zero).ctors.map Ct.v)]] kq kq ?_
     refine wSeq kq ?_
     refine wOrd kq (vstart ?_)
     refine vrun 2 kq ?_
     refine vsym kq kq ((o_ixmap (k:=.i64) (l:=b) (enc:=Sm.v) (i:=((k:Nat):Int)) Sm.zero kq ty23 ty46 (fun _=>rfl) oq oq).trans (congrArg (fun cs=>some (AVal.pimm cs 0,_)) (sm_cells (b.getD k Sm.zero)))) ?_
     refine vrun 3 kq ?_
     refine vend kq ?_
     refine AThen_normal ?_
     refine wSt [1,2,8,9,15,16,17] [(1,.imm (b.map Sm.v)),(2,.fn (.func 27) [] [.ptr 0 0]),(8,.ptr 1 0),(9,.ptr 2 0),(15,.imm (a.map Sm.v)),(16,.int .i64 ((a.length:Nat):Int)),(17,.int .i64 ((k:Nat):Int))] [.box [.fn (.func 25) [] []],.box [.str (a.getD k Sm.zero).name,.imm ((a.getD k Sm.zero).ctors.map Ct.v)],.box [.str (b.getD k Sm.zero).name,.imm ((b.getD k Sm.zero).ctors.map Ct.v)]] kq kq ?_
     refine wSeq kq ?_
     refine wOrd kq (vstart ?_)
     refine vrun 3 kq ?_
     refine vcallA (args:=[.agg [.str (a.getD k Sm.zero).name,.imm ((a.getD k Sm.zero).ctors.map Ct.v)],.agg [.str (b.getD k Sm.zero).name,.imm ((b.getD k Sm.zero).ctors.map Ct.v)],.ptr 0 0]) (hs:=[.box [.fn (.func 25) [] []]]) (hs':=[.box [.fn (.func 25) [] []]]) (rest:=[.box [.str (a.getD k Sm.zero).name,.imm ((a.getD k Sm.zero).ctors.map Ct.v)],.box [.str (b.getD k Sm.zero).name,.imm ((b.getD k Sm.zero).ctors.map Ct.v)]]) kq kq kq kq kq (smEqual_raw _ _ (hs _ (getD_mem _ _ _ oq))) (by simp [AObj.belO]) (by simp [AObj.belO]) rfl (by simp [AObj.belO]) (by simp [AObj.belO]) kq ?_
     refine vrun 1 kq ?_
     refine vend kq ?_
     refine AThen_normal ?_
     refine wSt [1,2,15,16,17,30] [(1,.imm (b.map Sm.v)),(2,.fn (.func 27) [] [.ptr 0 0]),(15,.imm (a.map Sm.v)),(16,.int .i64 ((a.length:Nat):Int)),(17,.int .i64 ((k:Nat):Int)),(30,.bool (!((a.getD k Sm.zero).beq (b.getD k Sm.zero))))] [.box [.fn (.func 25) [] []],.box [.str (a.getD k Sm.zero).name,.imm ((a.getD k Sm.zero).ctors.map Ct.v)],.box [.str (b.getD k Sm.zero).name,.imm ((b.getD k Sm.zero).ctors.map Ct.v)]] kq kq ?_
     by_cases hb3:((a.getD k Sm.zero).beq (b.getD k Sm.zero))=true
     · refine wIfF kq (Eq.trans (b:=.bool (!((a.getD k Sm.zero).beq (b.getD k Sm.zero)))) kq (congrArg AVal.bool (congrArg not (hb3)))) ?_
       refine wSkip kq ?_
       refine AIn_normal ?_
       refine AThen_normal ?_
       refine wSt [1,2,15,16,17] [(1,.imm (b.map Sm.v)),(2,.fn (.func 27) [] [.ptr 0 0]),(15,.imm (a.map Sm.v)),(16,.int .i64 ((a.length:Nat):Int)),(17,.int .i64 ((k:Nat):Int))] [.box [.fn (.func 25) [] []],.box [.str (a.getD k Sm.zero).name,.imm ((a.getD k Sm.zero).ctors.map Ct.v)],.box [.str (b.getD k Sm.zero).name,.imm ((b.getD k Sm.zero).ctors.map Ct.v)]] kq kq ?_
       refine wOrd kq (vstart ?_)
       refine vsym kq kq (o_add (a:=((k:Nat):Int)) (b:=1) kq oq oq) ?_
       refine vrun 1 kq ?_
       refine vend kq ?_
       refine AThen_normal ⟨k+1,?_,?_,⟨⟨kq,kq,kq,kq,kq,trivial⟩,by simp [BelL,AVal.bel],by simp,kq,by simp [AObj.belO]⟩⟩
       · omega
       · refine ⟨by omega,fun i hi=>?_⟩
         rcases Nat.lt_succ_iff_lt_or_eq.1 hi with h|h
         · exact ha i h
         · subst h;assumption
     · refine wIfT kq (Eq.trans (b:=.bool (!((a.getD k Sm.zero).beq (b.getD k Sm.zero)))) kq (congrArg AVal.bool (congrArg not (Bool.eq_false_iff.2 hb3)))) ?_
       refine wSeq kq ?_
       refine wOrd kq (vstart ?_)
       refine vrun 1 kq ?_
       refine vend kq ?_
       refine AThen_normal ?_
       refine wSt [6] [(6,.bool false)] [.box [.fn (.func 25) [] []],.box [.str (a.getD k Sm.zero).name,.imm ((a.getD k Sm.zero).ctors.map Ct.v)],.box [.str (b.getD k Sm.zero).name,.imm ((b.getD k Sm.zero).ctors.map Ct.v)]] kq kq ?_
       refine wRet kq ?_
       refine AIn_ret ?_
       refine AThen_ret ?_
       refine AThen_ret ?_
       refine AIn_ret ?_
       refine AThen_ret ?_
       refine leafA (l:=[.bool false]) (.inr rfl) kq (by first|(simp [awrap,AVal.frz];first|exact (zipAll_len Sm.beq a b oq).symm|exact zipAll_len Sm.beq a b oq|exact zipAll_true Sm.beq Sm.zero Sm.zero a b oq (fun i hi=>ha i oq)|exact zipAll_at Sm.beq Sm.zero Sm.zero a b k oq oq (Bool.eq_false_iff.2 aq))) (by simp [awrap]) (by simp [awrap]) ?_ ?_
       · refine Eq.trans (b:=[.box [.fn (.func 25) [] []]]) kq ?_
         simp
       · simp [AObj.belO]
   · refine wIfF kq (Eq.trans (b:=.bool (decide (((k:Nat):Int)<((a.length:Nat):Int)))) kq (congrArg AVal.bool (decide_eq_false hb2))) ?_
     refine wExit 0 kq kq ?_
     refine AThen_exit ?_
     refine AThen_exit ?_
     refine AIn_exit ?_
     refine AThen_normal ?_
     refine wSt [] [] [.box [.fn (.func 25) [] []]] kq kq ?_
     refine wSeq kq ?_
     refine wOrd kq (vstart ?_)
     refine vrun 1 kq ?_
     refine vend kq ?_
     refine AThen_normal ?_
     refine wSt [6] [(6,.bool true)] [.box [.fn (.func 25) [] []]] kq kq ?_
     refine wRet kq ?_
     refine leafA (l:=[.bool true]) (.inr rfl) kq (by first|(simp [awrap,AVal.frz];first|exact (zipAll_len Sm.beq a b oq).symm|exact zipAll_len Sm.beq a b oq|exact zipAll_true Sm.beq Sm.zero Sm.zero a b oq (fun i hi=>ha i oq)|exact zipAll_at Sm.beq Sm.zero Sm.zero a b k oq oq (Bool.eq_false_iff.2 aq))) (by simp [awrap]) (by simp [awrap]) ?_ ?_
     · refine Eq.trans (b:=[.box [.fn (.func 25) [] []]]) kq ?_
       simp
     · simp [AObj.belO]
 · refine wIfT kq (Eq.trans (b:=.bool (((a.length:Nat):Int) != ((b.length:Nat):Int))) kq (congrArg AVal.bool (bne_iff_ne.2 hb1))) ?_
   refine wSeq kq ?_
   refine wOrd kq (vstart ?_)
   refine vrun 1 kq ?_
   refine vend kq ?_
   refine AThen_normal ?_
   refine wSt [6] [(6,.bool false)] [.box [.fn (.func 25) [] []]] kq kq ?_
   refine wRet kq ?_
   refine AThen_ret ?_
   refine leafA (l:=[.bool false]) (.inr rfl) kq (by first|(simp [awrap,AVal.frz];first|exact (zipAll_len Sm.beq a b oq).symm|exact zipAll_len Sm.beq a b oq|exact zipAll_true Sm.beq Sm.zero Sm.zero a b oq (fun i hi=>ha i oq)|exact zipAll_at Sm.beq Sm.zero Sm.zero a b k oq oq (Bool.eq_false_iff.2 aq))) (by simp [awrap]) (by simp [awrap]) ?_ ?_
   · refine Eq.trans (b:=[.box [.fn (.func 25) [] []]]) kq ?_
     simp
   · simp [AObj.belO]
noncomputable def c36:Code:=bodyOf Tryz.f36
theorem eqFuncTb_raw (a b:List Tb) (hs:∀ x∈a,x.sm) (hn:a.length<1000000000):CallsA cx 36 [.imm (a.map Tb.v),.imm (b.map Tb.v),.fn (.func 30) [] [.ptr 0 0]] [.box [.fn (.func 29) [] []]] (fun v h=>v=(.bool (zipAll Tb.beq a b))∧h=[.box [.fn (.func 29) [] []]]):=by
 refine func_intro (cx:=cx) 32 1 [(ResultVar.tmp 6)] Tryz.func36 rfl rfl rfl rfl rfl zq ?_
 show wpA cx 32 1 (at_ c36 []) _ _ _
 refine wSt [0,1,2] [(0,.imm (a.map Tb.v)),(1,.imm (b.map Tb.v)),(2,.fn (.func 30) [] [.ptr 0 0])] [.box [.fn (.func 29) [] []]] kq kq ?_
 refine wSeq kq ?_
 refine wOrd kq (vstart ?_)
 refine vrun 1 kq ?_
 refine vend kq ?_
 refine AThen_normal ?_
 refine wSt [0,1,2] [(0,.imm (a.map Tb.v)),(1,.imm (b.map Tb.v)),(2,.fn (.func 30) [] [.ptr 0 0])] [.box [.fn (.func 29) [] []]] kq kq ?_
 refine wSeq kq ?_
 refine wSeq kq ?_
 refine wOrd kq (vstart ?_)
 refine vrun 1 kq ?_
 refine vsym kq kq (o_lenmap (l:=a) (enc:=Tb.v) kq ty24) ?_
 refine vrun 1 kq ?_
 refine vsym kq kq (o_lenmap (l:=b) (enc:=Tb.v) kq ty24) ?_
 refine vrun 1 kq ?_
 refine vend kq ?_
 refine AThen_normal ?_
 refine wSt [0,1,2,14] [(0,.imm (a.map Tb.v)),(1,.imm (b.map Tb.v)),(2,.fn (.func 30) [] [.ptr 0 0]),(14,.bool (((a.length:Nat):Int) != ((b.length:Nat):Int)))] [.box [.fn (.func 29) [] []]] kq kq ?_
 by_cases hb1:((a.length:Nat):Int)=((b.length:Nat):Int)
 · refine wIfF kq (Eq.trans (b:=.bool (((a.length:Nat):Int) != ((b.length:Nat):Int))) kq (congrArg AVal.bool (bne_eq_false_iff_eq.2 hb1))) ?_
   refine wSkip kq ?_
   refine AThen_normal ?_
   refine wSt [0,1,2] [(0,.imm (a.map Tb.v)),(1,.imm (b.map Tb.v)),(2,.fn (.func 30) [] [.ptr 0 0])] [.box [.fn (.func 29) [] []]] kq kq ?_
   refine wSeq kq ?_
   refine wSeq kq ?_
   refine wOrd kq (vstart ?_)
   refine vrun 1 kq ?_
   refine vsym kq kq (o_lenmap (l:=a) (enc:=Tb.v) kq ty24) ?_
   refine vrun 1 kq ?_
   refine vend kq ?_
   refine AThen_normal ?_
   refine wSt [1,2,15,16,17] [(1,.imm (b.map Tb.v)),(2,.fn (.func 30) [] [.ptr 0 0]),(15,.imm (a.map Tb.v)),(16,.int .i64 ((a.length:Nat):Int)),(17,.int .i64 0)] [.box [.fn (.func 29) [] []]] kq kq ?_
   refine wBlock 0 kq kq ?_
   refine wLoop (σ:=Nat) (fun k=>[(1,.imm (b.map Tb.v)),(2,.fn (.func 30) [] [.ptr 0 0]),(15,.imm (a.map Tb.v)),(16,.int .i64 ((a.length:Nat):Int)),(17,.int .i64 ((k:Nat):Int))]) (fun k=>[.box [.fn (.func 29) [] []]]) (fun k=>k≤a.length∧∀ i,i<k→(a.getD i Tb.zero).beq (b.getD i Tb.zero)=true) (fun k=>a.length - k) 0 kq zq ⟨⟨kq,kq,kq,kq,kq,trivial⟩,by simp [BelL,AVal.bel],by simp,kq,by simp [AObj.belO]⟩ ?_
   rintro k ⟨hk,ha⟩
   refine wSeq kq ?_
   refine wOrd kq (vstart ?_)
   refine vrun 1 kq ?_
   refine vend kq ?_
   refine AThen_normal ?_
   refine wSt [1,2,15,16,17,18] [(1,.imm (b.map Tb.v)),(2,.fn (.func 30) [] [.ptr 0 0]),(15,.imm (a.map Tb.v)),(16,.int .i64 ((a.length:Nat):Int)),(17,.int .i64 ((k:Nat):Int)),(18,.bool (decide (((k:Nat):Int)<((a.length:Nat):Int))))] [.box [.fn (.func 29) [] []]] kq kq ?_
   refine wSeq kq ?_
   by_cases hb2:((k:Nat):Int)<((a.length:Nat):Int)
   · refine wIfT kq (Eq.trans (b:=.bool (decide (((k:Nat):Int)<((a.length:Nat):Int)))) kq (congrArg AVal.bool (decide_eq_true hb2))) ?_
     refine wSkip kq ?_
     refine AThen_normal ?_
     refine wSt [1,2,15,16,17] [(1,.imm (b.map Tb.v)),(2,.fn (.func 30) [] [.ptr 0 0]),(15,.imm (a.map Tb.v)),(16,.int .i64 ((a.length:Nat):Int)),(17,.int .i64 ((k:Nat):Int))] [.box [.fn (.func 29) [] []]] kq kq ?_
     refine wSeq kq ?_
     refine wBlock 1 kq kq ?_
     refine wSeq kq ?_
     refine wOrd kq (vstart ?_)
     refine vrun 1 kq ?_
     refine vsym kq kq ((o_ixmap (k:=.i64) (l:=a) (enc:=Tb.v) (i:=((k:Nat):Int)) Tb.zero kq ty24 ty41 (fun _=>rfl) oq oq).trans (congrArg (fun cs=>some (AVal.pimm cs 0,_)) (tb_cells (a.getD k Tb.zero)))) ?_
     refine vrun 4 kq ?_
     refine vend kq ?_
     refine AThen_normal ?_
     refine wSt [1,2,7,8,15,16,17] [(1,.imm (b.map Tb.v)),(2,.fn (.func 30) [] [.ptr 0 0]),(7,.int .i64 ((k:Nat):Int)),(8,.ptr 1 0),(15,.imm (a.map Tb.v)),(16,.int .i64 ((a.length:Nat):Int)),(17,.int .i64 ((k:Nat):Int))] [.box [.fn (.func 29) [] []],.box [.str (a.getD k Tb.zero).name,.imm ((a.getD k Tb.zero).cols.map Co.v),.imm ((a.getD k Tb.zero).key.map AVal.str),.imm ((a.getD k Tb.zero).refs.map Rf.v),.int .i64 ((a.getD k Tb.zero).chk.kind),.str (a.getD k Tb.zero).chk.name,.int .i64 ((a.getD k Tb.zero).chk.n),.str (a.getD k Tb.zero).chk.s,.imm ((a.getD k Tb.zero).chk.names.map AVal.str),.imm ((a.getD k Tb.zero).chk.binds.map AVal.str),.imm ((a.getD k Tb.zero).chk.kids.map Ex.enc),.int .i64 ((a.getD k Tb.zero).chk.pos),.int .i64 ((a.getD k Tb.zero).chk.fin)]] kq kq ?_
     refine wSeq kq ?_
     refine wOrd kq (vstart ?_)
     refine vrun 2 kq ?_
     refine vsym kq kq ((o_ixmap (k:=.i64) (l:=b) (enc:=Tb.v) (i:=((k:Nat):Int)) Tb.zero kq ty24 ty41 (fun _=>rfl) oq oq).trans (congrArg (fun cs=>some (AVal.pimm cs 0,_)) (tb_cells (b.getD k Tb.zero)))) ?_
     refine vrun 3 kq ?_
     refine vend kq ?_
     refine AThen_normal ?_
     refine wSt [1,2,8,9,15,16,17] [(1,.imm (b.map Tb.v)),(2,.fn (.func 30) [] [.ptr 0 0]),(8,.ptr 1 0),(9,.ptr 2 0),(15,.imm (a.map Tb.v)),(16,.int .i64 ((a.length:Nat):Int)),(17,.int .i64 ((k:Nat):Int))] [.box [.fn (.func 29) [] []],.box [.str (a.getD k Tb.zero).name,.imm ((a.getD k Tb.zero).cols.map Co.v),.imm ((a.getD k Tb.zero).key.map AVal.str),.imm ((a.getD k Tb.zero).refs.map Rf.v),.int .i64 ((a.getD k Tb.zero).chk.kind),.str (a.getD k Tb.zero).chk.name,.int .i64 ((a.getD k Tb.zero).chk.n),.str (a.getD k Tb.zero).chk.s,.imm ((a.getD k Tb.zero).chk.names.map AVal.str),.imm ((a.getD k Tb.zero).chk.binds.map AVal.str),.imm ((a.getD k Tb.zero).chk.kids.map Ex.enc),.int .i64 ((a.getD k Tb.zero).chk.pos),.int .i64 ((a.getD k Tb.zero).chk.fin)],.box [.str (b.getD k Tb.zero).name,.imm ((b.getD k Tb.zero).cols.map Co.v),.imm ((b.getD k Tb.zero).key.map AVal.str),.imm ((b.getD k Tb.zero).refs.map Rf.v),.int .i64 ((b.getD k Tb.zero).chk.kind),.str (b.getD k Tb.zero).chk.name,.int .i64 ((b.getD k Tb.zero).chk.n),.str (b.getD k Tb.zero).chk.s,.imm ((b.getD k Tb.zero).chk.names.map AVal.str),.imm ((b.getD k Tb.zero).chk.binds.map AVal.str),.imm ((b.getD k Tb.zero).chk.kids.map Ex.enc),.int .i64 ((b.getD k Tb.zero).chk.pos),.int .i64 ((b.getD k Tb.zero).chk.fin)]] kq kq ?_
     refine wSeq kq ?_
     refine wOrd kq (vstart ?_)
     refine vrun 3 kq ?_
     refine vcallA (args:=[.agg [.str (a.getD k Tb.zero).name,.imm ((a.getD k Tb.zero).cols.map Co.v),.imm ((a.getD k Tb.zero).key.map AVal.str),.imm ((a.getD k Tb.zero).refs.map Rf.v),.int .i64 ((a.getD k Tb.zero).chk.kind),.str (a.getD k Tb.zero).chk.name,.int .i64 ((a.getD k Tb.zero).chk.n),.str (a.getD k Tb.zero).chk.s,.imm ((a.getD k Tb.zero).chk.names.map AVal.str),.imm ((a.getD k Tb.zero).chk.binds.map AVal.str),.imm ((a.getD k Tb.zero).chk.kids.map Ex.enc),.int .i64 ((a.getD k Tb.zero).chk.pos),.int .i64 ((a.getD k Tb.zero).chk.fin)],.agg [.str (b.getD k Tb.zero).name,.imm ((b.getD k Tb.zero).cols.map Co.v),.imm ((b.getD k Tb.zero).key.map AVal.str),.imm ((b.getD k Tb.zero).refs.map Rf.v),.int .i64 ((b.getD k Tb.zero).chk.kind),.str (b.getD k Tb.zero).chk.name,.int .i64 ((b.getD k Tb.zero).chk.n),.str (b.getD k Tb.zero).chk.s,.imm ((b.getD k Tb.zero).chk.names.map AVal.str),.imm ((b.getD k Tb.zero).chk.binds.map AVal.str),.imm ((b.getD k Tb.zero).chk.kids.map Ex.enc),.int .i64 ((b.getD k Tb.zero).chk.pos),.int .i64 ((b.getD k Tb.zero).chk.fin)],.ptr 0 0]) (hs:=[.box [.fn (.func 29) [] []]]) (hs':=[.box [.fn (.func 29) [] []]]) (rest:=[.box [.str (a.getD k Tb.zero).name,.imm ((a.getD k Tb.zero).cols.map Co.v),.imm ((a.getD k Tb.zero).key.map AVal.str),.imm ((a.getD k Tb.zero).refs.map Rf.v),.int .i64 ((a.getD k Tb.zero).chk.kind),.str (a.getD k Tb.zero).chk.name,.int .i64 ((a.getD k Tb.zero).chk.n),.str (a.getD k Tb.zero).chk.s,.imm ((a.getD k Tb.zero).chk.names.map AVal.str),.imm ((a.getD k Tb.zero).chk.binds.map AVal.str),.imm ((a.getD k Tb.zero).chk.kids.map Ex.enc),.int .i64 ((a.getD k Tb.zero).chk.pos),.int .i64 ((a.getD k Tb.zero).chk.fin)],.box [.str (b.getD k Tb.zero).name,.imm ((b.getD k Tb.zero).cols.map Co.v),.imm ((b.getD k Tb.zero).key.map AVal.str),.imm ((b.getD k Tb.zero).refs.map Rf.v),.int .i64 ((b.getD k Tb.zero).chk.kind),.str (b.getD k Tb.zero).chk.name,.int .i64 ((b.getD k Tb.zero).chk.n),.str (b.getD k Tb.zero).chk.s,.imm ((b.getD k Tb.zero).chk.names.map AVal.str),.imm ((b.getD k Tb.zero).chk.binds.map AVal.str),.imm ((b.getD k Tb.zero).chk.kids.map Ex.enc),.int .i64 ((b.getD k Tb.zero).chk.pos),.int .i64 ((b.getD k Tb.zero).chk.fin)]]) kq kq kq kq kq (tbEqual_raw _ _ (hs _ (getD_mem _ _ _ oq))) (by simp [AObj.belO]) (by simp [AObj.belO]) rfl (by simp [AObj.belO]) (by simp [AObj.belO]) kq ?_
     refine vrun 1 kq ?_
     refine vend kq ?_
     refine AThen_normal ?_
     refine wSt [1,2,15,16,17,30] [(1,.imm (b.map Tb.v)),(2,.fn (.func 30) [] [.ptr 0 0]),(15,.imm (a.map Tb.v)),(16,.int .i64 ((a.length:Nat):Int)),(17,.int .i64 ((k:Nat):Int)),(30,.bool (!((a.getD k Tb.zero).beq (b.getD k Tb.zero))))] [.box [.fn (.func 29) [] []],.box [.str (a.getD k Tb.zero).name,.imm ((a.getD k Tb.zero).cols.map Co.v),.imm ((a.getD k Tb.zero).key.map AVal.str),.imm ((a.getD k Tb.zero).refs.map Rf.v),.int .i64 ((a.getD k Tb.zero).chk.kind),.str (a.getD k Tb.zero).chk.name,.int .i64 ((a.getD k Tb.zero).chk.n),.str (a.getD k Tb.zero).chk.s,.imm ((a.getD k Tb.zero).chk.names.map AVal.str),.imm ((a.getD k Tb.zero).chk.binds.map AVal.str),.imm ((a.getD k Tb.zero).chk.kids.map Ex.enc),.int .i64 ((a.getD k Tb.zero).chk.pos),.int .i64 ((a.getD k Tb.zero).chk.fin)],.box [.str (b.getD k Tb.zero).name,.imm ((b.getD k Tb.zero).cols.map Co.v),.imm ((b.getD k Tb.zero).key.map AVal.str),.imm ((b.getD k Tb.zero).refs.map Rf.v),.int .i64 ((b.getD k Tb.zero).chk.kind),.str (b.getD k Tb.zero).chk.name,.int .i64 ((b.getD k Tb.zero).chk.n),.str (b.getD k Tb.zero).chk.s,.imm ((b.getD k Tb.zero).chk.names.map AVal.str),.imm ((b.getD k Tb.zero).chk.binds.map AVal.str),.imm ((b.getD k Tb.zero).chk.kids.map Ex.enc),.int .i64 ((b.getD k Tb.zero).chk.pos),.int .i64 ((b.getD k Tb.zero).chk.fin)]] kq kq ?_
     by_cases hb3:((a.getD k Tb.zero).beq (b.getD k Tb.zero))=true
     · refine wIfF kq (Eq.trans (b:=.bool (!((a.getD k Tb.zero).beq (b.getD k Tb.zero)))) kq (congrArg AVal.bool (congrArg not (hb3)))) ?_
       refine wSkip kq ?_
       refine AIn_normal ?_
       refine AThen_normal ?_
       refine wSt [1,2,15,16,17] [(1,.imm (b.map Tb.v)),(2,.fn (.func 30) [] [.ptr 0 0]),(15,.imm (a.map Tb.v)),(16,.int .i64 ((a.length:Nat):Int)),(17,.int .i64 ((k:Nat):Int))] [.box [.fn (.func 29) [] []],.box [.str (a.getD k Tb.zero).name,.imm ((a.getD k Tb.zero).cols.map Co.v),.imm ((a.getD k Tb.zero).key.map AVal.str),.imm ((a.getD k Tb.zero).refs.map Rf.v),.int .i64 ((a.getD k Tb.zero).chk.kind),.str (a.getD k Tb.zero).chk.name,.int .i64 ((a.getD k Tb.zero).chk.n),.str (a.getD k Tb.zero).chk.s,.imm ((a.getD k Tb.zero).chk.names.map AVal.str),.imm ((a.getD k Tb.zero).chk.binds.map AVal.str),.imm ((a.getD k Tb.zero).chk.kids.map Ex.enc),.int .i64 ((a.getD k Tb.zero).chk.pos),.int .i64 ((a.getD k Tb.zero).chk.fin)],.box [.str (b.getD k Tb.zero).name,.imm ((b.getD k Tb.zero).cols.map Co.v),.imm ((b.getD k Tb.zero).key.map AVal.str),.imm ((b.getD k Tb.zero).refs.map Rf.v),.int .i64 ((b.getD k Tb.zero).chk.kind),.str (b.getD k Tb.zero).chk.name,.int .i64 ((b.getD k Tb.zero).chk.n),.str (b.getD k Tb.zero).chk.s,.imm ((b.getD k Tb.zero).chk.names.map AVal.str),.imm ((b.getD k Tb.zero).chk.binds.map AVal.str),.imm ((b.getD k Tb.zero).chk.kids.map Ex.enc),.int .i64 ((b.getD k Tb.zero).chk.pos),.int .i64 ((b.getD k Tb.zero).chk.fin)]] kq kq ?_
       refine wOrd kq (vstart ?_)
       refine vsym kq kq (o_add (a:=((k:Nat):Int)) (b:=1) kq oq oq) ?_
       refine vrun 1 kq ?_
       refine vend kq ?_
       refine AThen_normal ⟨k+1,?_,?_,⟨⟨kq,kq,kq,kq,kq,trivial⟩,by simp [BelL,AVal.bel],by simp,kq,by simp [AObj.belO]⟩⟩
       · omega
       · refine ⟨by omega,fun i hi=>?_⟩
         rcases Nat.lt_succ_iff_lt_or_eq.1 hi with h|h
         · exact ha i h
         · subst h;assumption
     · refine wIfT kq (Eq.trans (b:=.bool (!((a.getD k Tb.zero).beq (b.getD k Tb.zero)))) kq (congrArg AVal.bool (congrArg not (Bool.eq_false_iff.2 hb3)))) ?_
       refine wSeq kq ?_
       refine wOrd kq (vstart ?_)
       refine vrun 1 kq ?_
       refine vend kq ?_
       refine AThen_normal ?_
       refine wSt [6] [(6,.bool false)] [.box [.fn (.func 29) [] []],.box [.str (a.getD k Tb.zero).name,.imm ((a.getD k Tb.zero).cols.map Co.v),.imm ((a.getD k Tb.zero).key.map AVal.str),.imm ((a.getD k Tb.zero).refs.map Rf.v),.int .i64 ((a.getD k Tb.zero).chk.kind),.str (a.getD k Tb.zero).chk.name,.int .i64 ((a.getD k Tb.zero).chk.n),.str (a.getD k Tb.zero).chk.s,.imm ((a.getD k Tb.zero).chk.names.map AVal.str),.imm ((a.getD k Tb.zero).chk.binds.map AVal.str),.imm ((a.getD k Tb.zero).chk.kids.map Ex.enc),.int .i64 ((a.getD k Tb.zero).chk.pos),.int .i64 ((a.getD k Tb.zero).chk.fin)],.box [.str (b.getD k Tb.zero).name,.imm ((b.getD k Tb.zero).cols.map Co.v),.imm ((b.getD k Tb.zero).key.map AVal.str),.imm ((b.getD k Tb.zero).refs.map Rf.v),.int .i64 ((b.getD k Tb.zero).chk.kind),.str (b.getD k Tb.zero).chk.name,.int .i64 ((b.getD k Tb.zero).chk.n),.str (b.getD k Tb.zero).chk.s,.imm ((b.getD k Tb.zero).chk.names.map AVal.str),.imm ((b.getD k Tb.zero).chk.binds.map AVal.str),.imm ((b.getD k Tb.zero).chk.kids.map Ex.enc),.int .i64 ((b.getD k Tb.zero).chk.pos),.int .i64 ((b.getD k Tb.zero).chk.fin)]] kq kq ?_
       refine wRet kq ?_
       refine AIn_ret ?_
       refine AThen_ret ?_
       refine AThen_ret ?_
       refine AIn_ret ?_
       refine AThen_ret ?_
       refine leafA (l:=[.bool false]) (.inr rfl) kq (by first|(simp [awrap,AVal.frz];first|exact (zipAll_len Tb.beq a b oq).symm|exact zipAll_len Tb.beq a b oq|exact zipAll_true Tb.beq Tb.zero Tb.zero a b oq (fun i hi=>ha i oq)|exact zipAll_at Tb.beq Tb.zero Tb.zero a b k oq oq (Bool.eq_false_iff.2 aq))) (by simp [awrap]) (by simp [awrap]) ?_ ?_
       · refine Eq.trans (b:=[.box [.fn (.func 29) [] []]]) kq ?_
         simp
       · simp [AObj.belO]
   · refine wIfF kq (Eq.trans (b:=.bool (decide (((k:Nat):Int)<((a.length:Nat):Int)))) kq (congrArg AVal.bool (decide_eq_false hb2))) ?_
     refine wExit 0 kq kq ?_
     refine AThen_exit ?_
     refine AThen_exit ?_
     refine AIn_exit ?_
     refine AThen_normal ?_
     refine wSt [] [] [.box [.fn (.func 29) [] []]] kq kq ?_
     refine wSeq kq ?_
     refine wOrd kq (vstart ?_)
     refine vrun 1 kq ?_
     refine vend kq ?_
     refine AThen_normal ?_
     refine wSt [6] [(6,.bool true)] [.box [.fn (.func 29) [] []]] kq kq ?_
     refine wRet kq ?_
     refine leafA (l:=[.bool true]) (.inr rfl) kq (by first|(simp [awrap,AVal.frz];first|exact (zipAll_len Tb.beq a b oq).symm|exact zipAll_len Tb.beq a b oq|exact zipAll_true Tb.beq Tb.zero Tb.zero a b oq (fun i hi=>ha i oq)|exact zipAll_at Tb.beq Tb.zero Tb.zero a b k oq oq (Bool.eq_false_iff.2 aq))) (by simp [awrap]) (by simp [awrap]) ?_ ?_
     · refine Eq.trans (b:=[.box [.fn (.func 29) [] []]]) kq ?_
       simp
     · simp [AObj.belO]
 · refine wIfT kq (Eq.trans (b:=.bool (((a.length:Nat):Int) != ((b.length:Nat):Int))) kq (congrArg AVal.bool (bne_iff_ne.2 hb1))) ?_
   refine wSeq kq ?_
   refine wOrd kq (vstart ?_)
   refine vrun 1 kq ?_
   refine vend kq ?_
   refine AThen_normal ?_
   refine wSt [6] [(6,.bool false)] [.box [.fn (.func 29) [] []]] kq kq ?_
   refine wRet kq ?_
   refine AThen_ret ?_
   refine leafA (l:=[.bool false]) (.inr rfl) kq (by first|(simp [awrap,AVal.frz];first|exact (zipAll_len Tb.beq a b oq).symm|exact zipAll_len Tb.beq a b oq|exact zipAll_true Tb.beq Tb.zero Tb.zero a b oq (fun i hi=>ha i oq)|exact zipAll_at Tb.beq Tb.zero Tb.zero a b k oq oq (Bool.eq_false_iff.2 aq))) (by simp [awrap]) (by simp [awrap]) ?_ ?_
   · refine Eq.trans (b:=[.box [.fn (.func 29) [] []]]) kq ?_
     simp
   · simp [AObj.belO]
end Go.Proofs.YtindpcpdkikdmaaGreatDoor
