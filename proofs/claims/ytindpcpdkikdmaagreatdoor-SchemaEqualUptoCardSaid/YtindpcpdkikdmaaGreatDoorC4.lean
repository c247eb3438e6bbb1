/- Equal of expressions in both packages. No condition. -/
import Derived.Test.YtindpcpdkikdmaaGreatDoorC3
set_option linter.all false
namespace Go.Proofs.YtindpcpdkikdmaaGreatDoor
open Go.Proofs.YtindpcpdkikdmaaGreatDoor.Abs
set_option maxRecDepth 20000
set_option maxHeartbeats 4000000
noncomputable def c62:Code:=bodyOf Tryz.f62
theorem eqFuncX_spec (a b:List Ex) (f:Nat) (p:Ex→Ex→Bool) (hc:∀ i,i<a.length→i<b.length→CallsP cx f [(a.getD i Ex.zero).v,(b.getD i Ex.zero).v] (.bool (p (a.getD i Ex.zero) (b.getD i Ex.zero)))) (hn:a.length<1000000000):CallsP cx 62 [.imm (a.map Ex.enc),.imm (b.map Ex.enc),.fn (.func f) [] []] (.bool (zipAll p a b)):=by
 refine func_intro (cx:=cx) 32 0 [(ResultVar.tmp 6)] Tryz.func62 rfl rfl rfl rfl rfl zq ?_
 show wpA cx 32 0 (at_ c62 []) _ _ _
 refine wSt [0,1,2] [(0,.imm (a.map Ex.enc)),(1,.imm (b.map Ex.enc)),(2,.fn (.func f) [] [])] [] kq kq ?_
 refine wSeq kq ?_
 refine wOrd kq (vstart ?_)
 refine vrun 1 kq ?_
 refine vend kq ?_
 refine AThen_normal ?_
 refine wSt [0,1,2] [(0,.imm (a.map Ex.enc)),(1,.imm (b.map Ex.enc)),(2,.fn (.func f) [] [])] [] kq kq ?_
 refine wSeq kq ?_
 refine wSeq kq ?_
 refine wOrd kq (vstart ?_)
 refine vrun 1 kq ?_
 refine vsym kq kq (o_lenmap (l:=a) (enc:=Ex.enc) kq ty37) ?_
 refine vrun 1 kq ?_
 refine vsym kq kq (o_lenmap (l:=b) (enc:=Ex.enc) kq ty37) ?_
 refine vrun 1 kq ?_
 refine vend kq ?_
 refine AThen_normal ?_
 refine wSt [0,1,2,14] [(0,.imm (a.map Ex.enc)),(1,.imm (b.map Ex.enc)),(2,.fn (.func f) [] []),(14,.bool (((a.length:Nat):Int) != ((b.length:Nat):Int)))] [] kq kq ?_
 by_cases hb1:((a.length:Nat):Int)=((b.length:Nat):Int)
 · refine wIfF kq (Eq.trans (b:=.bool (((a.length:Nat):Int) != ((b.length:Nat):Int))) kq (congrArg AVal.bool (bne_eq_false_iff_eq.2 hb1))) ?_
   refine wSkip kq ?_
   refine AThen_normal ?_
   refine wSt [0,1,2] [(0,.imm (a.map Ex.enc)),(1,.imm (b.map Ex.enc)),(2,.fn (.func f) [] [])] [] kq kq ?_
   refine wSeq kq ?_
   refine wSeq kq ?_
   refine wOrd kq (vstart ?_)
   refine vrun 1 kq ?_
   refine vsym kq kq (o_lenmap (l:=a) (enc:=Ex.enc) kq ty37) ?_
   refine vrun 1 kq ?_
   refine vend kq ?_
   refine AThen_normal ?_
   refine wSt [1,2,15,16,17] [(1,.imm (b.map Ex.enc)),(2,.fn (.func f) [] []),(15,.imm (a.map Ex.enc)),(16,.int .i64 ((a.length:Nat):Int)),(17,.int .i64 0)] [] kq kq ?_
   refine wBlock 0 kq kq ?_
   refine wLoop (σ:=Nat) (fun k=>[(1,.imm (b.map Ex.enc)),(2,.fn (.func f) [] []),(15,.imm (a.map Ex.enc)),(16,.int .i64 ((a.length:Nat):Int)),(17,.int .i64 ((k:Nat):Int))]) (fun k=>[]) (fun k=>k≤a.length∧∀ i,i<k→p (a.getD i Ex.zero) (b.getD i Ex.zero)=true) (fun k=>a.length - k) 0 kq zq ⟨⟨kq,kq,kq,kq,kq,trivial⟩,by simp [BelL,AVal.bel],by simp,kq,by simp⟩ ?_
   rintro k ⟨hk,ha⟩
   refine wSeq kq ?_
   refine wOrd kq (vstart ?_)
   refine vrun 1 kq ?_
   refine vend kq ?_
   refine AThen_normal ?_
   refine wSt [1,2,15,16,17,18] [(1,.imm (b.map Ex.enc)),(2,.fn (.func f) [] []),(15,.imm (a.map Ex.enc)),(16,.int .i64 ((a.length:Nat):Int)),(17,.int .i64 ((k:Nat):Int)),(18,.bool (decide (((k:Nat):Int)<((a.length:Nat):Int))))] [] kq kq ?_
   refine wSeq kq ?_
   by_cases hb2:((k:Nat):Int)<((a.length:Nat):Int)
   · refine wIfT kq (Eq.trans (b:=.bool (decide (((k:Nat):Int)<((a.length:Nat):Int)))) kq (congrArg AVal.bool (decide_eq_true hb2))) ?_
     refine wSkip kq ?_
     refine AThen_normal ?_
     refine wSt [1,2,15,16,17] [(1,.imm (b.map Ex.enc)),(2,.fn (.func f) [] []),(15,.imm (a.map Ex.enc)),(16,.int .i64 ((a.length:Nat):Int)),(17,.int .i64 ((k:Nat):Int))] [] kq kq ?_
     refine wSeq kq ?_
     refine wBlock 1 kq kq ?_
     refine wSeq kq ?_
     refine wOrd kq (vstart ?_)
     refine vrun 1 kq ?_
     refine vsym kq kq ((o_ixmap (k:=.i64) (l:=a) (enc:=Ex.enc) (i:=((k:Nat):Int)) Ex.zero kq ty37 ty39 ex_size oq oq).trans (congrArg (fun cs=>some (AVal.pimm cs 0,_)) (ex_cells (a.getD k Ex.zero)))) ?_
     refine vrun 4 kq ?_
     refine vend kq ?_
     refine AThen_normal ?_
     refine wSt [1,2,7,8,15,16,17] [(1,.imm (b.map Ex.enc)),(2,.fn (.func f) [] []),(7,.int .i64 ((k:Nat):Int)),(8,.ptr 0 0),(15,.imm (a.map Ex.enc)),(16,.int .i64 ((a.length:Nat):Int)),(17,.int .i64 ((k:Nat):Int))] [.box [.int .i64 ((a.getD k Ex.zero).kind),.str (a.getD k Ex.zero).name,.int .i64 ((a.getD k Ex.zero).n),.str (a.getD k Ex.zero).s,.imm ((a.getD k Ex.zero).names.map AVal.str),.imm ((a.getD k Ex.zero).binds.map AVal.str),.imm ((a.getD k Ex.zero).kids.map Ex.enc),.int .i64 ((a.getD k Ex.zero).pos),.int .i64 ((a.getD k Ex.zero).fin)]] kq kq ?_
     refine wSeq kq ?_
     refine wOrd kq (vstart ?_)
     refine vrun 2 kq ?_
     refine vsym kq kq ((o_ixmap (k:=.i64) (l:=b) (enc:=Ex.enc) (i:=((k:Nat):Int)) Ex.zero kq ty37 ty39 ex_size oq oq).trans (congrArg (fun cs=>some (AVal.pimm cs 0,_)) (ex_cells (b.getD k Ex.zero)))) ?_
     refine vrun 3 kq ?_
     refine vend kq ?_
     refine AThen_normal ?_
     refine wSt [1,2,8,9,15,16,17] [(1,.imm (b.map Ex.enc)),(2,.fn (.func f) [] []),(8,.ptr 0 0),(9,.ptr 1 0),(15,.imm (a.map Ex.enc)),(16,.int .i64 ((a.length:Nat):Int)),(17,.int .i64 ((k:Nat):Int))] [.box [.int .i64 ((a.getD k Ex.zero).kind),.str (a.getD k Ex.zero).name,.int .i64 ((a.getD k Ex.zero).n),.str (a.getD k Ex.zero).s,.imm ((a.getD k Ex.zero).names.map AVal.str),.imm ((a.getD k Ex.zero).binds.map AVal.str),.imm ((a.getD k Ex.zero).kids.map Ex.enc),.int .i64 ((a.getD k Ex.zero).pos),.int .i64 ((a.getD k Ex.zero).fin)],.box [.int .i64 ((b.getD k Ex.zero).kind),.str (b.getD k Ex.zero).name,.int .i64 ((b.getD k Ex.zero).n),.str (b.getD k Ex.zero).s,.imm ((b.getD k Ex.zero).names.map AVal.str),.imm ((b.getD k Ex.zero).binds.map AVal.str),.imm ((b.getD k Ex.zero).kids.map Ex.enc),.int .i64 ((b.getD k Ex.zero).pos),.int .i64 ((b.getD k Ex.zero).fin)]] kq kq ?_
     refine wSeq kq ?_
     refine wOrd kq (vstart ?_)
     refine vrun 3 kq ?_
     refine vcallP (args:=[.agg [.int .i64 ((a.getD k Ex.zero).kind),.str (a.getD k Ex.zero).name,.int .i64 ((a.getD k Ex.zero).n),.str (a.getD k Ex.zero).s,.imm ((a.getD k Ex.zero).names.map AVal.str),.imm ((a.getD k Ex.zero).binds.map AVal.str),.imm ((a.getD k Ex.zero).kids.map Ex.enc),.int .i64 ((a.getD k Ex.zero).pos),.int .i64 ((a.getD k Ex.zero).fin)],.agg [.int .i64 ((b.getD k Ex.zero).kind),.str (b.getD k Ex.zero).name,.int .i64 ((b.getD k Ex.zero).n),.str (b.getD k Ex.zero).s,.imm ((b.getD k Ex.zero).names.map AVal.str),.imm ((b.getD k Ex.zero).binds.map AVal.str),.imm ((b.getD k Ex.zero).kids.map Ex.enc),.int .i64 ((b.getD k Ex.zero).pos),.int .i64 ((b.getD k Ex.zero).fin)]]) kq kq kq kq (hc k oq oq) (by simp [Ty.v,Ex.v]) (by simp [Ty.v,Ex.v]) (by simp [Ty.v,Ex.v]) ?_
     refine vrun 1 kq ?_
     refine vend kq ?_
     refine AThen_normal ?_
     refine wSt [1,2,15,16,17,30] [(1,.imm (b.map Ex.enc)),(2,.fn (.func f) [] []),(15,.imm (a.map Ex.enc)),(16,.int .i64 ((a.length:Nat):Int)),(17,.int .i64 ((k:Nat):Int)),(30,.bool (!(p (a.getD k Ex.zero) (b.getD k Ex.zero))))] [.box [.int .i64 ((a.getD k Ex.zero).kind),.str (a.getD k Ex.zero).name,.int .i64 ((a.getD k Ex.zero).n),.str (a.getD k Ex.zero).s,.imm ((a.getD k Ex.zero).names.map AVal.str),.imm ((a.getD k Ex.zero).binds.map AVal.str),.imm ((a.getD k Ex.zero).kids.map Ex.enc),.int .i64 ((a.getD k Ex.zero).pos),.int .i64 ((a.getD k Ex.zero).fin)],.box [.int .i64 ((b.getD k Ex.zero).kind),.str (b.getD k Ex.zero).name,.int .i64 ((b.getD k Ex.zero).n),.str (b.getD k Ex.zero).s,.imm ((b.getD k Ex.zero).names.map AVal.str),.imm ((b.getD k Ex.zero).binds.map AVal.str),.imm ((b.getD k Ex.zero).kids.map Ex.enc),.int .i64 ((b.getD k Ex.zero).pos),.int .i64 ((b.getD k Ex.zero).fin)]] kq kq ?_
     by_cases hb3:(p (a.getD k Ex.zero) (b.getD k Ex.zero))=true
     · refine wIfF kq (Eq.trans (b:=.bool (!(p (a.getD k Ex.zero) (b.getD k Ex.zero)))) kq (congrArg AVal.bool (congrArg not (hb3)))) ?_
       refine wSkip kq ?_
       refine AIn_normal ?_
       refine AThen_normal ?_
       refine wSt [1,2,15,16,17] [(1,.imm (b.map Ex.enc)),(2,.fn (.func f) [] []),(15,.imm (a.map Ex.enc)),(16,.int .i64 ((a.length:Nat):Int)),(17,.int .i64 ((k:Nat):Int))] [.box [.int .i64 ((a.getD k Ex.zero).kind),.str (a.getD k Ex.zero).name,.int .i64 ((a.getD k Ex.zero).n),.str (a.getD k Ex.zero).s,.imm ((a.getD k Ex.zero).names.map AVal.str),.imm ((a.getD k Ex.zero).binds.map AVal.str),.imm ((a.getD k Ex.zero).kids.map Ex.enc),.int .i64 ((a.getD k Ex.zero).pos),.int .i64 ((a.getD k Ex.zero).fin)],.box [.int .i64 ((b.getD k Ex.zero).kind),.str (b.getD k Ex.zero).name,.int .i64 ((b.getD k Ex.zero).n),.str (b.getD k Ex.zero).s,.imm ((b.getD k Ex.zero).names.map AVal.str),.imm ((b.getD k Ex.zero).binds.map AVal.str),.imm ((b.getD k Ex.zero).kids.map Ex.enc),.int .i64 ((b.getD k Ex.zero).pos),.int .i64 ((b.getD k Ex.zero).fin)]] kq kq ?_
       refine wOrd kq (vstart ?_)
       refine vsym kq kq (o_add (a:=((k:Nat):Int)) (b:=1) kq oq oq) ?_
       refine vrun 1 kq ?_
       refine vend kq ?_
       refine AThen_normal ⟨k+1,?_,?_,⟨⟨kq,kq,kq,kq,kq,trivial⟩,by simp [BelL,AVal.bel],by simp,kq,by simp⟩⟩
       · omega
       · refine ⟨by omega,fun i hi=>?_⟩
         rcases Nat.lt_succ_iff_lt_or_eq.1 hi with h|h
         · exact ha i h
         · subst h;assumption
     · refine wIfT kq (Eq.trans (b:=.bool (!(p (a.getD k Ex.zero) (b.getD k Ex.zero)))) kq (congrArg AVal.bool (congrArg not (Bool.eq_false_iff.2 hb3)))) ?_
       refine wSeq kq ?_
       refine wOrd kq (vstart ?_)
       refine vrun 1 kq ?_
       refine vend kq ?_
       refine AThen_normal ?_
       refine wSt [6] [(6,.bool false)] [.box [.int .i64 ((a.getD k Ex.zero).kind),.str (a.getD k Ex.zero).name,.int .i64 ((a.getD k Ex.zero).n),.str (a.getD k Ex.zero).s,.imm ((a.getD k Ex.zero).names.map AVal.str),.imm ((a.getD k Ex.zero).binds.map AVal.str),.imm ((a.getD k Ex.zero).kids.map Ex.enc),.int .i64 ((a.getD k Ex.zero).pos),.int .i64 ((a.getD k Ex.zero).fin)],.box [.int .i64 ((b.getD k Ex.zero).kind),.str (b.getD k Ex.zero).name,.int .i64 ((b.getD k Ex.zero).n),.str (b.getD k Ex.zero).s,.imm ((b.getD k Ex.zero).names.map AVal.str),.imm ((b.getD k Ex.zero).binds.map AVal.str),.imm ((b.getD k Ex.zero).kids.map Ex.enc),.int .i64 ((b.getD k Ex.zero).pos),.int .i64 ((b.getD k Ex.zero).fin)]] kq kq ?_
       refine wRet kq ?_
       refine AIn_ret ?_
       refine AThen_ret ?_
       refine AThen_ret ?_
       refine AIn_ret ?_
       refine AThen_ret ?_
       refine leafB (b:=false) (.inr rfl) kq ?_
       first|exact (zipAll_len p a b oq).symm|exact (zipAll_true p Ex.zero Ex.zero a b oq (fun i hi=>ha i oq)).symm|exact (zipAll_at p Ex.zero Ex.zero a b k oq oq (Bool.eq_false_iff.2 aq)).symm
   · refine wIfF kq (Eq.trans (b:=.bool (decide (((k:Nat):Int)<((a.length:Nat):Int)))) kq (congrArg AVal.bool (decide_eq_false hb2))) ?_
     refine wExit 0 kq kq ?_
     refine AThen_exit ?_
     refine AThen_exit ?_
     refine AIn_exit ?_
     refine AThen_normal ?_
     refine wSt [] [] [] kq kq ?_
     refine wSeq kq ?_
     refine wOrd kq (vstart ?_)
     refine vrun 1 kq ?_
     refine vend kq ?_
     refine AThen_normal ?_
     refine wSt [6] [(6,.bool true)] [] kq kq ?_
     refine wRet kq ?_
     refine leafB (b:=true) (.inr rfl) kq ?_
     first|exact (zipAll_len p a b oq).symm|exact (zipAll_true p Ex.zero Ex.zero a b oq (fun i hi=>ha i oq)).symm|exact (zipAll_at p Ex.zero Ex.zero a b k oq oq (Bool.eq_false_iff.2 aq)).symm
 · refine wIfT kq (Eq.trans (b:=.bool (((a.length:Nat):Int) != ((b.length:Nat):Int))) kq (congrArg AVal.bool (bne_iff_ne.2 hb1))) ?_
   refine wSeq kq ?_
   refine wOrd kq (vstart ?_)
   refine vrun 1 kq ?_
   refine vend kq ?_
   refine AThen_normal ?_
   refine wSt [6] [(6,.bool false)] [] kq kq ?_
   refine wRet kq ?_
   refine AThen_ret ?_
   refine leafB (b:=false) (.inr rfl) kq ?_
   first|exact (zipAll_len p a b oq).symm|exact (zipAll_true p Ex.zero Ex.zero a b oq (fun i hi=>ha i oq)).symm|exact (zipAll_at p Ex.zero Ex.zero a b k oq oq (Bool.eq_false_iff.2 aq)).symm
noncomputable def c34:Code:=bodyOf Tryz.f34
theorem xEqual_spec (a b:Ex) (hs:a.sz<100000000):CallsP cx 34 [Ex.v a,Ex.v b] (.bool (a.beq b)):=by
 induction hN:a.sz using Nat.strongRecOn generalizing a b with|_ N ih =>
 have hc:∀ i,i<a.kids.length→i<b.kids.length→CallsP cx 34 [(a.kids.getD i Ex.zero).v,(b.kids.getD i Ex.zero).v] (.bool ((a.kids.getD i Ex.zero).beq (b.kids.getD i Ex.zero))):=fun i h1 _=>ih _ (by rw [← hN];exact xsz_kid a i h1) _ _ (Nat.lt_trans (xsz_kid a i h1) hs) rfl
 have hz1:=xsz_names a
 have hz2:=xsz_kids a
 have hz3:=xsz_binds a
 refine func_intro (cx:=cx) 52 0 [(ResultVar.tmp 4)] Tryz.func34 rfl rfl rfl rfl rfl zq ?_
 show wpA cx 52 0 (at_ c34 []) _ _ _
 refine wSt [0,1] [(0,Ex.v a),(1,Ex.v b)] [] kq kq ?_
 refine wSeq kq ?_
 refine wOrd kq (vstart ?_)
 refine vrun 3 kq ?_
 refine vend kq ?_
 refine AThen_normal ?_
 refine wSt [2,3] [(2,.ptr 0 0),(3,.ptr 1 0)] [.box [.int .i64 (a.kind),.str a.name,.int .i64 (a.n),.str a.s,.imm (a.names.map AVal.str),.imm (a.binds.map AVal.str),.imm (a.kids.map Ex.enc),.int .i64 (a.pos),.int .i64 (a.fin)],.box [.int .i64 (b.kind),.str b.name,.int .i64 (b.n),.str b.s,.imm (b.names.map AVal.str),.imm (b.binds.map AVal.str),.imm (b.kids.map Ex.enc),.int .i64 (b.pos),.int .i64 (b.fin)]] kq kq ?_
 refine wSeq kq ?_
 refine wOrd kq (vstart ?_)
 refine vrun 6 kq ?_
 by_cases hb1:(a.kind)=(b.kind)
 · refine vset 9 (.bool ((a.kind)==(b.kind))) (.bool true) (extO extThen) kq (congrArg AVal.bool (beq_iff_eq.2 hb1)) ?_
   refine vset 10 (.bool ((a.kind)==(b.kind))) (.bool true) (extO extThen) kq (congrArg AVal.bool (beq_iff_eq.2 hb1)) ?_
   refine vrun 7 kq ?_
   by_cases hb2:a.name=b.name
   · refine vset 15 (.bool (a.name==b.name)) (.bool true) (extO extThen) kq (congrArg AVal.bool (beq_iff_eq.2 hb2)) ?_
     refine vset 16 (.bool (a.name==b.name)) (.bool true) (extO extThen) kq (congrArg AVal.bool (beq_iff_eq.2 hb2)) ?_
     refine vset 17 (.bool (a.name==b.name)) (.bool true) (extO extThen) kq (congrArg AVal.bool (beq_iff_eq.2 hb2)) ?_
     refine vrun 7 kq ?_
     by_cases hb3:(a.n)=(b.n)
     · refine vset 22 (.bool ((a.n)==(b.n))) (.bool true) (extO extThen) kq (congrArg AVal.bool (beq_iff_eq.2 hb3)) ?_
       refine vset 23 (.bool ((a.n)==(b.n))) (.bool true) (extO extThen) kq (congrArg AVal.bool (beq_iff_eq.2 hb3)) ?_
       refine vset 24 (.bool ((a.n)==(b.n))) (.bool true) (extO extThen) kq (congrArg AVal.bool (beq_iff_eq.2 hb3)) ?_
       refine vrun 7 kq ?_
       by_cases hb4:a.s=b.s
       · refine vset 29 (.bool (a.s==b.s)) (.bool true) (extO extThen) kq (congrArg AVal.bool (beq_iff_eq.2 hb4)) ?_
         refine vset 30 (.bool (a.s==b.s)) (.bool true) (extO extThen) kq (congrArg AVal.bool (beq_iff_eq.2 hb4)) ?_
         refine vset 31 (.bool (a.s==b.s)) (.bool true) (extO extThen) kq (congrArg AVal.bool (beq_iff_eq.2 hb4)) ?_
         refine vrun 4 kq ?_
         refine vcallP (args:=[.imm (a.names.map AVal.str),.imm (b.names.map AVal.str)]) kq kq kq kq (slEqual_spec a.names b.names oq) (by simp [Ty.v,Ex.v]) (by simp [Ty.v,Ex.v]) (by simp [Ty.v,Ex.v]) ?_
         refine vrun 2 kq ?_
         by_cases hb5:(a.names==b.names)=true
         · refine vset 36 (.bool (a.names==b.names)) (.bool true) (extO extThen) kq (congrArg AVal.bool (hb5)) ?_
           refine vset 37 (.bool (a.names==b.names)) (.bool true) (extO extThen) kq (congrArg AVal.bool (hb5)) ?_
           refine vset 38 (.bool (a.names==b.names)) (.bool true) (extO extThen) kq (congrArg AVal.bool (hb5)) ?_
           refine vrun 4 kq ?_
           refine vcallP (args:=[.imm (a.binds.map AVal.str),.imm (b.binds.map AVal.str)]) kq kq kq kq (slEqual_spec a.binds b.binds oq) (by simp [Ty.v,Ex.v]) (by simp [Ty.v,Ex.v]) (by simp [Ty.v,Ex.v]) ?_
           refine vrun 2 kq ?_
           by_cases hb6:(a.binds==b.binds)=true
           · refine vset 43 (.bool (a.binds==b.binds)) (.bool true) (extO extThen) kq (congrArg AVal.bool (hb6)) ?_
             refine vset 44 (.bool (a.binds==b.binds)) (.bool true) (extO extThen) kq (congrArg AVal.bool (hb6)) ?_
             refine vset 45 (.bool (a.binds==b.binds)) (.bool true) (extO extThen) kq (congrArg AVal.bool (hb6)) ?_
             refine vrun 4 kq ?_
             refine vcallP (args:=[.imm (a.kids.map Ex.enc),.imm (b.kids.map Ex.enc),.fn (.func 34) [] []]) kq kq kq kq (eqFuncX_spec a.kids b.kids 34 Ex.beq (hc) oq) (by simp [Ty.v,Ex.v]) (by simp [Ty.v,Ex.v]) (by simp [Ty.v,Ex.v]) ?_
             refine vrun 2 kq ?_
             refine vend kq ?_
             refine AThen_normal ?_
             refine wSt [4] [(4,.bool (zipAll Ex.beq a.kids b.kids))] [.box [.int .i64 (a.kind),.str a.name,.int .i64 (a.n),.str a.s,.imm (a.names.map AVal.str),.imm (a.binds.map AVal.str),.imm (a.kids.map Ex.enc),.int .i64 (a.pos),.int .i64 (a.fin)],.box [.int .i64 (b.kind),.str b.name,.int .i64 (b.n),.str b.s,.imm (b.names.map AVal.str),.imm (b.binds.map AVal.str),.imm (b.kids.map Ex.enc),.int .i64 (b.pos),.int .i64 (b.fin)]] kq kq ?_
             refine wRet kq ?_
             refine leafB (b:=(zipAll Ex.beq a.kids b.kids)) (.inr rfl) kq ?_
             simp [xbeq_eq, *]
           · refine vset 43 (.bool (a.binds==b.binds)) (.bool false) (extO extThen) kq (congrArg AVal.bool (Bool.eq_false_iff.2 hb6)) ?_
             refine vset 44 (.bool (a.binds==b.binds)) (.bool false) (extO extThen) kq (congrArg AVal.bool (Bool.eq_false_iff.2 hb6)) ?_
             refine vset 45 (.bool (a.binds==b.binds)) (.bool false) (extO extThen) kq (congrArg AVal.bool (Bool.eq_false_iff.2 hb6)) ?_
             refine vrun 7 kq ?_
             refine vend kq ?_
             refine AThen_normal ?_
             refine wSt [4] [(4,.bool false)] [.box [.int .i64 (a.kind),.str a.name,.int .i64 (a.n),.str a.s,.imm (a.names.map AVal.str),.imm (a.binds.map AVal.str),.imm (a.kids.map Ex.enc),.int .i64 (a.pos),.int .i64 (a.fin)],.box [.int .i64 (b.kind),.str b.name,.int .i64 (b.n),.str b.s,.imm (b.names.map AVal.str),.imm (b.binds.map AVal.str),.imm (b.kids.map Ex.enc),.int .i64 (b.pos),.int .i64 (b.fin)]] kq kq ?_
             refine wRet kq ?_
             refine leafB (b:=false) (.inr rfl) kq ?_
             simp [xbeq_eq, *]
         · refine vset 36 (.bool (a.names==b.names)) (.bool false) (extO extThen) kq (congrArg AVal.bool (Bool.eq_false_iff.2 hb5)) ?_
           refine vset 37 (.bool (a.names==b.names)) (.bool false) (extO extThen) kq (congrArg AVal.bool (Bool.eq_false_iff.2 hb5)) ?_
           refine vset 38 (.bool (a.names==b.names)) (.bool false) (extO extThen) kq (congrArg AVal.bool (Bool.eq_false_iff.2 hb5)) ?_
           refine vrun 14 kq ?_
           refine vend kq ?_
           refine AThen_normal ?_
           refine wSt [4] [(4,.bool false)] [.box [.int .i64 (a.kind),.str a.name,.int .i64 (a.n),.str a.s,.imm (a.names.map AVal.str),.imm (a.binds.map AVal.str),.imm (a.kids.map Ex.enc),.int .i64 (a.pos),.int .i64 (a.fin)],.box [.int .i64 (b.kind),.str b.name,.int .i64 (b.n),.str b.s,.imm (b.names.map AVal.str),.imm (b.binds.map AVal.str),.imm (b.kids.map Ex.enc),.int .i64 (b.pos),.int .i64 (b.fin)]] kq kq ?_
           refine wRet kq ?_
           refine leafB (b:=false) (.inr rfl) kq ?_
           simp [xbeq_eq, *]
       · refine vset 29 (.bool (a.s==b.s)) (.bool false) (extO extThen) kq (congrArg AVal.bool (beq_eq_false_iff_ne.2 hb4)) ?_
         refine vset 30 (.bool (a.s==b.s)) (.bool false) (extO extThen) kq (congrArg AVal.bool (beq_eq_false_iff_ne.2 hb4)) ?_
         refine vset 31 (.bool (a.s==b.s)) (.bool false) (extO extThen) kq (congrArg AVal.bool (beq_eq_false_iff_ne.2 hb4)) ?_
         refine vrun 21 kq ?_
         refine vend kq ?_
         refine AThen_normal ?_
         refine wSt [4] [(4,.bool false)] [.box [.int .i64 (a.kind),.str a.name,.int .i64 (a.n),.str a.s,.imm (a.names.map AVal.str),.imm (a.binds.map AVal.str),.imm (a.kids.map Ex.enc),.int .i64 (a.pos),.int .i64 (a.fin)],.box [.int .i64 (b.kind),.str b.name,.int .i64 (b.n),.str b.s,.imm (b.names.map AVal.str),.imm (b.binds.map AVal.str),.imm (b.kids.map Ex.enc),.int .i64 (b.pos),.int .i64 (b.fin)]] kq kq ?_
         refine wRet kq ?_
         refine leafB (b:=false) (.inr rfl) kq ?_
         simp [xbeq_eq, *]
     · refine vset 22 (.bool ((a.n)==(b.n))) (.bool false) (extO extThen) kq (congrArg AVal.bool (beq_eq_false_iff_ne.2 hb3)) ?_
       refine vset 23 (.bool ((a.n)==(b.n))) (.bool false) (extO extThen) kq (congrArg AVal.bool (beq_eq_false_iff_ne.2 hb3)) ?_
       refine vset 24 (.bool ((a.n)==(b.n))) (.bool false) (extO extThen) kq (congrArg AVal.bool (beq_eq_false_iff_ne.2 hb3)) ?_
       refine vrun 28 kq ?_
       refine vend kq ?_
       refine AThen_normal ?_
       refine wSt [4] [(4,.bool false)] [.box [.int .i64 (a.kind),.str a.name,.int .i64 (a.n),.str a.s,.imm (a.names.map AVal.str),.imm (a.binds.map AVal.str),.imm (a.kids.map Ex.enc),.int .i64 (a.pos),.int .i64 (a.fin)],.box [.int .i64 (b.kind),.str b.name,.int .i64 (b.n),.str b.s,.imm (b.names.map AVal.str),.imm (b.binds.map AVal.str),.imm (b.kids.map Ex.enc),.int .i64 (b.pos),.int .i64 (b.fin)]] kq kq ?_
       refine wRet kq ?_
       refine leafB (b:=false) (.inr rfl) kq ?_
       simp [xbeq_eq, *]
   · refine vset 15 (.bool (a.name==b.name)) (.bool false) (extO extThen) kq (congrArg AVal.bool (beq_eq_false_iff_ne.2 hb2)) ?_
     refine vset 16 (.bool (a.name==b.name)) (.bool false) (extO extThen) kq (congrArg AVal.bool (beq_eq_false_iff_ne.2 hb2)) ?_
     refine vset 17 (.bool (a.name==b.name)) (.bool false) (extO extThen) kq (congrArg AVal.bool (beq_eq_false_iff_ne.2 hb2)) ?_
     refine vrun 35 kq ?_
     refine vend kq ?_
     refine AThen_normal ?_
     refine wSt [4] [(4,.bool false)] [.box [.int .i64 (a.kind),.str a.name,.int .i64 (a.n),.str a.s,.imm (a.names.map AVal.str),.imm (a.binds.map AVal.str),.imm (a.kids.map Ex.enc),.int .i64 (a.pos),.int .i64 (a.fin)],.box [.int .i64 (b.kind),.str b.name,.int .i64 (b.n),.str b.s,.imm (b.names.map AVal.str),.imm (b.binds.map AVal.str),.imm (b.kids.map Ex.enc),.int .i64 (b.pos),.int .i64 (b.fin)]] kq kq ?_
     refine wRet kq ?_
     refine leafB (b:=false) (.inr rfl) kq ?_
     simp [xbeq_eq, *]
 · refine vset 9 (.bool ((a.kind)==(b.kind))) (.bool false) (extO extThen) kq (congrArg AVal.bool (beq_eq_false_iff_ne.2 hb1)) ?_
   refine vset 10 (.bool ((a.kind)==(b.kind))) (.bool false) (extO extThen) kq (congrArg AVal.bool (beq_eq_false_iff_ne.2 hb1)) ?_
   refine vrun 42 kq ?_
   refine vend kq ?_
   refine AThen_normal ?_
   refine wSt [4] [(4,.bool false)] [.box [.int .i64 (a.kind),.str a.name,.int .i64 (a.n),.str a.s,.imm (a.names.map AVal.str),.imm (a.binds.map AVal.str),.imm (a.kids.map Ex.enc),.int .i64 (a.pos),.int .i64 (a.fin)],.box [.int .i64 (b.kind),.str b.name,.int .i64 (b.n),.str b.s,.imm (b.names.map AVal.str),.imm (b.binds.map AVal.str),.imm (b.kids.map Ex.enc),.int .i64 (b.pos),.int .i64 (b.fin)]] kq kq ?_
   refine wRet kq ?_
   refine leafB (b:=false) (.inr rfl) kq ?_
   simp [xbeq_eq, *]
theorem xbeq_lit {a b:Ex} {v:Bool} (h:v=((a.kind==b.kind) && ((a.name==b.name) && ((a.n==b.n) && ((a.s==b.s) && ((a.names==b.names) && ((a.binds==b.binds) && zipAll Ex.beq a.kids b.kids))))))):v=a.beq b:=by rw [xbeq_eq];exact h
noncomputable def c63:Code:=bodyOf Tryz.f63
theorem xSame_spec (a b:Ex) (hs:a.sz<100000000):CallsP cx 63 [Ex.v a,Ex.v b] (.bool (a.beq b)):=by
 induction hN:a.sz using Nat.strongRecOn generalizing a b with|_ N ih =>
 have hc:∀ i,i<a.kids.length→i<b.kids.length→CallsP cx 63 [(a.kids.getD i Ex.zero).v,(b.kids.getD i Ex.zero).v] (.bool ((a.kids.getD i Ex.zero).beq (b.kids.getD i Ex.zero))):=fun i h1 _=>ih _ (by rw [← hN];exact xsz_kid a i h1) _ _ (Nat.lt_trans (xsz_kid a i h1) hs) rfl
 have hz1:=xsz_names a
 have hz2:=xsz_kids a
 have hz3:=xsz_binds a
 refine func_intro (cx:=cx) 82 0 [(ResultVar.tmp 4)] Tryz.func63 rfl rfl rfl rfl rfl zq ?_
 show wpA cx 82 0 (at_ c63 []) _ _ _
 refine wSt [0,1] [(0,Ex.v a),(1,Ex.v b)] [] kq kq ?_
 refine wSeq kq ?_
 refine wOrd kq (vstart ?_)
 refine vrun 3 kq ?_
 refine vend kq ?_
 refine AThen_normal ?_
 refine wSt [2,3] [(2,.ptr 0 0),(3,.ptr 1 0)] [.box [.int .i64 (a.kind),.str a.name,.int .i64 (a.n),.str a.s,.imm (a.names.map AVal.str),.imm (a.binds.map AVal.str),.imm (a.kids.map Ex.enc),.int .i64 (a.pos),.int .i64 (a.fin)],.box [.int .i64 (b.kind),.str b.name,.int .i64 (b.n),.str b.s,.imm (b.names.map AVal.str),.imm (b.binds.map AVal.str),.imm (b.kids.map Ex.enc),.int .i64 (b.pos),.int .i64 (b.fin)]] kq kq ?_
 refine wSeq kq ?_
 refine wOrd kq (vstart ?_)
 refine vrun 4 kq ?_
 refine vcallP (args:=[.imm (a.names.map AVal.str),.imm (b.names.map AVal.str)]) kq kq kq kq (sameTexts_spec a.names b.names oq) (by simp [Ty.v,Ex.v]) (by simp [Ty.v,Ex.v]) (by simp [Ty.v,Ex.v]) ?_
 refine vrun 1 kq ?_
 refine vend kq ?_
 refine AThen_normal ?_
 refine wSt [2,3,5] [(2,.ptr 0 0),(3,.ptr 1 0),(5,.bool (a.names==b.names))] [.box [.int .i64 (a.kind),.str a.name,.int .i64 (a.n),.str a.s,.imm (a.names.map AVal.str),.imm (a.binds.map AVal.str),.imm (a.kids.map Ex.enc),.int .i64 (a.pos),.int .i64 (a.fin)],.box [.int .i64 (b.kind),.str b.name,.int .i64 (b.n),.str b.s,.imm (b.names.map AVal.str),.imm (b.binds.map AVal.str),.imm (b.kids.map Ex.enc),.int .i64 (b.pos),.int .i64 (b.fin)]] kq kq ?_
 refine wSeq kq ?_
 refine wOrd kq (vstart ?_)
 refine vrun 4 kq ?_
 refine vcallP (args:=[.imm (a.binds.map AVal.str),.imm (b.binds.map AVal.str)]) kq kq kq kq (sameTexts_spec a.binds b.binds oq) (by simp [Ty.v,Ex.v]) (by simp [Ty.v,Ex.v]) (by simp [Ty.v,Ex.v]) ?_
 refine vrun 1 kq ?_
 refine vend kq ?_
 refine AThen_normal ?_
 refine wSt [2,3,5,6] [(2,.ptr 0 0),(3,.ptr 1 0),(5,.bool (a.names==b.names)),(6,.bool (a.binds==b.binds))] [.box [.int .i64 (a.kind),.str a.name,.int .i64 (a.n),.str a.s,.imm (a.names.map AVal.str),.imm (a.binds.map AVal.str),.imm (a.kids.map Ex.enc),.int .i64 (a.pos),.int .i64 (a.fin)],.box [.int .i64 (b.kind),.str b.name,.int .i64 (b.n),.str b.s,.imm (b.names.map AVal.str),.imm (b.binds.map AVal.str),.imm (b.kids.map Ex.enc),.int .i64 (b.pos),.int .i64 (b.fin)]] kq kq ?_
 refine wSeq kq ?_
 refine wSeq kq ?_
 refine wOrd kq (vstart ?_)
 refine vrun 3 kq ?_
 by_cases hb1:(a.names==b.names)=true
 · refine vset 20 (.bool (!(a.names==b.names))) (.bool false) (extO extThen) kq (congrArg AVal.bool (congrArg not (hb1))) ?_
   refine vset 21 (.bool (!(a.names==b.names))) (.bool false) (extO extThen) kq (congrArg AVal.bool (congrArg not (hb1))) ?_
   refine vrun 4 kq ?_
   by_cases hb2:(a.binds==b.binds)=true
   · refine vset 23 (.bool (!(a.binds==b.binds))) (.bool false) (extO extThen) kq (congrArg AVal.bool (congrArg not (hb2))) ?_
     refine vset 24 (.bool (!(a.binds==b.binds))) (.bool false) (extO extThen) kq (congrArg AVal.bool (congrArg not (hb2))) ?_
     refine vset 25 (.bool (!(a.binds==b.binds))) (.bool false) (extO extThen) kq (congrArg AVal.bool (congrArg not (hb2))) ?_
     refine vrun 7 kq ?_
     by_cases hb3:(a.kind)=(b.kind)
     · refine vset 30 (.bool ((a.kind) != (b.kind))) (.bool false) (extO extThen) kq (congrArg AVal.bool (bne_eq_false_iff_eq.2 hb3)) ?_
       refine vset 31 (.bool ((a.kind) != (b.kind))) (.bool false) (extO extThen) kq (congrArg AVal.bool (bne_eq_false_iff_eq.2 hb3)) ?_
       refine vset 32 (.bool ((a.kind) != (b.kind))) (.bool false) (extO extThen) kq (congrArg AVal.bool (bne_eq_false_iff_eq.2 hb3)) ?_
       refine vrun 7 kq ?_
       by_cases hb4:a.name=b.name
       · refine vset 37 (.bool (!(a.name==b.name))) (.bool false) (extO extThen) kq (congrArg AVal.bool (congrArg not (beq_iff_eq.2 hb4))) ?_
         refine vset 38 (.bool (!(a.name==b.name))) (.bool false) (extO extThen) kq (congrArg AVal.bool (congrArg not (beq_iff_eq.2 hb4))) ?_
         refine vset 39 (.bool (!(a.name==b.name))) (.bool false) (extO extThen) kq (congrArg AVal.bool (congrArg not (beq_iff_eq.2 hb4))) ?_
         refine vrun 7 kq ?_
         by_cases hb5:(a.n)=(b.n)
         · refine vset 44 (.bool ((a.n) != (b.n))) (.bool false) (extO extThen) kq (congrArg AVal.bool (bne_eq_false_iff_eq.2 hb5)) ?_
           refine vset 45 (.bool ((a.n) != (b.n))) (.bool false) (extO extThen) kq (congrArg AVal.bool (bne_eq_false_iff_eq.2 hb5)) ?_
           refine vset 46 (.bool ((a.n) != (b.n))) (.bool false) (extO extThen) kq (congrArg AVal.bool (bne_eq_false_iff_eq.2 hb5)) ?_
           refine vrun 7 kq ?_
           by_cases hb6:a.s=b.s
           · refine vset 51 (.bool (!(a.s==b.s))) (.bool false) (extO extThen) kq (congrArg AVal.bool (congrArg not (beq_iff_eq.2 hb6))) ?_
             refine vset 52 (.bool (!(a.s==b.s))) (.bool false) (extO extThen) kq (congrArg AVal.bool (congrArg not (beq_iff_eq.2 hb6))) ?_
             refine vset 53 (.bool (!(a.s==b.s))) (.bool false) (extO extThen) kq (congrArg AVal.bool (congrArg not (beq_iff_eq.2 hb6))) ?_
             refine vrun 2 kq ?_
             refine vsym kq kq (o_lenmap (l:=a.kids) (enc:=Ex.enc) kq ty37) ?_
             refine vrun 2 kq ?_
             refine vsym kq kq (o_lenmap (l:=b.kids) (enc:=Ex.enc) kq ty37) ?_
             refine vrun 2 kq ?_
             refine vend kq ?_
             refine AThen_normal ?_
             refine wSt [2,3,61] [(2,.ptr 0 0),(3,.ptr 1 0),(61,.bool (((a.kids.length:Nat):Int) != ((b.kids.length:Nat):Int)))] [.box [.int .i64 (a.kind),.str a.name,.int .i64 (a.n),.str a.s,.imm (a.names.map AVal.str),.imm (a.binds.map AVal.str),.imm (a.kids.map Ex.enc),.int .i64 (a.pos),.int .i64 (a.fin)],.box [.int .i64 (b.kind),.str b.name,.int .i64 (b.n),.str b.s,.imm (b.names.map AVal.str),.imm (b.binds.map AVal.str),.imm (b.kids.map Ex.enc),.int .i64 (b.pos),.int .i64 (b.fin)]] kq kq ?_
             by_cases hb7:((a.kids.length:Nat):Int)=((b.kids.length:Nat):Int)
             · refine wIfF kq (Eq.trans (b:=.bool (((a.kids.length:Nat):Int) != ((b.kids.length:Nat):Int))) kq (congrArg AVal.bool (bne_eq_false_iff_eq.2 hb7))) ?_
               refine wSkip kq ?_
               refine AThen_normal ?_
               refine wSt [2,3] [(2,.ptr 0 0),(3,.ptr 1 0)] [.box [.int .i64 (a.kind),.str a.name,.int .i64 (a.n),.str a.s,.imm (a.names.map AVal.str),.imm (a.binds.map AVal.str),.imm (a.kids.map Ex.enc),.int .i64 (a.pos),.int .i64 (a.fin)],.box [.int .i64 (b.kind),.str b.name,.int .i64 (b.n),.str b.s,.imm (b.names.map AVal.str),.imm (b.binds.map AVal.str),.imm (b.kids.map Ex.enc),.int .i64 (b.pos),.int .i64 (b.fin)]] kq kq ?_
               refine wSeq kq ?_
               refine wSeq kq ?_
               refine wOrd kq (vstart ?_)
               refine vrun 1 kq ?_
               refine vend kq ?_
               refine AThen_normal ?_
               refine wSt [2,3,7] [(2,.ptr 0 0),(3,.ptr 1 0),(7,.int .i64 0)] [.box [.int .i64 (a.kind),.str a.name,.int .i64 (a.n),.str a.s,.imm (a.names.map AVal.str),.imm (a.binds.map AVal.str),.imm (a.kids.map Ex.enc),.int .i64 (a.pos),.int .i64 (a.fin)],.box [.int .i64 (b.kind),.str b.name,.int .i64 (b.n),.str b.s,.imm (b.names.map AVal.str),.imm (b.binds.map AVal.str),.imm (b.kids.map Ex.enc),.int .i64 (b.pos),.int .i64 (b.fin)]] kq kq ?_
               refine wBlock 0 kq kq ?_
               refine wLoop (σ:=Nat) (fun k=>[(2,.ptr 0 0),(3,.ptr 1 0),(7,.int .i64 ((k:Nat):Int))]) (fun k=>[.box [.int .i64 (a.kind),.str a.name,.int .i64 (a.n),.str a.s,.imm (a.names.map AVal.str),.imm (a.binds.map AVal.str),.imm (a.kids.map Ex.enc),.int .i64 (a.pos),.int .i64 (a.fin)],.box [.int .i64 (b.kind),.str b.name,.int .i64 (b.n),.str b.s,.imm (b.names.map AVal.str),.imm (b.binds.map AVal.str),.imm (b.kids.map Ex.enc),.int .i64 (b.pos),.int .i64 (b.fin)]]) (fun k=>k≤a.kids.length∧∀ i,i<k→(a.kids.getD i Ex.zero).beq (b.kids.getD i Ex.zero)=true) (fun k=>a.kids.length - k) 0 kq zq ⟨⟨kq,kq,kq,trivial⟩,by simp [BelL,AVal.bel],by simp,kq,by simp [AObj.belO]⟩ ?_
               rintro k ⟨hk,ha⟩
               refine wSeq kq ?_
               refine wSeq kq ?_
               refine wOrd kq (vstart ?_)
               refine vrun 3 kq ?_
               refine vsym kq kq (o_lenmap (l:=a.kids) (enc:=Ex.enc) kq ty37) ?_
               refine vrun 1 kq ?_
               refine vend kq ?_
               refine AThen_normal ?_
               refine wSt [2,3,7,66] [(2,.ptr 0 0),(3,.ptr 1 0),(7,.int .i64 ((k:Nat):Int)),(66,.bool (decide (((k:Nat):Int)<((a.kids.length:Nat):Int))))] [.box [.int .i64 (a.kind),.str a.name,.int .i64 (a.n),.str a.s,.imm (a.names.map AVal.str),.imm (a.binds.map AVal.str),.imm (a.kids.map Ex.enc),.int .i64 (a.pos),.int .i64 (a.fin)],.box [.int .i64 (b.kind),.str b.name,.int .i64 (b.n),.str b.s,.imm (b.names.map AVal.str),.imm (b.binds.map AVal.str),.imm (b.kids.map Ex.enc),.int .i64 (b.pos),.int .i64 (b.fin)]] kq kq ?_
               by_cases hb8:((k:Nat):Int)<((a.kids.length:Nat):Int)
               · refine wIfT kq (Eq.trans (b:=.bool (decide (((k:Nat):Int)<((a.kids.length:Nat):Int)))) kq (congrArg AVal.bool (decide_eq_true hb8))) ?_
                 refine wSkip kq ?_
                 refine AThen_normal ?_
                 refine wSt [2,3,7] [(2,.ptr 0 0),(3,.ptr 1 0),(7,.int .i64 ((k:Nat):Int))] [.box [.int .i64 (a.kind),.str a.name,.int .i64 (a.n),.str a.s,.imm (a.names.map AVal.str),.imm (a.binds.map AVal.str),.imm (a.kids.map Ex.enc),.int .i64 (a.pos),.int .i64 (a.fin)],.box [.int .i64 (b.kind),.str b.name,.int .i64 (b.n),.str b.s,.imm (b.names.map AVal.str),.imm (b.binds.map AVal.str),.imm (b.kids.map Ex.enc),.int .i64 (b.pos),.int .i64 (b.fin)]] kq kq ?_
                 refine wSeq kq ?_
                 refine wBlock 1 kq kq ?_
                 refine wSeq kq ?_
                 refine wDrw cxM kq extThen (dstart ?_)
                 refine drun 3 kq ?_
                 refine dsym kq kq kq ((o_ixmap (k:=.i64) (l:=a.kids) (enc:=Ex.enc) (i:=((k:Nat):Int)) Ex.zero kq ty37 ty39 ex_size oq oq).trans (congrArg (fun cs=>some (AVal.pimm cs 0,_)) (ex_cells (a.kids.getD k Ex.zero)))) ?_
                 refine drun 4 kq ?_
                 refine dsym kq kq kq ((o_ixmap (k:=.i64) (l:=b.kids) (enc:=Ex.enc) (i:=((k:Nat):Int)) Ex.zero kq ty37 ty39 ex_size oq oq).trans (congrArg (fun cs=>some (AVal.pimm cs 0,_)) (ex_cells (b.kids.getD k Ex.zero)))) ?_
                 refine drun 1 kq ?_
                 refine dcallP (args:=[.agg [.int .i64 ((a.kids.getD k Ex.zero).kind),.str (a.kids.getD k Ex.zero).name,.int .i64 ((a.kids.getD k Ex.zero).n),.str (a.kids.getD k Ex.zero).s,.imm ((a.kids.getD k Ex.zero).names.map AVal.str),.imm ((a.kids.getD k Ex.zero).binds.map AVal.str),.imm ((a.kids.getD k Ex.zero).kids.map Ex.enc),.int .i64 ((a.kids.getD k Ex.zero).pos),.int .i64 ((a.kids.getD k Ex.zero).fin)],.agg [.int .i64 ((b.kids.getD k Ex.zero).kind),.str (b.kids.getD k Ex.zero).name,.int .i64 ((b.kids.getD k Ex.zero).n),.str (b.kids.getD k Ex.zero).s,.imm ((b.kids.getD k Ex.zero).names.map AVal.str),.imm ((b.kids.getD k Ex.zero).binds.map AVal.str),.imm ((b.kids.getD k Ex.zero).kids.map Ex.enc),.int .i64 ((b.kids.getD k Ex.zero).pos),.int .i64 ((b.kids.getD k Ex.zero).fin)]]) kq kq kq kq kq (hc k oq oq) (by intro _;simp [Ty.v,Ex.v]) (by simp [Ty.v,Ex.v]) (by simp [Ty.v,Ex.v]) ?_
                 refine drun 1 kq ?_
                 refine dend kq ⟨kq,?_⟩
                 refine AThen_normal ?_
                 refine wSt [2,3,7,8] [(2,.ptr 0 0),(3,.ptr 1 0),(7,.int .i64 ((k:Nat):Int)),(8,.bool ((a.kids.getD k Ex.zero).beq (b.kids.getD k Ex.zero)))] [.box [.int .i64 (a.kind),.str a.name,.int .i64 (a.n),.str a.s,.imm (a.names.map AVal.str),.imm (a.binds.map AVal.str),.imm (a.kids.map Ex.enc),.int .i64 (a.pos),.int .i64 (a.fin)],.box [.int .i64 (b.kind),.str b.name,.int .i64 (b.n),.str b.s,.imm (b.names.map AVal.str),.imm (b.binds.map AVal.str),.imm (b.kids.map Ex.enc),.int .i64 (b.pos),.int .i64 (b.fin)]] kq kq ?_
                 refine wSeq kq ?_
                 refine wOrd kq (vstart ?_)
                 refine vrun 2 kq ?_
                 refine vend kq ?_
                 refine AThen_normal ?_
                 refine wSt [2,3,7,81] [(2,.ptr 0 0),(3,.ptr 1 0),(7,.int .i64 ((k:Nat):Int)),(81,.bool (!((a.kids.getD k Ex.zero).beq (b.kids.getD k Ex.zero))))] [.box [.int .i64 (a.kind),.str a.name,.int .i64 (a.n),.str a.s,.imm (a.names.map AVal.str),.imm (a.binds.map AVal.str),.imm (a.kids.map Ex.enc),.int .i64 (a.pos),.int .i64 (a.fin)],.box [.int .i64 (b.kind),.str b.name,.int .i64 (b.n),.str b.s,.imm (b.names.map AVal.str),.imm (b.binds.map AVal.str),.imm (b.kids.map Ex.enc),.int .i64 (b.pos),.int .i64 (b.fin)]] kq kq ?_
                 by_cases hb9:((a.kids.getD k Ex.zero).beq (b.kids.getD k Ex.zero))=true
                 · refine wIfF kq (Eq.trans (b:=.bool (!((a.kids.getD k Ex.zero).beq (b.kids.getD k Ex.zero)))) kq (congrArg AVal.bool (congrArg not (hb9)))) ?_
                   refine wSkip kq ?_
                   refine AIn_normal ?_
                   refine AThen_normal ?_
                   refine wSt [2,3,7] [(2,.ptr 0 0),(3,.ptr 1 0),(7,.int .i64 ((k:Nat):Int))] [.box [.int .i64 (a.kind),.str a.name,.int .i64 (a.n),.str a.s,.imm (a.names.map AVal.str),.imm (a.binds.map AVal.str),.imm (a.kids.map Ex.enc),.int .i64 (a.pos),.int .i64 (a.fin)],.box [.int .i64 (b.kind),.str b.name,.int .i64 (b.n),.str b.s,.imm (b.names.map AVal.str),.imm (b.binds.map AVal.str),.imm (b.kids.map Ex.enc),.int .i64 (b.pos),.int .i64 (b.fin)]] kq kq ?_
                   refine wOrd kq (vstart ?_)
                   refine vrun 1 kq ?_
                   refine vsym kq kq (o_add (a:=((k:Nat):Int)) (b:=1) kq oq oq) ?_
                   refine vrun 1 kq ?_
                   refine vend kq ?_
                   refine AThen_normal ⟨k+1,?_,?_,⟨⟨kq,kq,kq,trivial⟩,by simp [BelL,AVal.bel],by simp,kq,by simp [AObj.belO]⟩⟩
                   · omega
                   · refine ⟨by omega,fun i hi=>?_⟩
                     rcases Nat.lt_succ_iff_lt_or_eq.1 hi with h|h
                     · exact ha i h
                     · subst h;assumption
                 · refine wIfT kq (Eq.trans (b:=.bool (!((a.kids.getD k Ex.zero).beq (b.kids.getD k Ex.zero)))) kq (congrArg AVal.bool (congrArg not (Bool.eq_false_iff.2 hb9)))) ?_
                   refine wSeq kq ?_
                   refine wOrd kq (vstart ?_)
                   refine vrun 1 kq ?_
                   refine vend kq ?_
                   refine AThen_normal ?_
                   refine wSt [4] [(4,.bool false)] [.box [.int .i64 (a.kind),.str a.name,.int .i64 (a.n),.str a.s,.imm (a.names.map AVal.str),.imm (a.binds.map AVal.str),.imm (a.kids.map Ex.enc),.int .i64 (a.pos),.int .i64 (a.fin)],.box [.int .i64 (b.kind),.str b.name,.int .i64 (b.n),.str b.s,.imm (b.names.map AVal.str),.imm (b.binds.map AVal.str),.imm (b.kids.map Ex.enc),.int .i64 (b.pos),.int .i64 (b.fin)]] kq kq ?_
                   refine wRet kq ?_
                   refine AIn_ret ?_
                   refine AThen_ret ?_
                   refine AThen_ret ?_
                   refine AIn_ret ?_
                   refine AThen_ret ?_
                   refine leafB (b:=false) (.inr rfl) kq ?_
                   refine xbeq_lit ?_
                   first|(simp only [zipAll_len Ex.beq a.kids b.kids oq,Bool.and_false];done)|(rw [zipAll_true Ex.beq Ex.zero Ex.zero a.kids b.kids oq (fun i hi=>ha i oq)];simp_all;done)|(rw [zipAll_at Ex.beq Ex.zero Ex.zero a.kids b.kids k oq oq (Bool.eq_false_iff.2 aq)];simp;done)|(simp_all;done)
               · refine wIfF kq (Eq.trans (b:=.bool (decide (((k:Nat):Int)<((a.kids.length:Nat):Int)))) kq (congrArg AVal.bool (decide_eq_false hb8))) ?_
                 refine wExit 0 kq kq ?_
                 refine AThen_exit ?_
                 refine AThen_exit ?_
                 refine AIn_exit ?_
                 refine AThen_normal ?_
                 refine wSt [] [] [.box [.int .i64 (a.kind),.str a.name,.int .i64 (a.n),.str a.s,.imm (a.names.map AVal.str),.imm (a.binds.map AVal.str),.imm (a.kids.map Ex.enc),.int .i64 (a.pos),.int .i64 (a.fin)],.box [.int .i64 (b.kind),.str b.name,.int .i64 (b.n),.str b.s,.imm (b.names.map AVal.str),.imm (b.binds.map AVal.str),.imm (b.kids.map Ex.enc),.int .i64 (b.pos),.int .i64 (b.fin)]] kq kq ?_
                 refine wSeq kq ?_
                 refine wOrd kq (vstart ?_)
                 refine vrun 1 kq ?_
                 refine vend kq ?_
                 refine AThen_normal ?_
                 refine wSt [4] [(4,.bool true)] [.box [.int .i64 (a.kind),.str a.name,.int .i64 (a.n),.str a.s,.imm (a.names.map AVal.str),.imm (a.binds.map AVal.str),.imm (a.kids.map Ex.enc),.int .i64 (a.pos),.int .i64 (a.fin)],.box [.int .i64 (b.kind),.str b.name,.int .i64 (b.n),.str b.s,.imm (b.names.map AVal.str),.imm (b.binds.map AVal.str),.imm (b.kids.map Ex.enc),.int .i64 (b.pos),.int .i64 (b.fin)]] kq kq ?_
                 refine wRet kq ?_
                 refine leafB (b:=true) (.inr rfl) kq ?_
                 refine xbeq_lit ?_
                 first|(simp only [zipAll_len Ex.beq a.kids b.kids oq,Bool.and_false];done)|(rw [zipAll_true Ex.beq Ex.zero Ex.zero a.kids b.kids oq (fun i hi=>ha i oq)];simp_all;done)|(rw [zipAll_at Ex.beq Ex.zero Ex.zero a.kids b.kids k oq oq (Bool.eq_false_iff.2 aq)];simp;done)|(simp_all;done)
             · refine wIfT kq (Eq.trans (b:=.bool (((a.kids.length:Nat):Int) != ((b.kids.length:Nat):Int))) kq (congrArg AVal.bool (bne_iff_ne.2 hb7))) ?_
               refine wSeq kq ?_
               refine wOrd kq (vstart ?_)
               refine vrun 1 kq ?_
               refine vend kq ?_
               refine AThen_normal ?_
               refine wSt [4] [(4,.bool false)] [.box [.int .i64 (a.kind),.str a.name,.int .i64 (a.n),.str a.s,.imm (a.names.map AVal.str),.imm (a.binds.map AVal.str),.imm (a.kids.map Ex.enc),.int .i64 (a.pos),.int .i64 (a.fin)],.box [.int .i64 (b.kind),.str b.name,.int .i64 (b.n),.str b.s,.imm (b.names.map AVal.str),.imm (b.binds.map AVal.str),.imm (b.kids.map Ex.enc),.int .i64 (b.pos),.int .i64 (b.fin)]] kq kq ?_
               refine wRet kq ?_
               refine AThen_ret ?_
               refine leafB (b:=false) (.inr rfl) kq ?_
               refine xbeq_lit ?_
               first|(simp only [zipAll_len Ex.beq a.kids b.kids oq,Bool.and_false];done)|(rw [zipAll_true Ex.beq Ex.zero Ex.zero a.kids b.kids oq (fun i hi=>ha i oq)];simp_all;done)|(rw [zipAll_at Ex.beq Ex.zero Ex.zero a.kids b.kids k oq oq (Bool.eq_false_iff.2 aq)];simp;done)|(simp_all;done)
           · refine vset 51 (.bool (!(a.s==b.s))) (.bool true) (extO extThen) kq (congrArg AVal.bool (congrArg not (beq_eq_false_iff_ne.2 hb6))) ?_
             refine vset 52 (.bool (!(a.s==b.s))) (.bool true) (extO extThen) kq (congrArg AVal.bool (congrArg not (beq_eq_false_iff_ne.2 hb6))) ?_
             refine vset 53 (.bool (!(a.s==b.s))) (.bool true) (extO extThen) kq (congrArg AVal.bool (congrArg not (beq_eq_false_iff_ne.2 hb6))) ?_
             refine vrun 8 kq ?_
             refine vend kq ?_
             refine AThen_normal ?_
             refine wSt [2,3,61] [(2,.ptr 0 0),(3,.ptr 1 0),(61,.bool true)] [.box [.int .i64 (a.kind),.str a.name,.int .i64 (a.n),.str a.s,.imm (a.names.map AVal.str),.imm (a.binds.map AVal.str),.imm (a.kids.map Ex.enc),.int .i64 (a.pos),.int .i64 (a.fin)],.box [.int .i64 (b.kind),.str b.name,.int .i64 (b.n),.str b.s,.imm (b.names.map AVal.str),.imm (b.binds.map AVal.str),.imm (b.kids.map Ex.enc),.int .i64 (b.pos),.int .i64 (b.fin)]] kq kq ?_
             refine wIfT kq kq ?_
             refine wSeq kq ?_
             refine wOrd kq (vstart ?_)
             refine vrun 1 kq ?_
             refine vend kq ?_
             refine AThen_normal ?_
             refine wSt [4] [(4,.bool false)] [.box [.int .i64 (a.kind),.str a.name,.int .i64 (a.n),.str a.s,.imm (a.names.map AVal.str),.imm (a.binds.map AVal.str),.imm (a.kids.map Ex.enc),.int .i64 (a.pos),.int .i64 (a.fin)],.box [.int .i64 (b.kind),.str b.name,.int .i64 (b.n),.str b.s,.imm (b.names.map AVal.str),.imm (b.binds.map AVal.str),.imm (b.kids.map Ex.enc),.int .i64 (b.pos),.int .i64 (b.fin)]] kq kq ?_
             refine wRet kq ?_
             refine AThen_ret ?_
             refine leafB (b:=false) (.inr rfl) kq ?_
             refine xbeq_lit ?_
             first|(simp only [zipAll_len Ex.beq a.kids b.kids oq,Bool.and_false];done)|(rw [zipAll_true Ex.beq Ex.zero Ex.zero a.kids b.kids oq (fun i hi=>ha i oq)];simp_all;done)|(rw [zipAll_at Ex.beq Ex.zero Ex.zero a.kids b.kids k oq oq (Bool.eq_false_iff.2 aq)];simp;done)|(simp_all;done)
         · refine vset 44 (.bool ((a.n) != (b.n))) (.bool true) (extO extThen) kq (congrArg AVal.bool (bne_iff_ne.2 hb5)) ?_
           refine vset 45 (.bool ((a.n) != (b.n))) (.bool true) (extO extThen) kq (congrArg AVal.bool (bne_iff_ne.2 hb5)) ?_
           refine vset 46 (.bool ((a.n) != (b.n))) (.bool true) (extO extThen) kq (congrArg AVal.bool (bne_iff_ne.2 hb5)) ?_
           refine vrun 15 kq ?_
           refine vend kq ?_
           refine AThen_normal ?_
           refine wSt [2,3,61] [(2,.ptr 0 0),(3,.ptr 1 0),(61,.bool true)] [.box [.int .i64 (a.kind),.str a.name,.int .i64 (a.n),.str a.s,.imm (a.names.map AVal.str),.imm (a.binds.map AVal.str),.imm (a.kids.map Ex.enc),.int .i64 (a.pos),.int .i64 (a.fin)],.box [.int .i64 (b.kind),.str b.name,.int .i64 (b.n),.str b.s,.imm (b.names.map AVal.str),.imm (b.binds.map AVal.str),.imm (b.kids.map Ex.enc),.int .i64 (b.pos),.int .i64 (b.fin)]] kq kq ?_
           refine wIfT kq kq ?_
           refine wSeq kq ?_
           refine wOrd kq (vstart ?_)
           refine vrun 1 kq ?_
           refine vend kq ?_
           refine AThen_normal ?_
           refine wSt [4] [(4,.bool false)] [.box [.int .i64 (a.kind),.str a.name,.int .i64 (a.n),.str a.s,.imm (a.names.map AVal.str),.imm (a.binds.map AVal.str),.imm (a.kids.map Ex.enc),.int .i64 (a.pos),.int .i64 (a.fin)],.box [.int .i64 (b.kind),.str b.name,.int .i64 (b.n),.str b.s,.imm (b.names.map AVal.str),.imm (b.binds.map AVal.str),.imm (b.kids.map Ex.enc),.int .i64 (b.pos),.int .i64 (b.fin)]] kq kq ?_
           refine wRet kq ?_
           refine AThen_ret ?_
           refine leafB (b:=false) (.inr rfl) kq ?_
           refine xbeq_lit ?_
           first|(simp only [zipAll_len Ex.beq a.kids b.kids oq,Bool.and_false];done)|(rw [zipAll_true Ex.beq Ex.zero Ex.zero a.kids b.kids oq (fun i hi=>ha i oq)];simp_all;done)|(rw [zipAll_at Ex.beq Ex.zero Ex.zero a.kids b.kids k oq oq (Bool.eq_false_iff.2 aq)];simp;done)|(simp_all;done)
       · refine vset 37 (.bool (!(a.name==b.name))) (.bool true) (extO extThen) kq (congrArg AVal.bool (congrArg not (beq_eq_false_iff_ne.2 hb4))) ?_
         refine vset 38 (.bool (!(a.name==b.name))) (.bool true) (extO extThen) kq (congrArg AVal.bool (congrArg not (beq_eq_false_iff_ne.2 hb4))) ?_
         refine vset 39 (.bool (!(a.name==b.name))) (.bool true) (extO extThen) kq (congrArg AVal.bool (congrArg not (beq_eq_false_iff_ne.2 hb4))) ?_
         refine vrun 22 kq ?_
         refine vend kq ?_
         refine AThen_normal ?_
         refine wSt [2,3,61] [(2,.ptr 0 0),(3,.ptr 1 0),(61,.bool true)] [.box [.int .i64 (a.kind),.str a.name,.int .i64 (a.n),.str a.s,.imm (a.names.map AVal.str),.imm (a.binds.map AVal.str),.imm (a.kids.map Ex.enc),.int .i64 (a.pos),.int .i64 (a.fin)],.box [.int .i64 (b.kind),.str b.name,.int .i64 (b.n),.str b.s,.imm (b.names.map AVal.str),.imm (b.binds.map AVal.str),.imm (b.kids.map Ex.enc),.int .i64 (b.pos),.int .i64 (b.fin)]] kq kq ?_
         refine wIfT kq kq ?_
         refine wSeq kq ?_
         refine wOrd kq (vstart ?_)
         refine vrun 1 kq ?_
         refine vend kq ?_
         refine AThen_normal ?_
         refine wSt [4] [(4,.bool false)] [.box [.int .i64 (a.kind),.str a.name,.int .i64 (a.n),.str a.s,.imm (a.names.map AVal.str),.imm (a.binds.map AVal.str),.imm (a.kids.map Ex.enc),.int .i64 (a.pos),.int .i64 (a.fin)],.box [.int .i64 (b.kind),.str b.name,.int .i64 (b.n),.str b.s,.imm (b.names.map AVal.str),.imm (b.binds.map AVal.str),.imm (b.kids.map Ex.enc),.int .i64 (b.pos),.int .i64 (b.fin)]] kq kq ?_
         refine wRet kq ?_
         refine AThen_ret ?_
         refine leafB (b:=false) (.inr rfl) kq ?_
         refine xbeq_lit ?_
         first|(simp only [zipAll_len Ex.beq a.kids b.kids oq,Bool.and_false];done)|(rw [zipAll_true Ex.beq Ex.zero Ex.zero a.kids b.kids oq (fun i hi=>ha i oq)];simp_all;done)|(rw [zipAll_at Ex.beq Ex.zero Ex.zero a.kids b.kids k oq oq (Bool.eq_false_iff.2 aq)];simp;done)|(simp_all;done)
     · refine vset 30 (.bool ((a.kind) != (b.kind))) (.bool true) (extO extThen) kq (congrArg AVal.bool (bne_iff_ne.2 hb3)) ?_
       refine vset 31 (.bool ((a.kind) != (b.kind))) (.bool true) (extO extThen) kq (congrArg AVal.bool (bne_iff_ne.2 hb3)) ?_
       refine vset 32 (.bool ((a.kind) != (b.kind))) (.bool true) (extO extThen) kq (congrArg AVal.bool (bne_iff_ne.2 hb3)) ?_
       refine vrun 29 kq ?_
       refine vend kq ?_
       refine AThen_normal ?_
       refine wSt [2,3,61] [(2,.ptr 0 0),(3,.ptr 1 0),(61,.bool true)] [.box [.int .i64 (a.kind),.str a.name,.int .i64 (a.n),.str a.s,.imm (a.names.map AVal.str),.imm (a.binds.map AVal.str),.imm (a.kids.map Ex.enc),.int .i64 (a.pos),.int .i64 (a.fin)],.box [.int .i64 (b.kind),.str b.name,.int .i64 (b.n),.str b.s,.imm (b.names.map AVal.str),.imm (b.binds.map AVal.str),.imm (b.kids.map Ex.enc),.int .i64 (b.pos),.int .i64 (b.fin)]] kq kq ?_
       refine wIfT kq kq ?_
       refine wSeq kq ?_
       refine wOrd kq (vstart ?_)
       refine vrun 1 kq ?_
       refine vend kq ?_
       refine AThen_normal ?_
       refine wSt [4] [(4,.bool false)] [.box [.int .i64 (a.kind),.str a.name,.int .i64 (a.n),.str a.s,.imm (a.names.map AVal.str),.imm (a.binds.map AVal.str),.imm (a.kids.map Ex.enc),.int .i64 (a.pos),.int .i64 (a.fin)],.box [.int .i64 (b.kind),.str b.name,.int .i64 (b.n),.str b.s,.imm (b.names.map AVal.str),.imm (b.binds.map AVal.str),.imm (b.kids.map Ex.enc),.int .i64 (b.pos),.int .i64 (b.fin)]] kq kq ?_
       refine wRet kq ?_
       refine AThen_ret ?_
       refine leafB (b:=false) (.inr rfl) kq ?_
       refine xbeq_lit ?_
       first|(simp only [zipAll_len Ex.beq a.kids b.kids oq,Bool.and_false];done)|(rw [zipAll_true Ex.beq Ex.zero Ex.zero a.kids b.kids oq (fun i hi=>ha i oq)];simp_all;done)|(rw [zipAll_at Ex.beq Ex.zero Ex.zero a.kids b.kids k oq oq (Bool.eq_false_iff.2 aq)];simp;done)|(simp_all;done)
   · refine vset 23 (.bool (!(a.binds==b.binds))) (.bool true) (extO extThen) kq (congrArg AVal.bool (congrArg not (Bool.eq_false_iff.2 hb2))) ?_
     refine vset 24 (.bool (!(a.binds==b.binds))) (.bool true) (extO extThen) kq (congrArg AVal.bool (congrArg not (Bool.eq_false_iff.2 hb2))) ?_
     refine vset 25 (.bool (!(a.binds==b.binds))) (.bool true) (extO extThen) kq (congrArg AVal.bool (congrArg not (Bool.eq_false_iff.2 hb2))) ?_
     refine vrun 36 kq ?_
     refine vend kq ?_
     refine AThen_normal ?_
     refine wSt [2,3,61] [(2,.ptr 0 0),(3,.ptr 1 0),(61,.bool true)] [.box [.int .i64 (a.kind),.str a.name,.int .i64 (a.n),.str a.s,.imm (a.names.map AVal.str),.imm (a.binds.map AVal.str),.imm (a.kids.map Ex.enc),.int .i64 (a.pos),.int .i64 (a.fin)],.box [.int .i64 (b.kind),.str b.name,.int .i64 (b.n),.str b.s,.imm (b.names.map AVal.str),.imm (b.binds.map AVal.str),.imm (b.kids.map Ex.enc),.int .i64 (b.pos),.int .i64 (b.fin)]] kq kq ?_
     refine wIfT kq kq ?_
     refine wSeq kq ?_
     refine wOrd kq (vstart ?_)
     refine vrun 1 kq ?_
     refine vend kq ?_
     refine AThen_normal ?_
     refine wSt [4] [(4,.bool false)] [.box [.int .i64 (a.kind),.str a.name,.int .i64 (a.n),.str a.s,.imm (a.names.map AVal.str),.imm (a.binds.map AVal.str),.imm (a.kids.map Ex.enc),.int .i64 (a.pos),.int .i64 (a.fin)],.box [.int .i64 (b.kind),.str b.name,.int .i64 (b.n),.str b.s,.imm (b.names.map AVal.str),.imm (b.binds.map AVal.str),.imm (b.kids.map Ex.enc),.int .i64 (b.pos),.int .i64 (b.fin)]] kq kq ?_
     refine wRet kq ?_
     refine AThen_ret ?_
     refine leafB (b:=false) (.inr rfl) kq ?_
     refine xbeq_lit ?_
     first|(simp only [zipAll_len Ex.beq a.kids b.kids oq,Bool.and_false];done)|(rw [zipAll_true Ex.beq Ex.zero Ex.zero a.kids b.kids oq (fun i hi=>ha i oq)];simp_all;done)|(rw [zipAll_at Ex.beq Ex.zero Ex.zero a.kids b.kids k oq oq (Bool.eq_false_iff.2 aq)];simp;done)|(simp_all;done)
 · refine vset 20 (.bool (!(a.names==b.names))) (.bool true) (extO extThen) kq (congrArg AVal.bool (congrArg not (Bool.eq_false_iff.2 hb1))) ?_
   refine vset 21 (.bool (!(a.names==b.names))) (.bool true) (extO extThen) kq (congrArg AVal.bool (congrArg not (Bool.eq_false_iff.2 hb1))) ?_
   refine vrun 40 kq ?_
   refine vend kq ?_
   refine AThen_normal ?_
   refine wSt [2,3,61] [(2,.ptr 0 0),(3,.ptr 1 0),(61,.bool true)] [.box [.int .i64 (a.kind),.str a.name,.int .i64 (a.n),.str a.s,.imm (a.names.map AVal.str),.imm (a.binds.map AVal.str),.imm (a.kids.map Ex.enc),.int .i64 (a.pos),.int .i64 (a.fin)],.box [.int .i64 (b.kind),.str b.name,.int .i64 (b.n),.str b.s,.imm (b.names.map AVal.str),.imm (b.binds.map AVal.str),.imm (b.kids.map Ex.enc),.int .i64 (b.pos),.int .i64 (b.fin)]] kq kq ?_
   refine wIfT kq kq ?_
   refine wSeq kq ?_
   refine wOrd kq (vstart ?_)
   refine vrun 1 kq ?_
   refine vend kq ?_
   refine AThen_normal ?_
   refine wSt [4] [(4,.bool false)] [.box [.int .i64 (a.kind),.str a.name,.int .i64 (a.n),.str a.s,.imm (a.names.map AVal.str),.imm (a.binds.map AVal.str),.imm (a.kids.map Ex.enc),.int .i64 (a.pos),.int .i64 (a.fin)],.box [.int .i64 (b.kind),.str b.name,.int .i64 (b.n),.str b.s,.imm (b.names.map AVal.str),.imm (b.binds.map AVal.str),.imm (b.kids.map Ex.enc),.int .i64 (b.pos),.int .i64 (b.fin)]] kq kq ?_
   refine wRet kq ?_
   refine AThen_ret ?_
   refine leafB (b:=false) (.inr rfl) kq ?_
   refine xbeq_lit ?_
   first|(simp only [zipAll_len Ex.beq a.kids b.kids oq,Bool.and_false];done)|(rw [zipAll_true Ex.beq Ex.zero Ex.zero a.kids b.kids oq (fun i hi=>ha i oq)];simp_all;done)|(rw [zipAll_at Ex.beq Ex.zero Ex.zero a.kids b.kids k oq oq (Bool.eq_false_iff.2 aq)];simp;done)|(simp_all;done)
end Go.Proofs.YtindpcpdkikdmaaGreatDoor
