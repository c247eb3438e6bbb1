/- The reference's Equal of tables. Condition: sizes that can be had. -/
import Derived.Test.YtindpcpdkikdmaaGreatDoorC8
set_option linter.all false
namespace Go.Proofs.YtindpcpdkikdmaaGreatDoor
open Go.Proofs.YtindpcpdkikdmaaGreatDoor.Abs
set_option maxRecDepth 20000
set_option maxHeartbeats 4000000
noncomputable def c38:Code:=bodyOf Tryz.f38
theorem tbSame_spec (a b:Tb) (hs:a.sm):CallsP cx 38 [Tb.v a,Tb.v b] (.bool (a.beq b)):=by
 have hz1:=hs.1
 have hz2:∀ i,i<a.cols.length→(a.cols.getD i Co.zero).type.sz<100000000:=fun i h=>hs.2.1 _ (getD_mem _ _ _ h)
 have hz3:=hs.2.2.1
 have hz4:=hs.2.2.2.1
 have hz5:=hs.2.2.2.2
 refine func_intro (cx:=cx) 106 0 [(ResultVar.tmp 4)] Tryz.func38 rfl rfl rfl rfl rfl zq ?_
 show wpA cx 106 0 (at_ c38 []) _ _ _
 refine wSt [0,1] [(0,Tb.v a),(1,Tb.v b)] [] kq kq ?_
 refine wSeq kq ?_
 refine wOrd kq (vstart ?_)
 refine vrun 3 kq ?_
 refine vend kq ?_
 refine AThen_normal ?_
 refine wSt [2,3] [(2,.ptr 0 0),(3,.ptr 1 0)] [.box [.str a.name,.imm (a.cols.map Co.v),.imm (a.key.map AVal.str),.imm (a.refs.map Rf.v),.int .i64 (a.chk.kind),.str a.chk.name,.int .i64 (a.chk.n),.str a.chk.s,.imm (a.chk.names.map AVal.str),.imm (a.chk.binds.map AVal.str),.imm (a.chk.kids.map Ex.enc),.int .i64 (a.chk.pos),.int .i64 (a.chk.fin)],.box [.str b.name,.imm (b.cols.map Co.v),.imm (b.key.map AVal.str),.imm (b.refs.map Rf.v),.int .i64 (b.chk.kind),.str b.chk.name,.int .i64 (b.chk.n),.str b.chk.s,.imm (b.chk.names.map AVal.str),.imm (b.chk.binds.map AVal.str),.imm (b.chk.kids.map Ex.enc),.int .i64 (b.chk.pos),.int .i64 (b.chk.fin)]] kq kq ?_
 refine wSeq kq ?_
 refine wOrd kq (vstart ?_)
 refine vrun 4 kq ?_
 refine vcallP (args:=[.imm (a.key.map AVal.str),.imm (b.key.map AVal.str)]) kq kq kq kq (sameTexts_spec a.key b.key (by first|omega|assumption|exact hz2 k oq)) (by simp [Ty.v,Ex.v,Ct.v,Co.v,Rf.v,Sm.v,Tb.v]) (by simp [Ty.v,Ex.v,Ct.v,Co.v,Rf.v,Sm.v,Tb.v]) (by simp [Ty.v,Ex.v,Ct.v,Co.v,Rf.v,Sm.v,Tb.v]) ?_
 refine vrun 1 kq ?_
 refine vend kq ?_
 refine AThen_normal ?_
 refine wSt [2,3,5] [(2,.ptr 0 0),(3,.ptr 1 0),(5,.bool (a.key==b.key))] [.box [.str a.name,.imm (a.cols.map Co.v),.imm (a.key.map AVal.str),.imm (a.refs.map Rf.v),.int .i64 (a.chk.kind),.str a.chk.name,.int .i64 (a.chk.n),.str a.chk.s,.imm (a.chk.names.map AVal.str),.imm (a.chk.binds.map AVal.str),.imm (a.chk.kids.map Ex.enc),.int .i64 (a.chk.pos),.int .i64 (a.chk.fin)],.box [.str b.name,.imm (b.cols.map Co.v),.imm (b.key.map AVal.str),.imm (b.refs.map Rf.v),.int .i64 (b.chk.kind),.str b.chk.name,.int .i64 (b.chk.n),.str b.chk.s,.imm (b.chk.names.map AVal.str),.imm (b.chk.binds.map AVal.str),.imm (b.chk.kids.map Ex.enc),.int .i64 (b.chk.pos),.int .i64 (b.chk.fin)]] kq kq ?_
 refine wSeq kq ?_
 refine wOrd kq (vstart ?_)
 refine vrun 4 kq ?_
 refine vcallP (args:=[.agg [.int .i64 (a.chk.kind),.str a.chk.name,.int .i64 (a.chk.n),.str a.chk.s,.imm (a.chk.names.map AVal.str),.imm (a.chk.binds.map AVal.str),.imm (a.chk.kids.map Ex.enc),.int .i64 (a.chk.pos),.int .i64 (a.chk.fin)],.agg [.int .i64 (b.chk.kind),.str b.chk.name,.int .i64 (b.chk.n),.str b.chk.s,.imm (b.chk.names.map AVal.str),.imm (b.chk.binds.map AVal.str),.imm (b.chk.kids.map Ex.enc),.int .i64 (b.chk.pos),.int .i64 (b.chk.fin)]]) kq kq kq kq (xSame_spec a.chk b.chk (by first|omega|assumption|exact hz2 k oq)) (by simp [Ty.v,Ex.v,Ct.v,Co.v,Rf.v,Sm.v,Tb.v]) (by simp [Ty.v,Ex.v,Ct.v,Co.v,Rf.v,Sm.v,Tb.v]) (by simp [Ty.v,Ex.v,Ct.v,Co.v,Rf.v,Sm.v,Tb.v]) ?_
 refine vrun 1 kq ?_
 refine vend kq ?_
 refine AThen_normal ?_
 refine wSt [2,3,5,6] [(2,.ptr 0 0),(3,.ptr 1 0),(5,.bool (a.key==b.key)),(6,.bool (a.chk.beq b.chk))] [.box [.str a.name,.imm (a.cols.map Co.v),.imm (a.key.map AVal.str),.imm (a.refs.map Rf.v),.int .i64 (a.chk.kind),.str a.chk.name,.int .i64 (a.chk.n),.str a.chk.s,.imm (a.chk.names.map AVal.str),.imm (a.chk.binds.map AVal.str),.imm (a.chk.kids.map Ex.enc),.int .i64 (a.chk.pos),.int .i64 (a.chk.fin)],.box [.str b.name,.imm (b.cols.map Co.v),.imm (b.key.map AVal.str),.imm (b.refs.map Rf.v),.int .i64 (b.chk.kind),.str b.chk.name,.int .i64 (b.chk.n),.str b.chk.s,.imm (b.chk.names.map AVal.str),.imm (b.chk.binds.map AVal.str),.imm (b.chk.kids.map Ex.enc),.int .i64 (b.chk.pos),.int .i64 (b.chk.fin)]] kq kq ?_
 refine wSeq kq ?_
 refine wSeq kq ?_
 refine wOrd kq (vstart ?_)
 refine vrun 3 kq ?_
 by_cases hb1:(a.key==b.key)=true
 · refine vset 21 (.bool (!(a.key==b.key))) (.bool false) (extO extThen) kq (congrArg AVal.bool (congrArg not (hb1))) ?_
   refine vset 22 (.bool (!(a.key==b.key))) (.bool false) (extO extThen) kq (congrArg AVal.bool (congrArg not (hb1))) ?_
   refine vrun 4 kq ?_
   by_cases hb2:(a.chk.beq b.chk)=true
   · refine vset 24 (.bool (!(a.chk.beq b.chk))) (.bool false) (extO extThen) kq (congrArg AVal.bool (congrArg not (hb2))) ?_
     refine vset 25 (.bool (!(a.chk.beq b.chk))) (.bool false) (extO extThen) kq (congrArg AVal.bool (congrArg not (hb2))) ?_
     refine vset 26 (.bool (!(a.chk.beq b.chk))) (.bool false) (extO extThen) kq (congrArg AVal.bool (congrArg not (hb2))) ?_
     refine vrun 7 kq ?_
     by_cases hb3:a.name=b.name
     · refine vset 31 (.bool (!(a.name==b.name))) (.bool false) (extO extThen) kq (congrArg AVal.bool (congrArg not (beq_iff_eq.2 hb3))) ?_
       refine vset 32 (.bool (!(a.name==b.name))) (.bool false) (extO extThen) kq (congrArg AVal.bool (congrArg not (beq_iff_eq.2 hb3))) ?_
       refine vset 33 (.bool (!(a.name==b.name))) (.bool false) (extO extThen) kq (congrArg AVal.bool (congrArg not (beq_iff_eq.2 hb3))) ?_
       refine vrun 2 kq ?_
       refine vsym kq kq (o_lenmap (l:=a.cols) (enc:=Co.v) kq ty35) ?_
       refine vrun 2 kq ?_
       refine vsym kq kq (o_lenmap (l:=b.cols) (enc:=Co.v) kq ty35) ?_
       refine vrun 3 kq ?_
       by_cases hb4:((a.cols.length:Nat):Int)=((b.cols.length:Nat):Int)
       · refine vset 40 (.bool (((a.cols.length:Nat):Int) != ((b.cols.length:Nat):Int))) (.bool false) (extO extThen) kq (congrArg AVal.bool (bne_eq_false_iff_eq.2 hb4)) ?_
         refine vset 41 (.bool (((a.cols.length:Nat):Int) != ((b.cols.length:Nat):Int))) (.bool false) (extO extThen) kq (congrArg AVal.bool (bne_eq_false_iff_eq.2 hb4)) ?_
         refine vset 42 (.bool (((a.cols.length:Nat):Int) != ((b.cols.length:Nat):Int))) (.bool false) (extO extThen) kq (congrArg AVal.bool (bne_eq_false_iff_eq.2 hb4)) ?_
         refine vrun 2 kq ?_
         refine vsym kq kq (o_lenmap (l:=a.refs) (enc:=Rf.v) kq ty36) ?_
         refine vrun 2 kq ?_
         refine vsym kq kq (o_lenmap (l:=b.refs) (enc:=Rf.v) kq ty36) ?_
         refine vrun 2 kq ?_
         refine vend kq ?_
         refine AThen_normal ?_
         refine wSt [2,3,50] [(2,.ptr 0 0),(3,.ptr 1 0),(50,.bool (((a.refs.length:Nat):Int) != ((b.refs.length:Nat):Int)))] [.box [.str a.name,.imm (a.cols.map Co.v),.imm (a.key.map AVal.str),.imm (a.refs.map Rf.v),.int .i64 (a.chk.kind),.str a.chk.name,.int .i64 (a.chk.n),.str a.chk.s,.imm (a.chk.names.map AVal.str),.imm (a.chk.binds.map AVal.str),.imm (a.chk.kids.map Ex.enc),.int .i64 (a.chk.pos),.int .i64 (a.chk.fin)],.box [.str b.name,.imm (b.cols.map Co.v),.imm (b.key.map AVal.str),.imm (b.refs.map Rf.v),.int .i64 (b.chk.kind),.str b.chk.name,.int .i64 (b.chk.n),.str b.chk.s,.imm (b.chk.names.map AVal.str),.imm (b.chk.binds.map AVal.str),.imm (b.chk.kids.map Ex.enc),.int .i64 (b.chk.pos),.int .i64 (b.chk.fin)]] kq kq ?_
         by_cases hb5:((a.refs.length:Nat):Int)=((b.refs.length:Nat):Int)
         · refine wIfF kq (Eq.trans (b:=.bool (((a.refs.length:Nat):Int) != ((b.refs.length:Nat):Int))) kq (congrArg AVal.bool (bne_eq_false_iff_eq.2 hb5))) ?_
           refine wSkip kq ?_
           refine AThen_normal ?_
           refine wSt [2,3] [(2,.ptr 0 0),(3,.ptr 1 0)] [.box [.str a.name,.imm (a.cols.map Co.v),.imm (a.key.map AVal.str),.imm (a.refs.map Rf.v),.int .i64 (a.chk.kind),.str a.chk.name,.int .i64 (a.chk.n),.str a.chk.s,.imm (a.chk.names.map AVal.str),.imm (a.chk.binds.map AVal.str),.imm (a.chk.kids.map Ex.enc),.int .i64 (a.chk.pos),.int .i64 (a.chk.fin)],.box [.str b.name,.imm (b.cols.map Co.v),.imm (b.key.map AVal.str),.imm (b.refs.map Rf.v),.int .i64 (b.chk.kind),.str b.chk.name,.int .i64 (b.chk.n),.str b.chk.s,.imm (b.chk.names.map AVal.str),.imm (b.chk.binds.map AVal.str),.imm (b.chk.kids.map Ex.enc),.int .i64 (b.chk.pos),.int .i64 (b.chk.fin)]] kq kq ?_
           refine wSeq kq ?_
           refine wSeq kq ?_
           refine wOrd kq (vstart ?_)
           refine vrun 1 kq ?_
           refine vend kq ?_
           refine AThen_normal ?_
           refine wSt [2,3,7] [(2,.ptr 0 0),(3,.ptr 1 0),(7,.int .i64 0)] [.box [.str a.name,.imm (a.cols.map Co.v),.imm (a.key.map AVal.str),.imm (a.refs.map Rf.v),.int .i64 (a.chk.kind),.str a.chk.name,.int .i64 (a.chk.n),.str a.chk.s,.imm (a.chk.names.map AVal.str),.imm (a.chk.binds.map AVal.str),.imm (a.chk.kids.map Ex.enc),.int .i64 (a.chk.pos),.int .i64 (a.chk.fin)],.box [.str b.name,.imm (b.cols.map Co.v),.imm (b.key.map AVal.str),.imm (b.refs.map Rf.v),.int .i64 (b.chk.kind),.str b.chk.name,.int .i64 (b.chk.n),.str b.chk.s,.imm (b.chk.names.map AVal.str),.imm (b.chk.binds.map AVal.str),.imm (b.chk.kids.map Ex.enc),.int .i64 (b.chk.pos),.int .i64 (b.chk.fin)]] kq kq ?_
           refine wBlock 0 kq kq ?_
           refine wLoop (σ:=Nat) (fun k=>[(2,.ptr 0 0),(3,.ptr 1 0),(7,.int .i64 ((k:Nat):Int))]) (fun k=>[.box [.str a.name,.imm (a.cols.map Co.v),.imm (a.key.map AVal.str),.imm (a.refs.map Rf.v),.int .i64 (a.chk.kind),.str a.chk.name,.int .i64 (a.chk.n),.str a.chk.s,.imm (a.chk.names.map AVal.str),.imm (a.chk.binds.map AVal.str),.imm (a.chk.kids.map Ex.enc),.int .i64 (a.chk.pos),.int .i64 (a.chk.fin)],.box [.str b.name,.imm (b.cols.map Co.v),.imm (b.key.map AVal.str),.imm (b.refs.map Rf.v),.int .i64 (b.chk.kind),.str b.chk.name,.int .i64 (b.chk.n),.str b.chk.s,.imm (b.chk.names.map AVal.str),.imm (b.chk.binds.map AVal.str),.imm (b.chk.kids.map Ex.enc),.int .i64 (b.chk.pos),.int .i64 (b.chk.fin)]]) (fun k=>k≤a.cols.length∧∀ i,i<k→(a.cols.getD i Co.zero).beq (b.cols.getD i Co.zero)=true) (fun k=>a.cols.length - k) 0 kq (by exact ⟨Nat.zero_le _,fun i h=>absurd h (Nat.not_lt_zero i)⟩) ⟨⟨kq,kq,kq,trivial⟩,by simp [BelL,AVal.bel],by simp,kq,by simp [AObj.belO]⟩ ?_
           rintro k ⟨hkk,hak⟩
           refine wSeq kq ?_
           refine wSeq kq ?_
           refine wOrd kq (vstart ?_)
           refine vrun 3 kq ?_
           refine vsym kq kq (o_lenmap (l:=a.cols) (enc:=Co.v) kq ty35) ?_
           refine vrun 1 kq ?_
           refine vend kq ?_
           refine AThen_normal ?_
           refine wSt [2,3,7,55] [(2,.ptr 0 0),(3,.ptr 1 0),(7,.int .i64 ((k:Nat):Int)),(55,.bool (decide (((k:Nat):Int)<((a.cols.length:Nat):Int))))] [.box [.str a.name,.imm (a.cols.map Co.v),.imm (a.key.map AVal.str),.imm (a.refs.map Rf.v),.int .i64 (a.chk.kind),.str a.chk.name,.int .i64 (a.chk.n),.str a.chk.s,.imm (a.chk.names.map AVal.str),.imm (a.chk.binds.map AVal.str),.imm (a.chk.kids.map Ex.enc),.int .i64 (a.chk.pos),.int .i64 (a.chk.fin)],.box [.str b.name,.imm (b.cols.map Co.v),.imm (b.key.map AVal.str),.imm (b.refs.map Rf.v),.int .i64 (b.chk.kind),.str b.chk.name,.int .i64 (b.chk.n),.str b.chk.s,.imm (b.chk.names.map AVal.str),.imm (b.chk.binds.map AVal.str),.imm (b.chk.kids.map Ex.enc),.int .i64 (b.chk.pos),.int .i64 (b.chk.fin)]] kq kq ?_
           by_cases hb6:((k:Nat):Int)<((a.cols.length:Nat):Int)
           · refine wIfT kq (Eq.trans (b:=.bool (decide (((k:Nat):Int)<((a.cols.length:Nat):Int)))) kq (congrArg AVal.bool (decide_eq_true hb6))) ?_
             refine wSkip kq ?_
             refine AThen_normal ?_
             refine wSt [2,3,7] [(2,.ptr 0 0),(3,.ptr 1 0),(7,.int .i64 ((k:Nat):Int))] [.box [.str a.name,.imm (a.cols.map Co.v),.imm (a.key.map AVal.str),.imm (a.refs.map Rf.v),.int .i64 (a.chk.kind),.str a.chk.name,.int .i64 (a.chk.n),.str a.chk.s,.imm (a.chk.names.map AVal.str),.imm (a.chk.binds.map AVal.str),.imm (a.chk.kids.map Ex.enc),.int .i64 (a.chk.pos),.int .i64 (a.chk.fin)],.box [.str b.name,.imm (b.cols.map Co.v),.imm (b.key.map AVal.str),.imm (b.refs.map Rf.v),.int .i64 (b.chk.kind),.str b.chk.name,.int .i64 (b.chk.n),.str b.chk.s,.imm (b.chk.names.map AVal.str),.imm (b.chk.binds.map AVal.str),.imm (b.chk.kids.map Ex.enc),.int .i64 (b.chk.pos),.int .i64 (b.chk.fin)]] kq kq ?_
             refine wSeq kq ?_
             refine wBlock 1 kq kq ?_
             refine wSeq kq ?_
             refine wDrw cxM kq extThen (dstart ?_)
             refine drun 3 kq ?_
             refine dsym kq kq kq ((o_ixmap (k:=.i64) (l:=a.cols) (enc:=Co.v) (i:=((k:Nat):Int)) Co.zero kq ty35 ty63 (fun _=>rfl) (by first|omega|assumption|exact hz2 k oq) (by first|omega|assumption|exact hz2 k oq)).trans (congrArg (fun cs=>some (AVal.pimm cs 0,_)) (co_cells (a.cols.getD k Co.zero)))) ?_
             refine drun 5 kq ?_
             refine dsym kq kq kq ((o_ixmap (k:=.i64) (l:=b.cols) (enc:=Co.v) (i:=((k:Nat):Int)) Co.zero kq ty35 ty63 (fun _=>rfl) (by first|omega|assumption|exact hz2 k oq) (by first|omega|assumption|exact hz2 k oq)).trans (congrArg (fun cs=>some (AVal.pimm cs 0,_)) (co_cells (b.cols.getD k Co.zero)))) ?_
             refine drun 2 kq ?_
             refine dcallP (args:=[.agg [.int .i64 ((a.cols.getD k Co.zero).type.kind),.str (a.cols.getD k Co.zero).type.name,.int .i64 ((a.cols.getD k Co.zero).type.n),.imm ((a.cols.getD k Co.zero).type.names.map AVal.str),.imm ((a.cols.getD k Co.zero).type.kids.map Ty.enc)],.agg [.int .i64 ((b.cols.getD k Co.zero).type.kind),.str (b.cols.getD k Co.zero).type.name,.int .i64 ((b.cols.getD k Co.zero).type.n),.imm ((b.cols.getD k Co.zero).type.names.map AVal.str),.imm ((b.cols.getD k Co.zero).type.kids.map Ty.enc)]]) kq kq kq kq kq (rEqual_spec ((a.cols.getD k Co.zero).type) ((b.cols.getD k Co.zero).type) (by first|omega|assumption|exact hz2 k oq)) (by intro _;simp [Ty.v,Ex.v,Ct.v,Co.v,Rf.v,Sm.v,Tb.v]) (by simp [Ty.v,Ex.v,Ct.v,Co.v,Rf.v,Sm.v,Tb.v]) (by simp [Ty.v,Ex.v,Ct.v,Co.v,Rf.v,Sm.v,Tb.v]) ?_
             refine drun 1 kq ?_
             refine dend kq ⟨kq,?_⟩
             refine AThen_normal ?_
             refine wSt [2,3,7,8] [(2,.ptr 0 0),(3,.ptr 1 0),(7,.int .i64 ((k:Nat):Int)),(8,.bool (((a.cols.getD k Co.zero).type).beq ((b.cols.getD k Co.zero).type)))] [.box [.str a.name,.imm (a.cols.map Co.v),.imm (a.key.map AVal.str),.imm (a.refs.map Rf.v),.int .i64 (a.chk.kind),.str a.chk.name,.int .i64 (a.chk.n),.str a.chk.s,.imm (a.chk.names.map AVal.str),.imm (a.chk.binds.map AVal.str),.imm (a.chk.kids.map Ex.enc),.int .i64 (a.chk.pos),.int .i64 (a.chk.fin)],.box [.str b.name,.imm (b.cols.map Co.v),.imm (b.key.map AVal.str),.imm (b.refs.map Rf.v),.int .i64 (b.chk.kind),.str b.chk.name,.int .i64 (b.chk.n),.str b.chk.s,.imm (b.chk.names.map AVal.str),.imm (b.chk.binds.map AVal.str),.imm (b.chk.kids.map Ex.enc),.int .i64 (b.chk.pos),.int .i64 (b.chk.fin)]] kq kq ?_
             refine wSeq kq ?_
             refine wDrw cxM kq extThen (dstart ?_)
             refine drun 3 kq ?_
             by_cases hb7:(((a.cols.getD k Co.zero).type).beq ((b.cols.getD k Co.zero).type))=true
             · refine dset 72 (.bool (!(((a.cols.getD k Co.zero).type).beq ((b.cols.getD k Co.zero).type)))) (.bool false) (extD extThen) kq (congrArg AVal.bool (congrArg not (hb7))) ?_
               refine dset 73 (.bool (!(((a.cols.getD k Co.zero).type).beq ((b.cols.getD k Co.zero).type)))) (.bool false) (extD extThen) kq (congrArg AVal.bool (congrArg not (hb7))) ?_
               refine drun 3 kq ?_
               refine dsym kq kq kq ((o_ixmap (k:=.i64) (l:=a.cols) (enc:=Co.v) (i:=((k:Nat):Int)) Co.zero kq ty35 ty63 (fun _=>rfl) (by first|omega|assumption|exact hz2 k oq) (by first|omega|assumption|exact hz2 k oq)).trans (congrArg (fun cs=>some (AVal.pimm cs 0,_)) (co_cells (a.cols.getD k Co.zero)))) ?_
               refine drun 5 kq ?_
               refine dsym kq kq kq ((o_ixmap (k:=.i64) (l:=b.cols) (enc:=Co.v) (i:=((k:Nat):Int)) Co.zero kq ty35 ty63 (fun _=>rfl) (by first|omega|assumption|exact hz2 k oq) (by first|omega|assumption|exact hz2 k oq)).trans (congrArg (fun cs=>some (AVal.pimm cs 0,_)) (co_cells (b.cols.getD k Co.zero)))) ?_
               refine drun 4 kq ?_
               refine dend kq ⟨kq,?_⟩
               refine AThen_normal ?_
               refine wSt [2,3,7,74,75,76,77,78,79,80,81,82,83,84,85,86,87] [(2,.ptr 0 0),(3,.ptr 1 0),(7,.int .i64 ((k:Nat):Int)),(74,.ptr 0 1),(75,.imm (a.cols.map Co.v)),(76,.int .i64 ((k:Nat):Int)),(77,.pimm [.str (a.cols.getD k Co.zero).name,.int .i64 ((a.cols.getD k Co.zero).type.kind),.str (a.cols.getD k Co.zero).type.name,.int .i64 ((a.cols.getD k Co.zero).type.n),.imm ((a.cols.getD k Co.zero).type.names.map AVal.str),.imm ((a.cols.getD k Co.zero).type.kids.map Ty.enc)] 0),(78,.pimm [.str (a.cols.getD k Co.zero).name,.int .i64 ((a.cols.getD k Co.zero).type.kind),.str (a.cols.getD k Co.zero).type.name,.int .i64 ((a.cols.getD k Co.zero).type.n),.imm ((a.cols.getD k Co.zero).type.names.map AVal.str),.imm ((a.cols.getD k Co.zero).type.kids.map Ty.enc)] 0),(79,.str (a.cols.getD k Co.zero).name),(80,.ptr 1 1),(81,.imm (b.cols.map Co.v)),(82,.int .i64 ((k:Nat):Int)),(83,.pimm [.str (b.cols.getD k Co.zero).name,.int .i64 ((b.cols.getD k Co.zero).type.kind),.str (b.cols.getD k Co.zero).type.name,.int .i64 ((b.cols.getD k Co.zero).type.n),.imm ((b.cols.getD k Co.zero).type.names.map AVal.str),.imm ((b.cols.getD k Co.zero).type.kids.map Ty.enc)] 0),(84,.pimm [.str (b.cols.getD k Co.zero).name,.int .i64 ((b.cols.getD k Co.zero).type.kind),.str (b.cols.getD k Co.zero).type.name,.int .i64 ((b.cols.getD k Co.zero).type.n),.imm ((b.cols.getD k Co.zero).type.names.map AVal.str),.imm ((b.cols.getD k Co.zero).type.kids.map Ty.enc)] 0),(85,.str (b.cols.getD k Co.zero).name),(86,.bool (!((a.cols.getD k Co.zero).name==(b.cols.getD k Co.zero).name))),(87,.bool (!((a.cols.getD k Co.zero).name==(b.cols.getD k Co.zero).name)))] [.box [.str a.name,.imm (a.cols.map Co.v),.imm (a.key.map AVal.str),.imm (a.refs.map Rf.v),.int .i64 (a.chk.kind),.str a.chk.name,.int .i64 (a.chk.n),.str a.chk.s,.imm (a.chk.names.map AVal.str),.imm (a.chk.binds.map AVal.str),.imm (a.chk.kids.map Ex.enc),.int .i64 (a.chk.pos),.int .i64 (a.chk.fin)],.box [.str b.name,.imm (b.cols.map Co.v),.imm (b.key.map AVal.str),.imm (b.refs.map Rf.v),.int .i64 (b.chk.kind),.str b.chk.name,.int .i64 (b.chk.n),.str b.chk.s,.imm (b.chk.names.map AVal.str),.imm (b.chk.binds.map AVal.str),.imm (b.chk.kids.map Ex.enc),.int .i64 (b.chk.pos),.int .i64 (b.chk.fin)]] kq kq ?_
               by_cases hb8:(a.cols.getD k Co.zero).name=(b.cols.getD k Co.zero).name
               · refine wIfF kq (Eq.trans (b:=.bool (!((a.cols.getD k Co.zero).name==(b.cols.getD k Co.zero).name))) kq (congrArg AVal.bool (congrArg not (beq_iff_eq.2 hb8)))) ?_
                 refine wSkip kq ?_
                 refine AIn_normal ?_
                 refine AThen_normal ?_
                 refine wSt [2,3,7,74,75,76,77,78,79,80,81,82,83,84,85,86] [(2,.ptr 0 0),(3,.ptr 1 0),(7,.int .i64 ((k:Nat):Int)),(74,.ptr 0 1),(75,.imm (a.cols.map Co.v)),(76,.int .i64 ((k:Nat):Int)),(77,.pimm [.str (a.cols.getD k Co.zero).name,.int .i64 ((a.cols.getD k Co.zero).type.kind),.str (a.cols.getD k Co.zero).type.name,.int .i64 ((a.cols.getD k Co.zero).type.n),.imm ((a.cols.getD k Co.zero).type.names.map AVal.str),.imm ((a.cols.getD k Co.zero).type.kids.map Ty.enc)] 0),(78,.pimm [.str (a.cols.getD k Co.zero).name,.int .i64 ((a.cols.getD k Co.zero).type.kind),.str (a.cols.getD k Co.zero).type.name,.int .i64 ((a.cols.getD k Co.zero).type.n),.imm ((a.cols.getD k Co.zero).type.names.map AVal.str),.imm ((a.cols.getD k Co.zero).type.kids.map Ty.enc)] 0),(79,.str (a.cols.getD k Co.zero).name),(80,.ptr 1 1),(81,.imm (b.cols.map Co.v)),(82,.int .i64 ((k:Nat):Int)),(83,.pimm [.str (b.cols.getD k Co.zero).name,.int .i64 ((b.cols.getD k Co.zero).type.kind),.str (b.cols.getD k Co.zero).type.name,.int .i64 ((b.cols.getD k Co.zero).type.n),.imm ((b.cols.getD k Co.zero).type.names.map AVal.str),.imm ((b.cols.getD k Co.zero).type.kids.map Ty.enc)] 0),(84,.pimm [.str (b.cols.getD k Co.zero).name,.int .i64 ((b.cols.getD k Co.zero).type.kind),.str (b.cols.getD k Co.zero).type.name,.int .i64 ((b.cols.getD k Co.zero).type.n),.imm ((b.cols.getD k Co.zero).type.names.map AVal.str),.imm ((b.cols.getD k Co.zero).type.kids.map Ty.enc)] 0),(85,.str (b.cols.getD k Co.zero).name),(86,.bool (!((a.cols.getD k Co.zero).name==(b.cols.getD k Co.zero).name)))] [.box [.str a.name,.imm (a.cols.map Co.v),.imm (a.key.map AVal.str),.imm (a.refs.map Rf.v),.int .i64 (a.chk.kind),.str a.chk.name,.int .i64 (a.chk.n),.str a.chk.s,.imm (a.chk.names.map AVal.str),.imm (a.chk.binds.map AVal.str),.imm (a.chk.kids.map Ex.enc),.int .i64 (a.chk.pos),.int .i64 (a.chk.fin)],.box [.str b.name,.imm (b.cols.map Co.v),.imm (b.key.map AVal.str),.imm (b.refs.map Rf.v),.int .i64 (b.chk.kind),.str b.chk.name,.int .i64 (b.chk.n),.str b.chk.s,.imm (b.chk.names.map AVal.str),.imm (b.chk.binds.map AVal.str),.imm (b.chk.kids.map Ex.enc),.int .i64 (b.chk.pos),.int .i64 (b.chk.fin)]] kq kq ?_
                 refine wOrd kq (vstart ?_)
                 refine vrun 1 kq ?_
                 refine vsym kq kq (o_add (a:=((k:Nat):Int)) (b:=1) kq (by first|omega|assumption|exact hz2 k oq) (by first|omega|assumption|exact hz2 k oq)) ?_
                 refine vrun 1 kq ?_
                 refine vend kq ?_
                 refine AThen_normal ⟨k+1,?_,?_,⟨⟨kq,kq,kq,trivial⟩,by simp [BelL,AVal.bel],by simp,kq,by simp [AObj.belO]⟩⟩
                 · omega
                 · refine ⟨by omega,fun i hi=>?_⟩
                   rcases Nat.lt_succ_iff_lt_or_eq.1 hi with h|h
                   · exact hak i h
                   · subst h;simp_all [Co.beq]
               · refine wIfT kq (Eq.trans (b:=.bool (!((a.cols.getD k Co.zero).name==(b.cols.getD k Co.zero).name))) kq (congrArg AVal.bool (congrArg not (beq_eq_false_iff_ne.2 hb8)))) ?_
                 refine wSeq kq ?_
                 refine wOrd kq (vstart ?_)
                 refine vrun 1 kq ?_
                 refine vend kq ?_
                 refine AThen_normal ?_
                 refine wSt [4] [(4,.bool false)] [.box [.str a.name,.imm (a.cols.map Co.v),.imm (a.key.map AVal.str),.imm (a.refs.map Rf.v),.int .i64 (a.chk.kind),.str a.chk.name,.int .i64 (a.chk.n),.str a.chk.s,.imm (a.chk.names.map AVal.str),.imm (a.chk.binds.map AVal.str),.imm (a.chk.kids.map Ex.enc),.int .i64 (a.chk.pos),.int .i64 (a.chk.fin)],.box [.str b.name,.imm (b.cols.map Co.v),.imm (b.key.map AVal.str),.imm (b.refs.map Rf.v),.int .i64 (b.chk.kind),.str b.chk.name,.int .i64 (b.chk.n),.str b.chk.s,.imm (b.chk.names.map AVal.str),.imm (b.chk.binds.map AVal.str),.imm (b.chk.kids.map Ex.enc),.int .i64 (b.chk.pos),.int .i64 (b.chk.fin)]] kq kq ?_
                 refine wRet kq ?_
                 refine AIn_ret ?_
                 refine AThen_ret ?_
                 refine AThen_ret ?_
                 refine AIn_ret ?_
                 refine AThen_ret ?_
                 refine leafB (b:=false) (.inr rfl) kq ?_
                 refine Eq.trans ?_ (show ((a.name==b.name) && (zipAll Co.beq a.cols b.cols && ((a.key==b.key) && (zipAll Rf.beq a.refs b.refs && a.chk.beq b.chk))))=a.beq b from rfl)
                 first|(simp only [zipAll_len Co.beq a.cols b.cols oq,Bool.and_false,Bool.false_and];done)|(simp only [zipAll_len Rf.beq a.refs b.refs oq,Bool.and_false,Bool.false_and];done)|(rw [zipAll_true Co.beq Co.zero Co.zero a.cols b.cols oq (fun i hi=>hak i oq),zipAll_true Rf.beq Rf.zero Rf.zero a.refs b.refs oq (fun i hi=>haq i oq)];simp_all;done)|(rw [zipAll_at Rf.beq Rf.zero Rf.zero a.refs b.refs q oq oq (by simp_all)];simp;done)|(rw [zipAll_at Co.beq Co.zero Co.zero a.cols b.cols k oq oq (by simp_all [Co.beq])];simp;done)|(simp_all;done)
             · refine dset 72 (.bool (!(((a.cols.getD k Co.zero).type).beq ((b.cols.getD k Co.zero).type)))) (.bool true) (extD extThen) kq (congrArg AVal.bool (congrArg not (Bool.eq_false_iff.2 hb7))) ?_
               refine dset 73 (.bool (!(((a.cols.getD k Co.zero).type).beq ((b.cols.getD k Co.zero).type)))) (.bool true) (extD extThen) kq (congrArg AVal.bool (congrArg not (Bool.eq_false_iff.2 hb7))) ?_
               refine drun 14 kq ?_
               refine dend kq ⟨kq,?_⟩
               refine AThen_normal ?_
               refine wSt [2,3,7,74,75,76,77,78,79,80,81,82,83,84,85,86,87] [(2,.ptr 0 0),(3,.ptr 1 0),(7,.int .i64 ((k:Nat):Int)),(74,.tup []),(75,.tup []),(76,.tup []),(77,.tup []),(78,.tup []),(79,.tup []),(80,.tup []),(81,.tup []),(82,.tup []),(83,.tup []),(84,.tup []),(85,.tup []),(86,.tup []),(87,.bool true)] [.box [.str a.name,.imm (a.cols.map Co.v),.imm (a.key.map AVal.str),.imm (a.refs.map Rf.v),.int .i64 (a.chk.kind),.str a.chk.name,.int .i64 (a.chk.n),.str a.chk.s,.imm (a.chk.names.map AVal.str),.imm (a.chk.binds.map AVal.str),.imm (a.chk.kids.map Ex.enc),.int .i64 (a.chk.pos),.int .i64 (a.chk.fin)],.box [.str b.name,.imm (b.cols.map Co.v),.imm (b.key.map AVal.str),.imm (b.refs.map Rf.v),.int .i64 (b.chk.kind),.str b.chk.name,.int .i64 (b.chk.n),.str b.chk.s,.imm (b.chk.names.map AVal.str),.imm (b.chk.binds.map AVal.str),.imm (b.chk.kids.map Ex.enc),.int .i64 (b.chk.pos),.int .i64 (b.chk.fin)]] kq kq ?_
               refine wIfT kq kq ?_
               refine wSeq kq ?_
               refine wOrd kq (vstart ?_)
               refine vrun 1 kq ?_
               refine vend kq ?_
               refine AThen_normal ?_
               refine wSt [4] [(4,.bool false)] [.box [.str a.name,.imm (a.cols.map Co.v),.imm (a.key.map AVal.str),.imm (a.refs.map Rf.v),.int .i64 (a.chk.kind),.str a.chk.name,.int .i64 (a.chk.n),.str a.chk.s,.imm (a.chk.names.map AVal.str),.imm (a.chk.binds.map AVal.str),.imm (a.chk.kids.map Ex.enc),.int .i64 (a.chk.pos),.int .i64 (a.chk.fin)],.box [.str b.name,.imm (b.cols.map Co.v),.imm (b.key.map AVal.str),.imm (b.refs.map Rf.v),.int .i64 (b.chk.kind),.str b.chk.name,.int .i64 (b.chk.n),.str b.chk.s,.imm (b.chk.names.map AVal.str),.imm (b.chk.binds.map AVal.str),.imm (b.chk.kids.map Ex.enc),.int .i64 (b.chk.pos),.int .i64 (b.chk.fin)]] kq kq ?_
               refine wRet kq ?_
               refine AIn_ret ?_
               refine AThen_ret ?_
               refine AThen_ret ?_
               refine AIn_ret ?_
               refine AThen_ret ?_
               refine leafB (b:=false) (.inr rfl) kq ?_
               refine Eq.trans ?_ (show ((a.name==b.name) && (zipAll Co.beq a.cols b.cols && ((a.key==b.key) && (zipAll Rf.beq a.refs b.refs && a.chk.beq b.chk))))=a.beq b from rfl)
               first|(simp only [zipAll_len Co.beq a.cols b.cols oq,Bool.and_false,Bool.false_and];done)|(simp only [zipAll_len Rf.beq a.refs b.refs oq,Bool.and_false,Bool.false_and];done)|(rw [zipAll_true Co.beq Co.zero Co.zero a.cols b.cols oq (fun i hi=>hak i oq),zipAll_true Rf.beq Rf.zero Rf.zero a.refs b.refs oq (fun i hi=>haq i oq)];simp_all;done)|(rw [zipAll_at Rf.beq Rf.zero Rf.zero a.refs b.refs q oq oq (by simp_all)];simp;done)|(rw [zipAll_at Co.beq Co.zero Co.zero a.cols b.cols k oq oq (by simp_all [Co.beq])];simp;done)|(simp_all;done)
           · refine wIfF kq (Eq.trans (b:=.bool (decide (((k:Nat):Int)<((a.cols.length:Nat):Int)))) kq (congrArg AVal.bool (decide_eq_false hb6))) ?_
             refine wExit 0 kq kq ?_
             refine AThen_exit ?_
             refine AThen_exit ?_
             refine AIn_exit ?_
             refine AThen_normal ?_
             refine wSt [2,3] [(2,.ptr 0 0),(3,.ptr 1 0)] [.box [.str a.name,.imm (a.cols.map Co.v),.imm (a.key.map AVal.str),.imm (a.refs.map Rf.v),.int .i64 (a.chk.kind),.str a.chk.name,.int .i64 (a.chk.n),.str a.chk.s,.imm (a.chk.names.map AVal.str),.imm (a.chk.binds.map AVal.str),.imm (a.chk.kids.map Ex.enc),.int .i64 (a.chk.pos),.int .i64 (a.chk.fin)],.box [.str b.name,.imm (b.cols.map Co.v),.imm (b.key.map AVal.str),.imm (b.refs.map Rf.v),.int .i64 (b.chk.kind),.str b.chk.name,.int .i64 (b.chk.n),.str b.chk.s,.imm (b.chk.names.map AVal.str),.imm (b.chk.binds.map AVal.str),.imm (b.chk.kids.map Ex.enc),.int .i64 (b.chk.pos),.int .i64 (b.chk.fin)]] kq kq ?_
             refine wSeq kq ?_
             refine wSeq kq ?_
             refine wOrd kq (vstart ?_)
             refine vrun 1 kq ?_
             refine vend kq ?_
             refine AThen_normal ?_
             refine wSt [2,3,9] [(2,.ptr 0 0),(3,.ptr 1 0),(9,.int .i64 0)] [.box [.str a.name,.imm (a.cols.map Co.v),.imm (a.key.map AVal.str),.imm (a.refs.map Rf.v),.int .i64 (a.chk.kind),.str a.chk.name,.int .i64 (a.chk.n),.str a.chk.s,.imm (a.chk.names.map AVal.str),.imm (a.chk.binds.map AVal.str),.imm (a.chk.kids.map Ex.enc),.int .i64 (a.chk.pos),.int .i64 (a.chk.fin)],.box [.str b.name,.imm (b.cols.map Co.v),.imm (b.key.map AVal.str),.imm (b.refs.map Rf.v),.int .i64 (b.chk.kind),.str b.chk.name,.int .i64 (b.chk.n),.str b.chk.s,.imm (b.chk.names.map AVal.str),.imm (b.chk.binds.map AVal.str),.imm (b.chk.kids.map Ex.enc),.int .i64 (b.chk.pos),.int .i64 (b.chk.fin)]] kq kq ?_
             refine wBlock 2 kq kq ?_
             refine wLoop (σ:=Nat) (fun q=>[(2,.ptr 0 0),(3,.ptr 1 0),(9,.int .i64 ((q:Nat):Int))]) (fun q=>[.box [.str a.name,.imm (a.cols.map Co.v),.imm (a.key.map AVal.str),.imm (a.refs.map Rf.v),.int .i64 (a.chk.kind),.str a.chk.name,.int .i64 (a.chk.n),.str a.chk.s,.imm (a.chk.names.map AVal.str),.imm (a.chk.binds.map AVal.str),.imm (a.chk.kids.map Ex.enc),.int .i64 (a.chk.pos),.int .i64 (a.chk.fin)],.box [.str b.name,.imm (b.cols.map Co.v),.imm (b.key.map AVal.str),.imm (b.refs.map Rf.v),.int .i64 (b.chk.kind),.str b.chk.name,.int .i64 (b.chk.n),.str b.chk.s,.imm (b.chk.names.map AVal.str),.imm (b.chk.binds.map AVal.str),.imm (b.chk.kids.map Ex.enc),.int .i64 (b.chk.pos),.int .i64 (b.chk.fin)]]) (fun q=>q≤a.refs.length∧∀ i,i<q→(a.refs.getD i Rf.zero).beq (b.refs.getD i Rf.zero)=true) (fun q=>a.refs.length - q) 0 kq (by exact ⟨Nat.zero_le _,fun i h=>absurd h (Nat.not_lt_zero i)⟩) ⟨⟨kq,kq,kq,trivial⟩,by simp [BelL,AVal.bel],by simp,kq,by simp [AObj.belO]⟩ ?_
             rintro q ⟨hkq,haq⟩
             refine wSeq kq ?_
             refine wSeq kq ?_
             refine wOrd kq (vstart ?_)
             refine vrun 3 kq ?_
             refine vsym kq kq (o_lenmap (l:=a.refs) (enc:=Rf.v) kq ty36) ?_
             refine vrun 1 kq ?_
             refine vend kq ?_
             refine AThen_normal ?_
             refine wSt [2,3,9,92] [(2,.ptr 0 0),(3,.ptr 1 0),(9,.int .i64 ((q:Nat):Int)),(92,.bool (decide (((q:Nat):Int)<((a.refs.length:Nat):Int))))] [.box [.str a.name,.imm (a.cols.map Co.v),.imm (a.key.map AVal.str),.imm (a.refs.map Rf.v),.int .i64 (a.chk.kind),.str a.chk.name,.int .i64 (a.chk.n),.str a.chk.s,.imm (a.chk.names.map AVal.str),.imm (a.chk.binds.map AVal.str),.imm (a.chk.kids.map Ex.enc),.int .i64 (a.chk.pos),.int .i64 (a.chk.fin)],.box [.str b.name,.imm (b.cols.map Co.v),.imm (b.key.map AVal.str),.imm (b.refs.map Rf.v),.int .i64 (b.chk.kind),.str b.chk.name,.int .i64 (b.chk.n),.str b.chk.s,.imm (b.chk.names.map AVal.str),.imm (b.chk.binds.map AVal.str),.imm (b.chk.kids.map Ex.enc),.int .i64 (b.chk.pos),.int .i64 (b.chk.fin)]] kq kq ?_
             by_cases hb9:((q:Nat):Int)<((a.refs.length:Nat):Int)
             · refine wIfT kq (Eq.trans (b:=.bool (decide (((q:Nat):Int)<((a.refs.length:Nat):Int)))) kq (congrArg AVal.bool (decide_eq_true hb9))) ?_
               refine wSkip kq ?_
               refine AThen_normal ?_
               refine wSt [2,3,9] [(2,.ptr 0 0),(3,.ptr 1 0),(9,.int .i64 ((q:Nat):Int))] [.box [.str a.name,.imm (a.cols.map Co.v),.imm (a.key.map AVal.str),.imm (a.refs.map Rf.v),.int .i64 (a.chk.kind),.str a.chk.name,.int .i64 (a.chk.n),.str a.chk.s,.imm (a.chk.names.map AVal.str),.imm (a.chk.binds.map AVal.str),.imm (a.chk.kids.map Ex.enc),.int .i64 (a.chk.pos),.int .i64 (a.chk.fin)],.box [.str b.name,.imm (b.cols.map Co.v),.imm (b.key.map AVal.str),.imm (b.refs.map Rf.v),.int .i64 (b.chk.kind),.str b.chk.name,.int .i64 (b.chk.n),.str b.chk.s,.imm (b.chk.names.map AVal.str),.imm (b.chk.binds.map AVal.str),.imm (b.chk.kids.map Ex.enc),.int .i64 (b.chk.pos),.int .i64 (b.chk.fin)]] kq kq ?_
               refine wSeq kq ?_
               refine wBlock 3 kq kq ?_
               refine wSeq kq ?_
               refine wDrw cxM kq extThen (dstart ?_)
               refine drun 3 kq ?_
               refine dsym kq kq kq ((o_ixmap (k:=.i64) (l:=a.refs) (enc:=Rf.v) (i:=((q:Nat):Int)) Rf.zero kq ty36 ty51 (fun _=>rfl) (by first|omega|assumption|exact hz2 k oq) (by first|omega|assumption|exact hz2 k oq)).trans (congrArg (fun cs=>some (AVal.pimm cs 0,_)) (rf_cells (a.refs.getD q Rf.zero)))) ?_
               refine drun 4 kq ?_
               refine dsym kq kq kq ((o_ixmap (k:=.i64) (l:=b.refs) (enc:=Rf.v) (i:=((q:Nat):Int)) Rf.zero kq ty36 ty51 (fun _=>rfl) (by first|omega|assumption|exact hz2 k oq) (by first|omega|assumption|exact hz2 k oq)).trans (congrArg (fun cs=>some (AVal.pimm cs 0,_)) (rf_cells (b.refs.getD q Rf.zero)))) ?_
               refine drun 1 kq ?_
               refine dsym kq kq kq (o_aggn kq (aggEq_rf (a.refs.getD q Rf.zero) (b.refs.getD q Rf.zero))) ?_
               refine dend kq ⟨kq,?_⟩
               refine AThen_normal ?_
               refine wSt [2,3,9,105] [(2,.ptr 0 0),(3,.ptr 1 0),(9,.int .i64 ((q:Nat):Int)),(105,.bool (!(Rf.beq (a.refs.getD q Rf.zero) (b.refs.getD q Rf.zero))))] [.box [.str a.name,.imm (a.cols.map Co.v),.imm (a.key.map AVal.str),.imm (a.refs.map Rf.v),.int .i64 (a.chk.kind),.str a.chk.name,.int .i64 (a.chk.n),.str a.chk.s,.imm (a.chk.names.map AVal.str),.imm (a.chk.binds.map AVal.str),.imm (a.chk.kids.map Ex.enc),.int .i64 (a.chk.pos),.int .i64 (a.chk.fin)],.box [.str b.name,.imm (b.cols.map Co.v),.imm (b.key.map AVal.str),.imm (b.refs.map Rf.v),.int .i64 (b.chk.kind),.str b.chk.name,.int .i64 (b.chk.n),.str b.chk.s,.imm (b.chk.names.map AVal.str),.imm (b.chk.binds.map AVal.str),.imm (b.chk.kids.map Ex.enc),.int .i64 (b.chk.pos),.int .i64 (b.chk.fin)]] kq kq ?_
               by_cases hb10:(Rf.beq (a.refs.getD q Rf.zero) (b.refs.getD q Rf.zero))=true
               · refine wIfF kq (Eq.trans (b:=.bool (!(Rf.beq (a.refs.getD q Rf.zero) (b.refs.getD q Rf.zero)))) kq (congrArg AVal.bool (congrArg not (hb10)))) ?_
                 refine wSkip kq ?_
                 refine AIn_normal ?_
                 refine AThen_normal ?_
                 refine wSt [2,3,9] [(2,.ptr 0 0),(3,.ptr 1 0),(9,.int .i64 ((q:Nat):Int))] [.box [.str a.name,.imm (a.cols.map Co.v),.imm (a.key.map AVal.str),.imm (a.refs.map Rf.v),.int .i64 (a.chk.kind),.str a.chk.name,.int .i64 (a.chk.n),.str a.chk.s,.imm (a.chk.names.map AVal.str),.imm (a.chk.binds.map AVal.str),.imm (a.chk.kids.map Ex.enc),.int .i64 (a.chk.pos),.int .i64 (a.chk.fin)],.box [.str b.name,.imm (b.cols.map Co.v),.imm (b.key.map AVal.str),.imm (b.refs.map Rf.v),.int .i64 (b.chk.kind),.str b.chk.name,.int .i64 (b.chk.n),.str b.chk.s,.imm (b.chk.names.map AVal.str),.imm (b.chk.binds.map AVal.str),.imm (b.chk.kids.map Ex.enc),.int .i64 (b.chk.pos),.int .i64 (b.chk.fin)]] kq kq ?_
                 refine wOrd kq (vstart ?_)
                 refine vrun 1 kq ?_
                 refine vsym kq kq (o_add (a:=((q:Nat):Int)) (b:=1) kq (by first|omega|assumption|exact hz2 k oq) (by first|omega|assumption|exact hz2 k oq)) ?_
                 refine vrun 1 kq ?_
                 refine vend kq ?_
                 refine AThen_normal ⟨q+1,?_,?_,⟨⟨kq,kq,kq,trivial⟩,by simp [BelL,AVal.bel],by simp,kq,by simp [AObj.belO]⟩⟩
                 · omega
                 · refine ⟨by omega,fun i hi=>?_⟩
                   rcases Nat.lt_succ_iff_lt_or_eq.1 hi with h|h
                   · exact haq i h
                   · subst h;simp_all [Rf.beq]
               · refine wIfT kq (Eq.trans (b:=.bool (!(Rf.beq (a.refs.getD q Rf.zero) (b.refs.getD q Rf.zero)))) kq (congrArg AVal.bool (congrArg not (Bool.eq_false_iff.2 hb10)))) ?_
                 refine wSeq kq ?_
                 refine wOrd kq (vstart ?_)
                 refine vrun 1 kq ?_
                 refine vend kq ?_
                 refine AThen_normal ?_
                 refine wSt [4] [(4,.bool false)] [.box [.str a.name,.imm (a.cols.map Co.v),.imm (a.key.map AVal.str),.imm (a.refs.map Rf.v),.int .i64 (a.chk.kind),.str a.chk.name,.int .i64 (a.chk.n),.str a.chk.s,.imm (a.chk.names.map AVal.str),.imm (a.chk.binds.map AVal.str),.imm (a.chk.kids.map Ex.enc),.int .i64 (a.chk.pos),.int .i64 (a.chk.fin)],.box [.str b.name,.imm (b.cols.map Co.v),.imm (b.key.map AVal.str),.imm (b.refs.map Rf.v),.int .i64 (b.chk.kind),.str b.chk.name,.int .i64 (b.chk.n),.str b.chk.s,.imm (b.chk.names.map AVal.str),.imm (b.chk.binds.map AVal.str),.imm (b.chk.kids.map Ex.enc),.int .i64 (b.chk.pos),.int .i64 (b.chk.fin)]] kq kq ?_
                 refine wRet kq ?_
                 refine AIn_ret ?_
                 refine AThen_ret ?_
                 refine AThen_ret ?_
                 refine AIn_ret ?_
                 refine AThen_ret ?_
                 refine leafB (b:=false) (.inr rfl) kq ?_
                 refine Eq.trans ?_ (show ((a.name==b.name) && (zipAll Co.beq a.cols b.cols && ((a.key==b.key) && (zipAll Rf.beq a.refs b.refs && a.chk.beq b.chk))))=a.beq b from rfl)
                 first|(simp only [zipAll_len Co.beq a.cols b.cols oq,Bool.and_false,Bool.false_and];done)|(simp only [zipAll_len Rf.beq a.refs b.refs oq,Bool.and_false,Bool.false_and];done)|(rw [zipAll_true Co.beq Co.zero Co.zero a.cols b.cols oq (fun i hi=>hak i oq),zipAll_true Rf.beq Rf.zero Rf.zero a.refs b.refs oq (fun i hi=>haq i oq)];simp_all;done)|(rw [zipAll_at Rf.beq Rf.zero Rf.zero a.refs b.refs q oq oq (by simp_all)];simp;done)|(rw [zipAll_at Co.beq Co.zero Co.zero a.cols b.cols k oq oq (by simp_all [Co.beq])];simp;done)|(simp_all;done)
             · refine wIfF kq (Eq.trans (b:=.bool (decide (((q:Nat):Int)<((a.refs.length:Nat):Int)))) kq (congrArg AVal.bool (decide_eq_false hb9))) ?_
               refine wExit 2 kq kq ?_
               refine AThen_exit ?_
               refine AThen_exit ?_
               refine AIn_exit ?_
               refine AThen_normal ?_
               refine wSt [] [] [.box [.str a.name,.imm (a.cols.map Co.v),.imm (a.key.map AVal.str),.imm (a.refs.map Rf.v),.int .i64 (a.chk.kind),.str a.chk.name,.int .i64 (a.chk.n),.str a.chk.s,.imm (a.chk.names.map AVal.str),.imm (a.chk.binds.map AVal.str),.imm (a.chk.kids.map Ex.enc),.int .i64 (a.chk.pos),.int .i64 (a.chk.fin)],.box [.str b.name,.imm (b.cols.map Co.v),.imm (b.key.map AVal.str),.imm (b.refs.map Rf.v),.int .i64 (b.chk.kind),.str b.chk.name,.int .i64 (b.chk.n),.str b.chk.s,.imm (b.chk.names.map AVal.str),.imm (b.chk.binds.map AVal.str),.imm (b.chk.kids.map Ex.enc),.int .i64 (b.chk.pos),.int .i64 (b.chk.fin)]] kq kq ?_
               refine wSeq kq ?_
               refine wOrd kq (vstart ?_)
               refine vrun 1 kq ?_
               refine vend kq ?_
               refine AThen_normal ?_
               refine wSt [4] [(4,.bool true)] [.box [.str a.name,.imm (a.cols.map Co.v),.imm (a.key.map AVal.str),.imm (a.refs.map Rf.v),.int .i64 (a.chk.kind),.str a.chk.name,.int .i64 (a.chk.n),.str a.chk.s,.imm (a.chk.names.map AVal.str),.imm (a.chk.binds.map AVal.str),.imm (a.chk.kids.map Ex.enc),.int .i64 (a.chk.pos),.int .i64 (a.chk.fin)],.box [.str b.name,.imm (b.cols.map Co.v),.imm (b.key.map AVal.str),.imm (b.refs.map Rf.v),.int .i64 (b.chk.kind),.str b.chk.name,.int .i64 (b.chk.n),.str b.chk.s,.imm (b.chk.names.map AVal.str),.imm (b.chk.binds.map AVal.str),.imm (b.chk.kids.map Ex.enc),.int .i64 (b.chk.pos),.int .i64 (b.chk.fin)]] kq kq ?_
               refine wRet kq ?_
               refine leafB (b:=true) (.inr rfl) kq ?_
               refine Eq.trans ?_ (show ((a.name==b.name) && (zipAll Co.beq a.cols b.cols && ((a.key==b.key) && (zipAll Rf.beq a.refs b.refs && a.chk.beq b.chk))))=a.beq b from rfl)
               first|(simp only [zipAll_len Co.beq a.cols b.cols oq,Bool.and_false,Bool.false_and];done)|(simp only [zipAll_len Rf.beq a.refs b.refs oq,Bool.and_false,Bool.false_and];done)|(rw [zipAll_true Co.beq Co.zero Co.zero a.cols b.cols oq (fun i hi=>hak i oq),zipAll_true Rf.beq Rf.zero Rf.zero a.refs b.refs oq (fun i hi=>haq i oq)];simp_all;done)|(rw [zipAll_at Rf.beq Rf.zero Rf.zero a.refs b.refs q oq oq (by simp_all)];simp;done)|(rw [zipAll_at Co.beq Co.zero Co.zero a.cols b.cols k oq oq (by simp_all [Co.beq])];simp;done)|(simp_all;done)
         · refine wIfT kq (Eq.trans (b:=.bool (((a.refs.length:Nat):Int) != ((b.refs.length:Nat):Int))) kq (congrArg AVal.bool (bne_iff_ne.2 hb5))) ?_
           refine wSeq kq ?_
           refine wOrd kq (vstart ?_)
           refine vrun 1 kq ?_
           refine vend kq ?_
           refine AThen_normal ?_
           refine wSt [4] [(4,.bool false)] [.box [.str a.name,.imm (a.cols.map Co.v),.imm (a.key.map AVal.str),.imm (a.refs.map Rf.v),.int .i64 (a.chk.kind),.str a.chk.name,.int .i64 (a.chk.n),.str a.chk.s,.imm (a.chk.names.map AVal.str),.imm (a.chk.binds.map AVal.str),.imm (a.chk.kids.map Ex.enc),.int .i64 (a.chk.pos),.int .i64 (a.chk.fin)],.box [.str b.name,.imm (b.cols.map Co.v),.imm (b.key.map AVal.str),.imm (b.refs.map Rf.v),.int .i64 (b.chk.kind),.str b.chk.name,.int .i64 (b.chk.n),.str b.chk.s,.imm (b.chk.names.map AVal.str),.imm (b.chk.binds.map AVal.str),.imm (b.chk.kids.map Ex.enc),.int .i64 (b.chk.pos),.int .i64 (b.chk.fin)]] kq kq ?_
           refine wRet kq ?_
           refine AThen_ret ?_
           refine leafB (b:=false) (.inr rfl) kq ?_
           refine Eq.trans ?_ (show ((a.name==b.name) && (zipAll Co.beq a.cols b.cols && ((a.key==b.key) && (zipAll Rf.beq a.refs b.refs && a.chk.beq b.chk))))=a.beq b from rfl)
           first|(simp only [zipAll_len Co.beq a.cols b.cols oq,Bool.and_false,Bool.false_and];done)|(simp only [zipAll_len Rf.beq a.refs b.refs oq,Bool.and_false,Bool.false_and];done)|(rw [zipAll_true Co.beq Co.zero Co.zero a.cols b.cols oq (fun i hi=>hak i oq),zipAll_true Rf.beq Rf.zero Rf.zero a.refs b.refs oq (fun i hi=>haq i oq)];simp_all;done)|(rw [zipAll_at Rf.beq Rf.zero Rf.zero a.refs b.refs q oq oq (by simp_all)];simp;done)|(rw [zipAll_at Co.beq Co.zero Co.zero a.cols b.cols k oq oq (by simp_all [Co.beq])];simp;done)|(simp_all;done)
       · refine vset 40 (.bool (((a.cols.length:Nat):Int) != ((b.cols.length:Nat):Int))) (.bool true) (extO extThen) kq (congrArg AVal.bool (bne_iff_ne.2 hb4)) ?_
         refine vset 41 (.bool (((a.cols.length:Nat):Int) != ((b.cols.length:Nat):Int))) (.bool true) (extO extThen) kq (congrArg AVal.bool (bne_iff_ne.2 hb4)) ?_
         refine vset 42 (.bool (((a.cols.length:Nat):Int) != ((b.cols.length:Nat):Int))) (.bool true) (extO extThen) kq (congrArg AVal.bool (bne_iff_ne.2 hb4)) ?_
         refine vrun 8 kq ?_
         refine vend kq ?_
         refine AThen_normal ?_
         refine wSt [2,3,50] [(2,.ptr 0 0),(3,.ptr 1 0),(50,.bool true)] [.box [.str a.name,.imm (a.cols.map Co.v),.imm (a.key.map AVal.str),.imm (a.refs.map Rf.v),.int .i64 (a.chk.kind),.str a.chk.name,.int .i64 (a.chk.n),.str a.chk.s,.imm (a.chk.names.map AVal.str),.imm (a.chk.binds.map AVal.str),.imm (a.chk.kids.map Ex.enc),.int .i64 (a.chk.pos),.int .i64 (a.chk.fin)],.box [.str b.name,.imm (b.cols.map Co.v),.imm (b.key.map AVal.str),.imm (b.refs.map Rf.v),.int .i64 (b.chk.kind),.str b.chk.name,.int .i64 (b.chk.n),.str b.chk.s,.imm (b.chk.names.map AVal.str),.imm (b.chk.binds.map AVal.str),.imm (b.chk.kids.map Ex.enc),.int .i64 (b.chk.pos),.int .i64 (b.chk.fin)]] kq kq ?_
         refine wIfT kq kq ?_
         refine wSeq kq ?_
         refine wOrd kq (vstart ?_)
         refine vrun 1 kq ?_
         refine vend kq ?_
         refine AThen_normal ?_
         refine wSt [4] [(4,.bool false)] [.box [.str a.name,.imm (a.cols.map Co.v),.imm (a.key.map AVal.str),.imm (a.refs.map Rf.v),.int .i64 (a.chk.kind),.str a.chk.name,.int .i64 (a.chk.n),.str a.chk.s,.imm (a.chk.names.map AVal.str),.imm (a.chk.binds.map AVal.str),.imm (a.chk.kids.map Ex.enc),.int .i64 (a.chk.pos),.int .i64 (a.chk.fin)],.box [.str b.name,.imm (b.cols.map Co.v),.imm (b.key.map AVal.str),.imm (b.refs.map Rf.v),.int .i64 (b.chk.kind),.str b.chk.name,.int .i64 (b.chk.n),.str b.chk.s,.imm (b.chk.names.map AVal.str),.imm (b.chk.binds.map AVal.str),.imm (b.chk.kids.map Ex.enc),.int .i64 (b.chk.pos),.int .i64 (b.chk.fin)]] kq kq ?_
         refine wRet kq ?_
         refine AThen_ret ?_
         refine leafB (b:=false) (.inr rfl) kq ?_
         refine Eq.trans ?_ (show ((a.name==b.name) && (zipAll Co.beq a.cols b.cols && ((a.key==b.key) && (zipAll Rf.beq a.refs b.refs && a.chk.beq b.chk))))=a.beq b from rfl)
         first|(simp only [zipAll_len Co.beq a.cols b.cols oq,Bool.and_false,Bool.false_and];done)|(simp only [zipAll_len Rf.beq a.refs b.refs oq,Bool.and_false,Bool.false_and];done)|(rw [zipAll_true Co.beq Co.zero Co.zero a.cols b.cols oq (fun i hi=>hak i oq),zipAll_true Rf.beq Rf.zero Rf.zero a.refs b.refs oq (fun i hi=>haq i oq)];simp_all;done)|(rw [zipAll_at Rf.beq Rf.zero Rf.zero a.refs b.refs q oq oq (by simp_all)];simp;done)|(rw [zipAll_at Co.beq Co.zero Co.zero a.cols b.cols k oq oq (by simp_all [Co.beq])];simp;done)|(simp_all;done)
     · refine vset 31 (.bool (!(a.name==b.name))) (.bool true) (extO extThen) kq (congrArg AVal.bool (congrArg not (beq_eq_false_iff_ne.2 hb3))) ?_
       refine vset 32 (.bool (!(a.name==b.name))) (.bool true) (extO extThen) kq (congrArg AVal.bool (congrArg not (beq_eq_false_iff_ne.2 hb3))) ?_
       refine vset 33 (.bool (!(a.name==b.name))) (.bool true) (extO extThen) kq (congrArg AVal.bool (congrArg not (beq_eq_false_iff_ne.2 hb3))) ?_
       refine vrun 17 kq ?_
       refine vend kq ?_
       refine AThen_normal ?_
       refine wSt [2,3,50] [(2,.ptr 0 0),(3,.ptr 1 0),(50,.bool true)] [.box [.str a.name,.imm (a.cols.map Co.v),.imm (a.key.map AVal.str),.imm (a.refs.map Rf.v),.int .i64 (a.chk.kind),.str a.chk.name,.int .i64 (a.chk.n),.str a.chk.s,.imm (a.chk.names.map AVal.str),.imm (a.chk.binds.map AVal.str),.imm (a.chk.kids.map Ex.enc),.int .i64 (a.chk.pos),.int .i64 (a.chk.fin)],.box [.str b.name,.imm (b.cols.map Co.v),.imm (b.key.map AVal.str),.imm (b.refs.map Rf.v),.int .i64 (b.chk.kind),.str b.chk.name,.int .i64 (b.chk.n),.str b.chk.s,.imm (b.chk.names.map AVal.str),.imm (b.chk.binds.map AVal.str),.imm (b.chk.kids.map Ex.enc),.int .i64 (b.chk.pos),.int .i64 (b.chk.fin)]] kq kq ?_
       refine wIfT kq kq ?_
       refine wSeq kq ?_
       refine wOrd kq (vstart ?_)
       refine vrun 1 kq ?_
       refine vend kq ?_
       refine AThen_normal ?_
       refine wSt [4] [(4,.bool false)] [.box [.str a.name,.imm (a.cols.map Co.v),.imm (a.key.map AVal.str),.imm (a.refs.map Rf.v),.int .i64 (a.chk.kind),.str a.chk.name,.int .i64 (a.chk.n),.str a.chk.s,.imm (a.chk.names.map AVal.str),.imm (a.chk.binds.map AVal.str),.imm (a.chk.kids.map Ex.enc),.int .i64 (a.chk.pos),.int .i64 (a.chk.fin)],.box [.str b.name,.imm (b.cols.map Co.v),.imm (b.key.map AVal.str),.imm (b.refs.map Rf.v),.int .i64 (b.chk.kind),.str b.chk.name,.int .i64 (b.chk.n),.str b.chk.s,.imm (b.chk.names.map AVal.str),.imm (b.chk.binds.map AVal.str),.imm (b.chk.kids.map Ex.enc),.int .i64 (b.chk.pos),.int .i64 (b.chk.fin)]] kq kq ?_
       refine wRet kq ?_
       refine AThen_ret ?_
       refine leafB (b:=false) (.inr rfl) kq ?_
       refine Eq.trans ?_ (show ((a.name==b.name) && (zipAll Co.beq a.cols b.cols && ((a.key==b.key) && (zipAll Rf.beq a.refs b.refs && a.chk.beq b.chk))))=a.beq b from rfl)
       first|(simp only [zipAll_len Co.beq a.cols b.cols oq,Bool.and_false,Bool.false_and];done)|(simp only [zipAll_len Rf.beq a.refs b.refs oq,Bool.and_false,Bool.false_and];done)|(rw [zipAll_true Co.beq Co.zero Co.zero a.cols b.cols oq (fun i hi=>hak i oq),zipAll_true Rf.beq Rf.zero Rf.zero a.refs b.refs oq (fun i hi=>haq i oq)];simp_all;done)|(rw [zipAll_at Rf.beq Rf.zero Rf.zero a.refs b.refs q oq oq (by simp_all)];simp;done)|(rw [zipAll_at Co.beq Co.zero Co.zero a.cols b.cols k oq oq (by simp_all [Co.beq])];simp;done)|(simp_all;done)
   · refine vset 24 (.bool (!(a.chk.beq b.chk))) (.bool true) (extO extThen) kq (congrArg AVal.bool (congrArg not (Bool.eq_false_iff.2 hb2))) ?_
     refine vset 25 (.bool (!(a.chk.beq b.chk))) (.bool true) (extO extThen) kq (congrArg AVal.bool (congrArg not (Bool.eq_false_iff.2 hb2))) ?_
     refine vset 26 (.bool (!(a.chk.beq b.chk))) (.bool true) (extO extThen) kq (congrArg AVal.bool (congrArg not (Bool.eq_false_iff.2 hb2))) ?_
     refine vrun 24 kq ?_
     refine vend kq ?_
     refine AThen_normal ?_
     refine wSt [2,3,50] [(2,.ptr 0 0),(3,.ptr 1 0),(50,.bool true)] [.box [.str a.name,.imm (a.cols.map Co.v),.imm (a.key.map AVal.str),.imm (a.refs.map Rf.v),.int .i64 (a.chk.kind),.str a.chk.name,.int .i64 (a.chk.n),.str a.chk.s,.imm (a.chk.names.map AVal.str),.imm (a.chk.binds.map AVal.str),.imm (a.chk.kids.map Ex.enc),.int .i64 (a.chk.pos),.int .i64 (a.chk.fin)],.box [.str b.name,.imm (b.cols.map Co.v),.imm (b.key.map AVal.str),.imm (b.refs.map Rf.v),.int .i64 (b.chk.kind),.str b.chk.name,.int .i64 (b.chk.n),.str b.chk.s,.imm (b.chk.names.map AVal.str),.imm (b.chk.binds.map AVal.str),.imm (b.chk.kids.map Ex.enc),.int .i64 (b.chk.pos),.int .i64 (b.chk.fin)]] kq kq ?_
     refine wIfT kq kq ?_
     refine wSeq kq ?_
     refine wOrd kq (vstart ?_)
     refine vrun 1 kq ?_
     refine vend kq ?_
     refine AThen_normal ?_
     refine wSt [4] [(4,.bool false)] [.box [.str a.name,.imm (a.cols.map Co.v),.imm (a.key.map AVal.str),.imm (a.refs.map Rf.v),.int .i64 (a.chk.kind),.str a.chk.name,.int .i64 (a.chk.n),.str a.chk.s,.imm (a.chk.names.map AVal.str),.imm (a.chk.binds.map AVal.str),.imm (a.chk.kids.map Ex.enc),.int .i64 (a.chk.pos),.int .i64 (a.chk.fin)],.box [.str b.name,.imm (b.cols.map Co.v),.imm (b.key.map AVal.str),.imm (b.refs.map Rf.v),.int .i64 (b.chk.kind),.str b.chk.name,.int .i64 (b.chk.n),.str b.chk.s,.imm (b.chk.names.map AVal.str),.imm (b.chk.binds.map AVal.str),.imm (b.chk.kids.map Ex.enc),.int .i64 (b.chk.pos),.int .i64 (b.chk.fin)]] kq kq ?_
     refine wRet kq ?_
     refine AThen_ret ?_
     refine leafB (b:=false) (.inr rfl) kq ?_
     refine Eq.trans ?_ (show ((a.name==b.name) && (zipAll Co.beq a.cols b.cols && ((a.key==b.key) && (zipAll Rf.beq a.refs b.refs && a.chk.beq b.chk))))=a.beq b from rfl)
     first|(simp only [zipAll_len Co.beq a.cols b.cols oq,Bool.and_false,Bool.false_and];done)|(simp only [zipAll_len Rf.beq a.refs b.refs oq,Bool.and_false,Bool.false_and];done)|(rw [zipAll_true Co.beq Co.zero Co.zero a.cols b.cols oq (fun i hi=>hak i oq),zipAll_true Rf.beq Rf.zero Rf.zero a.refs b.refs oq (fun i hi=>haq i oq)];simp_all;done)|(rw [zipAll_at Rf.beq Rf.zero Rf.zero a.refs b.refs q oq oq (by simp_all)];simp;done)|(rw [zipAll_at Co.beq Co.zero Co.zero a.cols b.cols k oq oq (by simp_all [Co.beq])];simp;done)|(simp_all;done)
 · refine vset 21 (.bool (!(a.key==b.key))) (.bool true) (extO extThen) kq (congrArg AVal.bool (congrArg not (Bool.eq_false_iff.2 hb1))) ?_
   refine vset 22 (.bool (!(a.key==b.key))) (.bool true) (extO extThen) kq (congrArg AVal.bool (congrArg not (Bool.eq_false_iff.2 hb1))) ?_
   refine vrun 28 kq ?_
   refine vend kq ?_
   refine AThen_normal ?_
   refine wSt [2,3,50] [(2,.ptr 0 0),(3,.ptr 1 0),(50,.bool true)] [.box [.str a.name,.imm (a.cols.map Co.v),.imm (a.key.map AVal.str),.imm (a.refs.map Rf.v),.int .i64 (a.chk.kind),.str a.chk.name,.int .i64 (a.chk.n),.str a.chk.s,.imm (a.chk.names.map AVal.str),.imm (a.chk.binds.map AVal.str),.imm (a.chk.kids.map Ex.enc),.int .i64 (a.chk.pos),.int .i64 (a.chk.fin)],.box [.str b.name,.imm (b.cols.map Co.v),.imm (b.key.map AVal.str),.imm (b.refs.map Rf.v),.int .i64 (b.chk.kind),.str b.chk.name,.int .i64 (b.chk.n),.str b.chk.s,.imm (b.chk.names.map AVal.str),.imm (b.chk.binds.map AVal.str),.imm (b.chk.kids.map Ex.enc),.int .i64 (b.chk.pos),.int .i64 (b.chk.fin)]] kq kq ?_
   refine wIfT kq kq ?_
   refine wSeq kq ?_
   refine wOrd kq (vstart ?_)
   refine vrun 1 kq ?_
   refine vend kq ?_
   refine AThen_normal ?_
   refine wSt [4] [(4,.bool false)] [.box [.str a.name,.imm (a.cols.map Co.v),.imm (a.key.map AVal.str),.imm (a.refs.map Rf.v),.int .i64 (a.chk.kind),.str a.chk.name,.int .i64 (a.chk.n),.str a.chk.s,.imm (a.chk.names.map AVal.str),.imm (a.chk.binds.map AVal.str),.imm (a.chk.kids.map Ex.enc),.int .i64 (a.chk.pos),.int .i64 (a.chk.fin)],.box [.str b.name,.imm (b.cols.map Co.v),.imm (b.key.map AVal.str),.imm (b.refs.map Rf.v),.int .i64 (b.chk.kind),.str b.chk.name,.int .i64 (b.chk.n),.str b.chk.s,.imm (b.chk.names.map AVal.str),.imm (b.chk.binds.map AVal.str),.imm (b.chk.kids.map Ex.enc),.int .i64 (b.chk.pos),.int .i64 (b.chk.fin)]] kq kq ?_
   refine wRet kq ?_
   refine AThen_ret ?_
   refine leafB (b:=false) (.inr rfl) kq ?_
   refine Eq.trans ?_ (show ((a.name==b.name) && (zipAll Co.beq a.cols b.cols && ((a.key==b.key) && (zipAll Rf.beq a.refs b.refs && a.chk.beq b.chk))))=a.beq b from rfl)
   first|(simp only [zipAll_len Co.beq a.cols b.cols oq,Bool.and_false,Bool.false_and];done)|(simp only [zipAll_len Rf.beq a.refs b.refs oq,Bool.and_false,Bool.false_and];done)|(rw [zipAll_true Co.beq Co.zero Co.zero a.cols b.cols oq (fun i hi=>hak i oq),zipAll_true Rf.beq Rf.zero Rf.zero a.refs b.refs oq (fun i hi=>haq i oq)];simp_all;done)|(rw [zipAll_at Rf.beq Rf.zero Rf.zero a.refs b.refs q oq oq (by simp_all)];simp;done)|(rw [zipAll_at Co.beq Co.zero Co.zero a.cols b.cols k oq oq (by simp_all [Co.beq])];simp;done)|(simp_all;done)
end Go.Proofs.YtindpcpdkikdmaaGreatDoor
