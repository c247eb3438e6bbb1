/- The reference's Equal of sums. Condition: sizes that can be had. -/
import Derived.Test.YtindpcpdkikdmaaGreatDoorC6
set_option linter.all false
namespace Go.Proofs.YtindpcpdkikdmaaGreatDoor
open Go.Proofs.YtindpcpdkikdmaaGreatDoor.Abs
set_option maxRecDepth 20000
set_option maxHeartbeats 4000000
noncomputable def c37:Code:=bodyOf Tryz.f37
theorem smSame_spec (a b:Sm) (hs:a.sm):CallsP cx 37 [Sm.v a,Sm.v b] (.bool (a.beq b)):=by
 have hz1:=hs.1
 have hz2:∀ i,i<a.ctors.length→(a.ctors.getD i Ct.zero).arg.sz<100000000:=fun i h=>hs.2 _ (getD_mem _ _ _ h)
 refine func_intro (cx:=cx) 73 0 [(ResultVar.tmp 4)] Tryz.func37 rfl rfl rfl rfl rfl zq ?_
 show wpA cx 73 0 (at_ c37 []) _ _ _
 refine wSt [0,1] [(0,Sm.v a),(1,Sm.v b)] [] kq kq ?_
 refine wSeq kq ?_
 refine wOrd kq (vstart ?_)
 refine vrun 3 kq ?_
 refine vend kq ?_
 refine AThen_normal ?_
 refine wSt [2,3] [(2,.ptr 0 0),(3,.ptr 1 0)] [.box [.str a.name,.imm (a.ctors.map Ct.v)],.box [.str b.name,.imm (b.ctors.map Ct.v)]] kq kq ?_
 refine wSeq kq ?_
 refine wSeq kq ?_
 refine wOrd kq (vstart ?_)
 refine vrun 6 kq ?_
 by_cases hb1:a.name=b.name
 · refine vset 11 (.bool (!(a.name==b.name))) (.bool false) (extO extThen) kq (congrArg AVal.bool (congrArg not (beq_iff_eq.2 hb1))) ?_
   refine vset 12 (.bool (!(a.name==b.name))) (.bool false) (extO extThen) kq (congrArg AVal.bool (congrArg not (beq_iff_eq.2 hb1))) ?_
   refine vrun 2 kq ?_
   refine vsym kq kq (o_lenmap (l:=a.ctors) (enc:=Ct.v) kq ty44) ?_
   refine vrun 2 kq ?_
   refine vsym kq kq (o_lenmap (l:=b.ctors) (enc:=Ct.v) kq ty44) ?_
   refine vrun 2 kq ?_
   refine vend kq ?_
   refine AThen_normal ?_
   refine wSt [2,3,20] [(2,.ptr 0 0),(3,.ptr 1 0),(20,.bool (((a.ctors.length:Nat):Int) != ((b.ctors.length:Nat):Int)))] [.box [.str a.name,.imm (a.ctors.map Ct.v)],.box [.str b.name,.imm (b.ctors.map Ct.v)]] kq kq ?_
   by_cases hb2:((a.ctors.length:Nat):Int)=((b.ctors.length:Nat):Int)
   · refine wIfF kq (Eq.trans (b:=.bool (((a.ctors.length:Nat):Int) != ((b.ctors.length:Nat):Int))) kq (congrArg AVal.bool (bne_eq_false_iff_eq.2 hb2))) ?_
     refine wSkip kq ?_
     refine AThen_normal ?_
     refine wSt [2,3] [(2,.ptr 0 0),(3,.ptr 1 0)] [.box [.str a.name,.imm (a.ctors.map Ct.v)],.box [.str b.name,.imm (b.ctors.map Ct.v)]] kq kq ?_
     refine wSeq kq ?_
     refine wSeq kq ?_
     refine wOrd kq (vstart ?_)
     refine vrun 1 kq ?_
     refine vend kq ?_
     refine AThen_normal ?_
     refine wSt [2,3,5] [(2,.ptr 0 0),(3,.ptr 1 0),(5,.int .i64 0)] [.box [.str a.name,.imm (a.ctors.map Ct.v)],.box [.str b.name,.imm (b.ctors.map Ct.v)]] kq kq ?_
     refine wBlock 0 kq kq ?_
     refine wLoop (σ:=Nat) (fun k=>[(2,.ptr 0 0),(3,.ptr 1 0),(5,.int .i64 ((k:Nat):Int))]) (fun k=>[.box [.str a.name,.imm (a.ctors.map Ct.v)],.box [.str b.name,.imm (b.ctors.map Ct.v)]]) (fun k=>k≤a.ctors.length∧∀ i,i<k→(a.ctors.getD i Ct.zero).beq (b.ctors.getD i Ct.zero)=true) (fun k=>a.ctors.length - k) 0 kq zq ⟨⟨kq,kq,kq,trivial⟩,by simp [BelL,AVal.bel],by simp,kq,by simp [AObj.belO]⟩ ?_
     rintro k ⟨hk,ha⟩
     refine wSeq kq ?_
     refine wSeq kq ?_
     refine wOrd kq (vstart ?_)
     refine vrun 3 kq ?_
     refine vsym kq kq (o_lenmap (l:=a.ctors) (enc:=Ct.v) kq ty44) ?_
     refine vrun 1 kq ?_
     refine vend kq ?_
     refine AThen_normal ?_
     refine wSt [2,3,5,25] [(2,.ptr 0 0),(3,.ptr 1 0),(5,.int .i64 ((k:Nat):Int)),(25,.bool (decide (((k:Nat):Int)<((a.ctors.length:Nat):Int))))] [.box [.str a.name,.imm (a.ctors.map Ct.v)],.box [.str b.name,.imm (b.ctors.map Ct.v)]] kq kq ?_
     by_cases hb3:((k:Nat):Int)<((a.ctors.length:Nat):Int)
     · refine wIfT kq (Eq.trans (b:=.bool (decide (((k:Nat):Int)<((a.ctors.length:Nat):Int)))) kq (congrArg AVal.bool (decide_eq_true hb3))) ?_
       refine wSkip kq ?_
       refine AThen_normal ?_
       refine wSt [2,3,5] [(2,.ptr 0 0),(3,.ptr 1 0),(5,.int .i64 ((k:Nat):Int))] [.box [.str a.name,.imm (a.ctors.map Ct.v)],.box [.str b.name,.imm (b.ctors.map Ct.v)]] kq kq ?_
       refine wSeq kq ?_
       refine wBlock 1 kq kq ?_
       refine wSeq kq ?_
       refine wDrw cxM kq extThen (dstart ?_)
       refine drun 3 kq ?_
       refine dsym kq kq kq ((o_ixmap (k:=.i64) (l:=a.ctors) (enc:=Ct.v) (i:=((k:Nat):Int)) Ct.zero kq ty44 ty60 (fun _=>rfl) (by first|omega|exact hz2 k oq) (by first|omega|exact hz2 k oq)).trans (congrArg (fun cs=>some (AVal.pimm cs 0,_)) (ct_cells (a.ctors.getD k Ct.zero)))) ?_
       refine drun 5 kq ?_
       refine dsym kq kq kq ((o_ixmap (k:=.i64) (l:=b.ctors) (enc:=Ct.v) (i:=((k:Nat):Int)) Ct.zero kq ty44 ty60 (fun _=>rfl) (by first|omega|exact hz2 k oq) (by first|omega|exact hz2 k oq)).trans (congrArg (fun cs=>some (AVal.pimm cs 0,_)) (ct_cells (b.ctors.getD k Ct.zero)))) ?_
       refine drun 2 kq ?_
       refine dcallP (args:=[.agg [.int .i64 ((a.ctors.getD k Ct.zero).arg.kind),.str (a.ctors.getD k Ct.zero).arg.name,.int .i64 ((a.ctors.getD k Ct.zero).arg.n),.imm ((a.ctors.getD k Ct.zero).arg.names.map AVal.str),.imm ((a.ctors.getD k Ct.zero).arg.kids.map Ty.enc)],.agg [.int .i64 ((b.ctors.getD k Ct.zero).arg.kind),.str (b.ctors.getD k Ct.zero).arg.name,.int .i64 ((b.ctors.getD k Ct.zero).arg.n),.imm ((b.ctors.getD k Ct.zero).arg.names.map AVal.str),.imm ((b.ctors.getD k Ct.zero).arg.kids.map Ty.enc)]]) kq kq kq kq kq (rEqual_spec ((a.ctors.getD k Ct.zero).arg) ((b.ctors.getD k Ct.zero).arg) (by first|omega|exact hz2 k oq)) (by intro _;simp [Ty.v,Ex.v,Ct.v,Co.v,Rf.v,Sm.v,Tb.v]) (by simp [Ty.v,Ex.v,Ct.v,Co.v,Rf.v,Sm.v,Tb.v]) (by simp [Ty.v,Ex.v,Ct.v,Co.v,Rf.v,Sm.v,Tb.v]) ?_
       refine drun 1 kq ?_
       refine dend kq ⟨kq,?_⟩
       refine AThen_normal ?_
       refine wSt [2,3,5,6] [(2,.ptr 0 0),(3,.ptr 1 0),(5,.int .i64 ((k:Nat):Int)),(6,.bool (((a.ctors.getD k Ct.zero).arg).beq ((b.ctors.getD k Ct.zero).arg)))] [.box [.str a.name,.imm (a.ctors.map Ct.v)],.box [.str b.name,.imm (b.ctors.map Ct.v)]] kq kq ?_
       refine wSeq kq ?_
       refine wDrw cxM kq extThen (dstart ?_)
       refine drun 3 kq ?_
       by_cases hb4:(((a.ctors.getD k Ct.zero).arg).beq ((b.ctors.getD k Ct.zero).arg))=true
       · refine dset 42 (.bool (!(((a.ctors.getD k Ct.zero).arg).beq ((b.ctors.getD k Ct.zero).arg)))) (.bool false) (extD extThen) kq (congrArg AVal.bool (congrArg not (hb4))) ?_
         refine dset 43 (.bool (!(((a.ctors.getD k Ct.zero).arg).beq ((b.ctors.getD k Ct.zero).arg)))) (.bool false) (extD extThen) kq (congrArg AVal.bool (congrArg not (hb4))) ?_
         refine drun 3 kq ?_
         refine dsym kq kq kq ((o_ixmap (k:=.i64) (l:=a.ctors) (enc:=Ct.v) (i:=((k:Nat):Int)) Ct.zero kq ty44 ty60 (fun _=>rfl) (by first|omega|exact hz2 k oq) (by first|omega|exact hz2 k oq)).trans (congrArg (fun cs=>some (AVal.pimm cs 0,_)) (ct_cells (a.ctors.getD k Ct.zero)))) ?_
         refine drun 5 kq ?_
         refine dsym kq kq kq ((o_ixmap (k:=.i64) (l:=b.ctors) (enc:=Ct.v) (i:=((k:Nat):Int)) Ct.zero kq ty44 ty60 (fun _=>rfl) (by first|omega|exact hz2 k oq) (by first|omega|exact hz2 k oq)).trans (congrArg (fun cs=>some (AVal.pimm cs 0,_)) (ct_cells (b.ctors.getD k Ct.zero)))) ?_
         refine drun 5 kq ?_
         by_cases hb5:(a.ctors.getD k Ct.zero).name=(b.ctors.getD k Ct.zero).name
         · refine dset 56 (.bool (!((a.ctors.getD k Ct.zero).name==(b.ctors.getD k Ct.zero).name))) (.bool false) (extD extThen) kq (congrArg AVal.bool (congrArg not (beq_iff_eq.2 hb5))) ?_
           refine dset 57 (.bool (!((a.ctors.getD k Ct.zero).name==(b.ctors.getD k Ct.zero).name))) (.bool false) (extD extThen) kq (congrArg AVal.bool (congrArg not (beq_iff_eq.2 hb5))) ?_
           refine dset 58 (.bool (!((a.ctors.getD k Ct.zero).name==(b.ctors.getD k Ct.zero).name))) (.bool false) (extD extThen) kq (congrArg AVal.bool (congrArg not (beq_iff_eq.2 hb5))) ?_
           refine drun 3 kq ?_
           refine dsym kq kq kq ((o_ixmap (k:=.i64) (l:=a.ctors) (enc:=Ct.v) (i:=((k:Nat):Int)) Ct.zero kq ty44 ty60 (fun _=>rfl) (by first|omega|exact hz2 k oq) (by first|omega|exact hz2 k oq)).trans (congrArg (fun cs=>some (AVal.pimm cs 0,_)) (ct_cells (a.ctors.getD k Ct.zero)))) ?_
           refine drun 5 kq ?_
           refine dsym kq kq kq ((o_ixmap (k:=.i64) (l:=b.ctors) (enc:=Ct.v) (i:=((k:Nat):Int)) Ct.zero kq ty44 ty60 (fun _=>rfl) (by first|omega|exact hz2 k oq) (by first|omega|exact hz2 k oq)).trans (congrArg (fun cs=>some (AVal.pimm cs 0,_)) (ct_cells (b.ctors.getD k Ct.zero)))) ?_
           refine drun 4 kq ?_
           refine dend kq ⟨kq,?_⟩
           refine AThen_normal ?_
           refine wSt [2,3,5,44,45,46,47,48,49,50,51,52,53,54,55,56,59,60,61,62,63,64,65,66,67,68,69,70,71,72] [(2,.ptr 0 0),(3,.ptr 1 0),(5,.int .i64 ((k:Nat):Int)),(44,.ptr 0 1),(45,.imm (a.ctors.map Ct.v)),(46,.int .i64 ((k:Nat):Int)),(47,.pimm [.str (a.ctors.getD k Ct.zero).name,.bool ((a.ctors.getD k Ct.zero).has),.int .i64 ((a.ctors.getD k Ct.zero).arg.kind),.str (a.ctors.getD k Ct.zero).arg.name,.int .i64 ((a.ctors.getD k Ct.zero).arg.n),.imm ((a.ctors.getD k Ct.zero).arg.names.map AVal.str),.imm ((a.ctors.getD k Ct.zero).arg.kids.map Ty.enc)] 0),(48,.pimm [.str (a.ctors.getD k Ct.zero).name,.bool ((a.ctors.getD k Ct.zero).has),.int .i64 ((a.ctors.getD k Ct.zero).arg.kind),.str (a.ctors.getD k Ct.zero).arg.name,.int .i64 ((a.ctors.getD k Ct.zero).arg.n),.imm ((a.ctors.getD k Ct.zero).arg.names.map AVal.str),.imm ((a.ctors.getD k Ct.zero).arg.kids.map Ty.enc)] 0),(49,.str (a.ctors.getD k Ct.zero).name),(50,.ptr 1 1),(51,.imm (b.ctors.map Ct.v)),(52,.int .i64 ((k:Nat):Int)),(53,.pimm [.str (b.ctors.getD k Ct.zero).name,.bool ((b.ctors.getD k Ct.zero).has),.int .i64 ((b.ctors.getD k Ct.zero).arg.kind),.str (b.ctors.getD k Ct.zero).arg.name,.int .i64 ((b.ctors.getD k Ct.zero).arg.n),.imm ((b.ctors.getD k Ct.zero).arg.names.map AVal.str),.imm ((b.ctors.getD k Ct.zero).arg.kids.map Ty.enc)] 0),(54,.pimm [.str (b.ctors.getD k Ct.zero).name,.bool ((b.ctors.getD k Ct.zero).has),.int .i64 ((b.ctors.getD k Ct.zero).arg.kind),.str (b.ctors.getD k Ct.zero).arg.name,.int .i64 ((b.ctors.getD k Ct.zero).arg.n),.imm ((b.ctors.getD k Ct.zero).arg.names.map AVal.str),.imm ((b.ctors.getD k Ct.zero).arg.kids.map Ty.enc)] 0),(55,.str (b.ctors.getD k Ct.zero).name),(56,.bool false),(59,.ptr 0 1),(60,.imm (a.ctors.map Ct.v)),(61,.int .i64 ((k:Nat):Int)),(62,.pimm [.str (a.ctors.getD k Ct.zero).name,.bool ((a.ctors.getD k Ct.zero).has),.int .i64 ((a.ctors.getD k Ct.zero).arg.kind),.str (a.ctors.getD k Ct.zero).arg.name,.int .i64 ((a.ctors.getD k Ct.zero).arg.n),.imm ((a.ctors.getD k Ct.zero).arg.names.map AVal.str),.imm ((a.ctors.getD k Ct.zero).arg.kids.map Ty.enc)] 0),(63,.pimm [.str (a.ctors.getD k Ct.zero).name,.bool ((a.ctors.getD k Ct.zero).has),.int .i64 ((a.ctors.getD k Ct.zero).arg.kind),.str (a.ctors.getD k Ct.zero).arg.name,.int .i64 ((a.ctors.getD k Ct.zero).arg.n),.imm ((a.ctors.getD k Ct.zero).arg.names.map AVal.str),.imm ((a.ctors.getD k Ct.zero).arg.kids.map Ty.enc)] 1),(64,.bool ((a.ctors.getD k Ct.zero).has)),(65,.ptr 1 1),(66,.imm (b.ctors.map Ct.v)),(67,.int .i64 ((k:Nat):Int)),(68,.pimm [.str (b.ctors.getD k Ct.zero).name,.bool ((b.ctors.getD k Ct.zero).has),.int .i64 ((b.ctors.getD k Ct.zero).arg.kind),.str (b.ctors.getD k Ct.zero).arg.name,.int .i64 ((b.ctors.getD k Ct.zero).arg.n),.imm ((b.ctors.getD k Ct.zero).arg.names.map AVal.str),.imm ((b.ctors.getD k Ct.zero).arg.kids.map Ty.enc)] 0),(69,.pimm [.str (b.ctors.getD k Ct.zero).name,.bool ((b.ctors.getD k Ct.zero).has),.int .i64 ((b.ctors.getD k Ct.zero).arg.kind),.str (b.ctors.getD k Ct.zero).arg.name,.int .i64 ((b.ctors.getD k Ct.zero).arg.n),.imm ((b.ctors.getD k Ct.zero).arg.names.map AVal.str),.imm ((b.ctors.getD k Ct.zero).arg.kids.map Ty.enc)] 1),(70,.bool ((b.ctors.getD k Ct.zero).has)),(71,.bool (!(((a.ctors.getD k Ct.zero).has)==((b.ctors.getD k Ct.zero).has)))),(72,.bool (!(((a.ctors.getD k Ct.zero).has)==((b.ctors.getD k Ct.zero).has))))] [.box [.str a.name,.imm (a.ctors.map Ct.v)],.box [.str b.name,.imm (b.ctors.map Ct.v)]] kq kq ?_
           by_cases hb6:(!(((a.ctors.getD k Ct.zero).has)==((b.ctors.getD k Ct.zero).has)))=true
           · refine wIfT kq (Eq.trans (b:=.bool (!(((a.ctors.getD k Ct.zero).has)==((b.ctors.getD k Ct.zero).has)))) kq (congrArg AVal.bool (hb6))) ?_
             refine wSeq kq ?_
             refine wOrd kq (vstart ?_)
             refine vrun 1 kq ?_
             refine vend kq ?_
             refine AThen_normal ?_
             refine wSt [4] [(4,.bool false)] [.box [.str a.name,.imm (a.ctors.map Ct.v)],.box [.str b.name,.imm (b.ctors.map Ct.v)]] kq kq ?_
             refine wRet kq ?_
             refine AIn_ret ?_
             refine AThen_ret ?_
             refine AThen_ret ?_
             refine AIn_ret ?_
             refine AThen_ret ?_
             refine leafB (b:=false) (.inr rfl) kq ?_
             refine Eq.trans ?_ (show ((a.name==b.name) && zipAll Ct.beq a.ctors b.ctors)=a.beq b from rfl)
             first|(simp only [zipAll_len Ct.beq a.ctors b.ctors oq,Bool.and_false];done)|(rw [zipAll_true Ct.beq Ct.zero Ct.zero a.ctors b.ctors oq (fun i hi=>ha i oq)];simp_all;done)|(rw [zipAll_at Ct.beq Ct.zero Ct.zero a.ctors b.ctors k oq oq (by simp_all [Ct.beq])];simp;done)|(simp_all;done)
           · refine wIfF kq (Eq.trans (b:=.bool (!(((a.ctors.getD k Ct.zero).has)==((b.ctors.getD k Ct.zero).has)))) kq (congrArg AVal.bool (Bool.eq_false_iff.2 hb6))) ?_
             refine wSkip kq ?_
             refine AIn_normal ?_
             refine AThen_normal ?_
             refine wSt [2,3,5,44,45,46,47,48,49,50,51,52,53,54,55,56,59,60,61,62,63,64,65,66,67,68,69,70,71] [(2,.ptr 0 0),(3,.ptr 1 0),(5,.int .i64 ((k:Nat):Int)),(44,.ptr 0 1),(45,.imm (a.ctors.map Ct.v)),(46,.int .i64 ((k:Nat):Int)),(47,.pimm [.str (a.ctors.getD k Ct.zero).name,.bool ((a.ctors.getD k Ct.zero).has),.int .i64 ((a.ctors.getD k Ct.zero).arg.kind),.str (a.ctors.getD k Ct.zero).arg.name,.int .i64 ((a.ctors.getD k Ct.zero).arg.n),.imm ((a.ctors.getD k Ct.zero).arg.names.map AVal.str),.imm ((a.ctors.getD k Ct.zero).arg.kids.map Ty.enc)] 0),(48,.pimm [.str (a.ctors.getD k Ct.zero).name,.bool ((a.ctors.getD k Ct.zero).has),.int .i64 ((a.ctors.getD k Ct.zero).arg.kind),.str (a.ctors.getD k Ct.zero).arg.name,.int .i64 ((a.ctors.getD k Ct.zero).arg.n),.imm ((a.ctors.getD k Ct.zero).arg.names.map AVal.str),.imm ((a.ctors.getD k Ct.zero).arg.kids.map Ty.enc)] 0),(49,.str (a.ctors.getD k Ct.zero).name),(50,.ptr 1 1),(51,.imm (b.ctors.map Ct.v)),(52,.int .i64 ((k:Nat):Int)),(53,.pimm [.str (b.ctors.getD k Ct.zero).name,.bool ((b.ctors.getD k Ct.zero).has),.int .i64 ((b.ctors.getD k Ct.zero).arg.kind),.str (b.ctors.getD k Ct.zero).arg.name,.int .i64 ((b.ctors.getD k Ct.zero).arg.n),.imm ((b.ctors.getD k Ct.zero).arg.names.map AVal.str),.imm ((b.ctors.getD k Ct.zero).arg.kids.map Ty.enc)] 0),(54,.pimm [.str (b.ctors.getD k Ct.zero).name,.bool ((b.ctors.getD k Ct.zero).has),.int .i64 ((b.ctors.getD k Ct.zero).arg.kind),.str (b.ctors.getD k Ct.zero).arg.name,.int .i64 ((b.ctors.getD k Ct.zero).arg.n),.imm ((b.ctors.getD k Ct.zero).arg.names.map AVal.str),.imm ((b.ctors.getD k Ct.zero).arg.kids.map Ty.enc)] 0),(55,.str (b.ctors.getD k Ct.zero).name),(56,.bool false),(59,.ptr 0 1),(60,.imm (a.ctors.map Ct.v)),(61,.int .i64 ((k:Nat):Int)),(62,.pimm [.str (a.ctors.getD k Ct.zero).name,.bool ((a.ctors.getD k Ct.zero).has),.int .i64 ((a.ctors.getD k Ct.zero).arg.kind),.str (a.ctors.getD k Ct.zero).arg.name,.int .i64 ((a.ctors.getD k Ct.zero).arg.n),.imm ((a.ctors.getD k Ct.zero).arg.names.map AVal.str),.imm ((a.ctors.getD k Ct.zero).arg.kids.map Ty.enc)] 0),(63,.pimm [.str (a.ctors.getD k Ct.zero).name,.bool ((a.ctors.getD k Ct.zero).has),.int .i64 ((a.ctors.getD k Ct.zero).arg.kind),.str (a.ctors.getD k Ct.zero).arg.name,.int .i64 ((a.ctors.getD k Ct.zero).arg.n),.imm ((a.ctors.getD k Ct.zero).arg.names.map AVal.str),.imm ((a.ctors.getD k Ct.zero).arg.kids.map Ty.enc)] 1),(64,.bool ((a.ctors.getD k Ct.zero).has)),(65,.ptr 1 1),(66,.imm (b.ctors.map Ct.v)),(67,.int .i64 ((k:Nat):Int)),(68,.pimm [.str (b.ctors.getD k Ct.zero).name,.bool ((b.ctors.getD k Ct.zero).has),.int .i64 ((b.ctors.getD k Ct.zero).arg.kind),.str (b.ctors.getD k Ct.zero).arg.name,.int .i64 ((b.ctors.getD k Ct.zero).arg.n),.imm ((b.ctors.getD k Ct.zero).arg.names.map AVal.str),.imm ((b.ctors.getD k Ct.zero).arg.kids.map Ty.enc)] 0),(69,.pimm [.str (b.ctors.getD k Ct.zero).name,.bool ((b.ctors.getD k Ct.zero).has),.int .i64 ((b.ctors.getD k Ct.zero).arg.kind),.str (b.ctors.getD k Ct.zero).arg.name,.int .i64 ((b.ctors.getD k Ct.zero).arg.n),.imm ((b.ctors.getD k Ct.zero).arg.names.map AVal.str),.imm ((b.ctors.getD k Ct.zero).arg.kids.map Ty.enc)] 1),(70,.bool ((b.ctors.getD k Ct.zero).has)),(71,.bool (!(((a.ctors.getD k Ct.zero).has)==((b.ctors.getD k Ct.zero).has))))] [.box [.str a.name,.imm (a.ctors.map Ct.v)],.box [.str b.name,.imm (b.ctors.map Ct.v)]] kq kq ?_
             refine wOrd kq (vstart ?_)
             refine vrun 1 kq ?_
             refine vsym kq kq (o_add (a:=((k:Nat):Int)) (b:=1) kq (by first|omega|exact hz2 k oq) (by first|omega|exact hz2 k oq)) ?_
             refine vrun 1 kq ?_
             refine vend kq ?_
             refine AThen_normal ⟨k+1,?_,?_,⟨⟨kq,kq,kq,trivial⟩,by simp [BelL,AVal.bel],by simp,kq,by simp [AObj.belO]⟩⟩
             · omega
             · refine ⟨by omega,fun i hi=>?_⟩
               rcases Nat.lt_succ_iff_lt_or_eq.1 hi with h|h
               · exact ha i h
               · subst h;simp_all [Ct.beq]
         · refine dset 56 (.bool (!((a.ctors.getD k Ct.zero).name==(b.ctors.getD k Ct.zero).name))) (.bool true) (extD extThen) kq (congrArg AVal.bool (congrArg not (beq_eq_false_iff_ne.2 hb5))) ?_
           refine dset 57 (.bool (!((a.ctors.getD k Ct.zero).name==(b.ctors.getD k Ct.zero).name))) (.bool true) (extD extThen) kq (congrArg AVal.bool (congrArg not (beq_eq_false_iff_ne.2 hb5))) ?_
           refine dset 58 (.bool (!((a.ctors.getD k Ct.zero).name==(b.ctors.getD k Ct.zero).name))) (.bool true) (extD extThen) kq (congrArg AVal.bool (congrArg not (beq_eq_false_iff_ne.2 hb5))) ?_
           refine drun 14 kq ?_
           refine dend kq ⟨kq,?_⟩
           refine AThen_normal ?_
           refine wSt [2,3,5,44,45,46,47,48,49,50,51,52,53,54,55,56,59,60,61,62,63,64,65,66,67,68,69,70,71,72] [(2,.ptr 0 0),(3,.ptr 1 0),(5,.int .i64 ((k:Nat):Int)),(44,.ptr 0 1),(45,.imm (a.ctors.map Ct.v)),(46,.int .i64 ((k:Nat):Int)),(47,.pimm [.str (a.ctors.getD k Ct.zero).name,.bool ((a.ctors.getD k Ct.zero).has),.int .i64 ((a.ctors.getD k Ct.zero).arg.kind),.str (a.ctors.getD k Ct.zero).arg.name,.int .i64 ((a.ctors.getD k Ct.zero).arg.n),.imm ((a.ctors.getD k Ct.zero).arg.names.map AVal.str),.imm ((a.ctors.getD k Ct.zero).arg.kids.map Ty.enc)] 0),(48,.pimm [.str (a.ctors.getD k Ct.zero).name,.bool ((a.ctors.getD k Ct.zero).has),.int .i64 ((a.ctors.getD k Ct.zero).arg.kind),.str (a.ctors.getD k Ct.zero).arg.name,.int .i64 ((a.ctors.getD k Ct.zero).arg.n),.imm ((a.ctors.getD k Ct.zero).arg.names.map AVal.str),.imm ((a.ctors.getD k Ct.zero).arg.kids.map Ty.enc)] 0),(49,.str (a.ctors.getD k Ct.zero).name),(50,.ptr 1 1),(51,.imm (b.ctors.map Ct.v)),(52,.int .i64 ((k:Nat):Int)),(53,.pimm [.str (b.ctors.getD k Ct.zero).name,.bool ((b.ctors.getD k Ct.zero).has),.int .i64 ((b.ctors.getD k Ct.zero).arg.kind),.str (b.ctors.getD k Ct.zero).arg.name,.int .i64 ((b.ctors.getD k Ct.zero).arg.n),.imm ((b.ctors.getD k Ct.zero).arg.names.map AVal.str),.imm ((b.ctors.getD k Ct.zero).arg.kids.map Ty.enc)] 0),(54,.pimm [.str (b.ctors.getD k Ct.zero).name,.bool ((b.ctors.getD k Ct.zero).has),.int .i64 ((b.ctors.getD k Ct.zero).arg.kind),.str (b.ctors.getD k Ct.zero).arg.name,.int .i64 ((b.ctors.getD k Ct.zero).arg.n),.imm ((b.ctors.getD k Ct.zero).arg.names.map AVal.str),.imm ((b.ctors.getD k Ct.zero).arg.kids.map Ty.enc)] 0),(55,.str (b.ctors.getD k Ct.zero).name),(56,.bool true),(59,.tup []),(60,.tup []),(61,.tup []),(62,.tup []),(63,.tup []),(64,.tup []),(65,.tup []),(66,.tup []),(67,.tup []),(68,.tup []),(69,.tup []),(70,.tup []),(71,.tup []),(72,.bool true)] [.box [.str a.name,.imm (a.ctors.map Ct.v)],.box [.str b.name,.imm (b.ctors.map Ct.v)]] kq kq ?_
           refine wIfT kq kq ?_
           refine wSeq kq ?_
           refine wOrd kq (vstart ?_)
           refine vrun 1 kq ?_
           refine vend kq ?_
           refine AThen_normal ?_
           refine wSt [4] [(4,.bool false)] [.box [.str a.name,.imm (a.ctors.map Ct.v)],.box [.str b.name,.imm (b.ctors.map Ct.v)]] kq kq ?_
           refine wRet kq ?_
           refine AIn_ret ?_
           refine AThen_ret ?_
           refine AThen_ret ?_
           refine AIn_ret ?_
           refine AThen_ret ?_
           refine leafB (b:=false) (.inr rfl) kq ?_
           refine Eq.trans ?_ (show ((a.name==b.name) && zipAll Ct.beq a.ctors b.ctors)=a.beq b from rfl)
           first|(simp only [zipAll_len Ct.beq a.ctors b.ctors oq,Bool.and_false];done)|(rw [zipAll_true Ct.beq Ct.zero Ct.zero a.ctors b.ctors oq (fun i hi=>ha i oq)];simp_all;done)|(rw [zipAll_at Ct.beq Ct.zero Ct.zero a.ctors b.ctors k oq oq (by simp_all [Ct.beq])];simp;done)|(simp_all;done)
       · refine dset 42 (.bool (!(((a.ctors.getD k Ct.zero).arg).beq ((b.ctors.getD k Ct.zero).arg)))) (.bool true) (extD extThen) kq (congrArg AVal.bool (congrArg not (Bool.eq_false_iff.2 hb4))) ?_
         refine dset 43 (.bool (!(((a.ctors.getD k Ct.zero).arg).beq ((b.ctors.getD k Ct.zero).arg)))) (.bool true) (extD extThen) kq (congrArg AVal.bool (congrArg not (Bool.eq_false_iff.2 hb4))) ?_
         refine drun 29 kq ?_
         refine dend kq ⟨kq,?_⟩
         refine AThen_normal ?_
         refine wSt [2,3,5,44,45,46,47,48,49,50,51,52,53,54,55,56,59,60,61,62,63,64,65,66,67,68,69,70,71,72] [(2,.ptr 0 0),(3,.ptr 1 0),(5,.int .i64 ((k:Nat):Int)),(44,.tup []),(45,.tup []),(46,.tup []),(47,.tup []),(48,.tup []),(49,.tup []),(50,.tup []),(51,.tup []),(52,.tup []),(53,.tup []),(54,.tup []),(55,.tup []),(56,.tup []),(59,.tup []),(60,.tup []),(61,.tup []),(62,.tup []),(63,.tup []),(64,.tup []),(65,.tup []),(66,.tup []),(67,.tup []),(68,.tup []),(69,.tup []),(70,.tup []),(71,.tup []),(72,.bool true)] [.box [.str a.name,.imm (a.ctors.map Ct.v)],.box [.str b.name,.imm (b.ctors.map Ct.v)]] kq kq ?_
         refine wIfT kq kq ?_
         refine wSeq kq ?_
         refine wOrd kq (vstart ?_)
         refine vrun 1 kq ?_
         refine vend kq ?_
         refine AThen_normal ?_
         refine wSt [4] [(4,.bool false)] [.box [.str a.name,.imm (a.ctors.map Ct.v)],.box [.str b.name,.imm (b.ctors.map Ct.v)]] kq kq ?_
         refine wRet kq ?_
         refine AIn_ret ?_
         refine AThen_ret ?_
         refine AThen_ret ?_
         refine AIn_ret ?_
         refine AThen_ret ?_
         refine leafB (b:=false) (.inr rfl) kq ?_
         refine Eq.trans ?_ (show ((a.name==b.name) && zipAll Ct.beq a.ctors b.ctors)=a.beq b from rfl)
         first|(simp only [zipAll_len Ct.beq a.ctors b.ctors oq,Bool.and_false];done)|(rw [zipAll_true Ct.beq Ct.zero Ct.zero a.ctors b.ctors oq (fun i hi=>ha i oq)];simp_all;done)|(rw [zipAll_at Ct.beq Ct.zero Ct.zero a.ctors b.ctors k oq oq (by simp_all [Ct.beq])];simp;done)|(simp_all;done)
     · refine wIfF kq (Eq.trans (b:=.bool (decide (((k:Nat):Int)<((a.ctors.length:Nat):Int)))) kq (congrArg AVal.bool (decide_eq_false hb3))) ?_
       refine wExit 0 kq kq ?_
       refine AThen_exit ?_
       refine AThen_exit ?_
       refine AIn_exit ?_
       refine AThen_normal ?_
       refine wSt [] [] [.box [.str a.name,.imm (a.ctors.map Ct.v)],.box [.str b.name,.imm (b.ctors.map Ct.v)]] kq kq ?_
       refine wSeq kq ?_
       refine wOrd kq (vstart ?_)
       refine vrun 1 kq ?_
       refine vend kq ?_
       refine AThen_normal ?_
       refine wSt [4] [(4,.bool true)] [.box [.str a.name,.imm (a.ctors.map Ct.v)],.box [.str b.name,.imm (b.ctors.map Ct.v)]] kq kq ?_
       refine wRet kq ?_
       refine leafB (b:=true) (.inr rfl) kq ?_
       refine Eq.trans ?_ (show ((a.name==b.name) && zipAll Ct.beq a.ctors b.ctors)=a.beq b from rfl)
       first|(simp only [zipAll_len Ct.beq a.ctors b.ctors oq,Bool.and_false];done)|(rw [zipAll_true Ct.beq Ct.zero Ct.zero a.ctors b.ctors oq (fun i hi=>ha i oq)];simp_all;done)|(rw [zipAll_at Ct.beq Ct.zero Ct.zero a.ctors b.ctors k oq oq (by simp_all [Ct.beq])];simp;done)|(simp_all;done)
   · refine wIfT kq (Eq.trans (b:=.bool (((a.ctors.length:Nat):Int) != ((b.ctors.length:Nat):Int))) kq (congrArg AVal.bool (bne_iff_ne.2 hb2))) ?_
     refine wSeq kq ?_
     refine wOrd kq (vstart ?_)
     refine vrun 1 kq ?_
     refine vend kq ?_
     refine AThen_normal ?_
     refine wSt [4] [(4,.bool false)] [.box [.str a.name,.imm (a.ctors.map Ct.v)],.box [.str b.name,.imm (b.ctors.map Ct.v)]] kq kq ?_
     refine wRet kq ?_
     refine AThen_ret ?_
     refine leafB (b:=false) (.inr rfl) kq ?_
     refine Eq.trans ?_ (show ((a.name==b.name) && zipAll Ct.beq a.ctors b.ctors)=a.beq b from rfl)
     first|(simp only [zipAll_len Ct.beq a.ctors b.ctors oq,Bool.and_false];done)|(rw [zipAll_true Ct.beq Ct.zero Ct.zero a.ctors b.ctors oq (fun i hi=>ha i oq)];simp_all;done)|(rw [zipAll_at Ct.beq Ct.zero Ct.zero a.ctors b.ctors k oq oq (by simp_all [Ct.beq])];simp;done)|(simp_all;done)
 · refine vset 11 (.bool (!(a.name==b.name))) (.bool true) (extO extThen) kq (congrArg AVal.bool (congrArg not (beq_eq_false_iff_ne.2 hb1))) ?_
   refine vset 12 (.bool (!(a.name==b.name))) (.bool true) (extO extThen) kq (congrArg AVal.bool (congrArg not (beq_eq_false_iff_ne.2 hb1))) ?_
   refine vrun 8 kq ?_
   refine vend kq ?_
   refine AThen_normal ?_
   refine wSt [2,3,20] [(2,.ptr 0 0),(3,.ptr 1 0),(20,.bool true)] [.box [.str a.name,.imm (a.ctors.map Ct.v)],.box [.str b.name,.imm (b.ctors.map Ct.v)]] kq kq ?_
   refine wIfT kq kq ?_
   refine wSeq kq ?_
   refine wOrd kq (vstart ?_)
   refine vrun 1 kq ?_
   refine vend kq ?_
   refine AThen_normal ?_
   refine wSt [4] [(4,.bool false)] [.box [.str a.name,.imm (a.ctors.map Ct.v)],.box [.str b.name,.imm (b.ctors.map Ct.v)]] kq kq ?_
   refine wRet kq ?_
   refine AThen_ret ?_
   refine leafB (b:=false) (.inr rfl) kq ?_
   refine Eq.trans ?_ (show ((a.name==b.name) && zipAll Ct.beq a.ctors b.ctors)=a.beq b from rfl)
   first|(simp only [zipAll_len Ct.beq a.ctors b.ctors oq,Bool.and_false];done)|(rw [zipAll_true Ct.beq Ct.zero Ct.zero a.ctors b.ctors oq (fun i hi=>ha i oq)];simp_all;done)|(rw [zipAll_at Ct.beq Ct.zero Ct.zero a.ctors b.ctors k oq oq (by simp_all [Ct.beq])];simp;done)|(simp_all;done)
end Go.Proofs.YtindpcpdkikdmaaGreatDoor
