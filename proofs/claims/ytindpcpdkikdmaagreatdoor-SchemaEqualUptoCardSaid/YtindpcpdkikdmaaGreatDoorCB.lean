/- The closures of schema.Equal that look into a box. Condition: sizes that can be had. -/
import Derived.Test.YtindpcpdkikdmaaGreatDoorCA
set_option linter.all false
namespace Go.Proofs.YtindpcpdkikdmaaGreatDoor
open Go.Proofs.YtindpcpdkikdmaaGreatDoor.Abs
set_option maxRecDepth 20000
set_option maxHeartbeats 4000000
noncomputable def c27:Code:=bodyOf Tryz.f27
theorem smEqual_raw (a b:Sm) (hs:a.sm):CallsA cx 27 [Sm.v a,Sm.v b,.ptr 0 0] [.box [.fn (.func 25) [] []]] (fun v h=>v=(.bool (a.beq b))∧h=[.box [.fn (.func 25) [] []]]):=by
 have hc:∀ i,i<a.ctors.length→i<b.ctors.length→CallsP cx 25 [(a.ctors.getD i Ct.zero).v,(b.ctors.getD i Ct.zero).v] (.bool ((a.ctors.getD i Ct.zero).beq (b.ctors.getD i Ct.zero))):=fun i h _=>ctEqual_spec _ _ (hs.2 _ (getD_mem _ _ _ h))
 have hz1:=hs.1
 refine func_intro (cx:=cx) 19 1 [(ResultVar.tmp 5)] Tryz.func27 rfl rfl rfl rfl rfl zq ?_
 show wpA cx 19 1 (at_ c27 []) _ _ _
 refine wSt [0,1,2] [(0,Sm.v a),(1,Sm.v b),(2,.ptr 0 0)] [.box [.fn (.func 25) [] []]] kq kq ?_
 refine wSeq kq ?_
 refine wOrd kq (vstart ?_)
 refine vrun 3 kq ?_
 refine vend kq ?_
 refine AThen_normal ?_
 refine wSt [2,3,4] [(2,.ptr 0 0),(3,.ptr 1 0),(4,.ptr 2 0)] [.box [.fn (.func 25) [] []],.box [.str a.name,.imm (a.ctors.map Ct.v)],.box [.str b.name,.imm (b.ctors.map Ct.v)]] kq kq ?_
 refine wSeq kq ?_
 refine wOrd kq (vstart ?_)
 refine vrun 6 kq ?_
 by_cases hb1:a.name=b.name
 · refine vset 10 (.bool (a.name==b.name)) (.bool true) (extO extThen) kq (congrArg AVal.bool (beq_iff_eq.2 hb1)) ?_
   refine vset 11 (.bool (a.name==b.name)) (.bool true) (extO extThen) kq (congrArg AVal.bool (beq_iff_eq.2 hb1)) ?_
   refine vrun 5 kq ?_
   refine vcallP (args:=[.imm (a.ctors.map Ct.v),.imm (b.ctors.map Ct.v),.fn (.func 25) [] []]) kq kq kq kq (eqFuncCt_spec a.ctors b.ctors 25 Ct.beq (hc) oq) (by simp [Ty.v,Ex.v,Ct.v,Co.v,Rf.v,Sm.v,Tb.v,Sc.v]) (by simp [Ty.v,Ex.v,Ct.v,Co.v,Rf.v,Sm.v,Tb.v,Sc.v]) (by simp [Ty.v,Ex.v,Ct.v,Co.v,Rf.v,Sm.v,Tb.v,Sc.v]) ?_
   refine vrun 2 kq ?_
   refine vend kq ?_
   refine AThen_normal ?_
   refine wSt [5] [(5,.bool (zipAll Ct.beq a.ctors b.ctors))] [.box [.fn (.func 25) [] []],.box [.str a.name,.imm (a.ctors.map Ct.v)],.box [.str b.name,.imm (b.ctors.map Ct.v)]] kq kq ?_
   refine wRet kq ?_
   refine leafA (l:=[.bool (zipAll Ct.beq a.ctors b.ctors)]) (.inr rfl) kq (by simp_all [awrap,AVal.frz,Sm.beq]) (by simp [awrap]) (by simp [awrap]) ?_ ?_
   · refine Eq.trans (b:=[.box [.fn (.func 25) [] []]]) kq ?_
     simp
   · simp [AObj.belO]
 · refine vset 10 (.bool (a.name==b.name)) (.bool false) (extO extThen) kq (congrArg AVal.bool (beq_eq_false_iff_ne.2 hb1)) ?_
   refine vset 11 (.bool (a.name==b.name)) (.bool false) (extO extThen) kq (congrArg AVal.bool (beq_eq_false_iff_ne.2 hb1)) ?_
   refine vrun 8 kq ?_
   refine vend kq ?_
   refine AThen_normal ?_
   refine wSt [5] [(5,.bool false)] [.box [.fn (.func 25) [] []],.box [.str a.name,.imm (a.ctors.map Ct.v)],.box [.str b.name,.imm (b.ctors.map Ct.v)]] kq kq ?_
   refine wRet kq ?_
   refine leafA (l:=[.bool false]) (.inr rfl) kq (by simp_all [awrap,AVal.frz,Sm.beq]) (by simp [awrap]) (by simp [awrap]) ?_ ?_
   · refine Eq.trans (b:=[.box [.fn (.func 25) [] []]]) kq ?_
     simp
   · simp [AObj.belO]
noncomputable def c30:Code:=bodyOf Tryz.f30
theorem tbEqual_raw (a b:Tb) (hs:a.sm):CallsA cx 30 [Tb.v a,Tb.v b,.ptr 0 0] [.box [.fn (.func 29) [] []]] (fun v h=>v=(.bool (a.beq b))∧h=[.box [.fn (.func 29) [] []]]):=by
 have hc:∀ i,i<a.cols.length→i<b.cols.length→CallsP cx 29 [(a.cols.getD i Co.zero).v,(b.cols.getD i Co.zero).v] (.bool ((a.cols.getD i Co.zero).beq (b.cols.getD i Co.zero))):=fun i h _=>coEqual_spec _ _ (hs.2.1 _ (getD_mem _ _ _ h))
 have hz1:=hs.1
 have hz3:=hs.2.2.1
 have hz4:=hs.2.2.2.1
 have hz5:=hs.2.2.2.2
 refine func_intro (cx:=cx) 40 1 [(ResultVar.tmp 5)] Tryz.func30 rfl rfl rfl rfl rfl zq ?_
 show wpA cx 40 1 (at_ c30 []) _ _ _
 refine wSt [0,1,2] [(0,Tb.v a),(1,Tb.v b),(2,.ptr 0 0)] [.box [.fn (.func 29) [] []]] kq kq ?_
 refine wSeq kq ?_
 refine wOrd kq (vstart ?_)
 refine vrun 3 kq ?_
 refine vend kq ?_
 refine AThen_normal ?_
 refine wSt [2,3,4] [(2,.ptr 0 0),(3,.ptr 1 0),(4,.ptr 2 0)] [.box [.fn (.func 29) [] []],.box [.str a.name,.imm (a.cols.map Co.v),.imm (a.key.map AVal.str),.imm (a.refs.map Rf.v),.int .i64 (a.chk.kind),.str a.chk.name,.int .i64 (a.chk.n),.str a.chk.s,.imm (a.chk.names.map AVal.str),.imm (a.chk.binds.map AVal.str),.imm (a.chk.kids.map Ex.enc),.int .i64 (a.chk.pos),.int .i64 (a.chk.fin)],.box [.str b.name,.imm (b.cols.map Co.v),.imm (b.key.map AVal.str),.imm (b.refs.map Rf.v),.int .i64 (b.chk.kind),.str b.chk.name,.int .i64 (b.chk.n),.str b.chk.s,.imm (b.chk.names.map AVal.str),.imm (b.chk.binds.map AVal.str),.imm (b.chk.kids.map Ex.enc),.int .i64 (b.chk.pos),.int .i64 (b.chk.fin)]] kq kq ?_
 refine wSeq kq ?_
 refine wOrd kq (vstart ?_)
 refine vrun 6 kq ?_
 by_cases hb1:a.name=b.name
 · refine vset 10 (.bool (a.name==b.name)) (.bool true) (extO extThen) kq (congrArg AVal.bool (beq_iff_eq.2 hb1)) ?_
   refine vset 11 (.bool (a.name==b.name)) (.bool true) (extO extThen) kq (congrArg AVal.bool (beq_iff_eq.2 hb1)) ?_
   refine vrun 5 kq ?_
   refine vcallP (args:=[.imm (a.cols.map Co.v),.imm (b.cols.map Co.v),.fn (.func 29) [] []]) kq kq kq kq (eqFuncCo_spec a.cols b.cols 29 Co.beq (hc) (by first|omega|assumption)) (by simp [Ty.v,Ex.v,Ct.v,Co.v,Rf.v,Sm.v,Tb.v,Sc.v]) (by simp [Ty.v,Ex.v,Ct.v,Co.v,Rf.v,Sm.v,Tb.v,Sc.v]) (by simp [Ty.v,Ex.v,Ct.v,Co.v,Rf.v,Sm.v,Tb.v,Sc.v]) ?_
   refine vrun 2 kq ?_
   by_cases hb2:(zipAll Co.beq a.cols b.cols)=true
   · refine vset 17 (.bool (zipAll Co.beq a.cols b.cols)) (.bool true) (extO extThen) kq (congrArg AVal.bool (hb2)) ?_
     refine vset 18 (.bool (zipAll Co.beq a.cols b.cols)) (.bool true) (extO extThen) kq (congrArg AVal.bool (hb2)) ?_
     refine vset 19 (.bool (zipAll Co.beq a.cols b.cols)) (.bool true) (extO extThen) kq (congrArg AVal.bool (hb2)) ?_
     refine vrun 4 kq ?_
     refine vcallP (args:=[.imm (a.key.map AVal.str),.imm (b.key.map AVal.str)]) kq kq kq kq (slEqual_spec a.key b.key (by first|omega|assumption)) (by simp [Ty.v,Ex.v,Ct.v,Co.v,Rf.v,Sm.v,Tb.v,Sc.v]) (by simp [Ty.v,Ex.v,Ct.v,Co.v,Rf.v,Sm.v,Tb.v,Sc.v]) (by simp [Ty.v,Ex.v,Ct.v,Co.v,Rf.v,Sm.v,Tb.v,Sc.v]) ?_
     refine vrun 2 kq ?_
     by_cases hb3:(a.key==b.key)=true
     · refine vset 24 (.bool (a.key==b.key)) (.bool true) (extO extThen) kq (congrArg AVal.bool (hb3)) ?_
       refine vset 25 (.bool (a.key==b.key)) (.bool true) (extO extThen) kq (congrArg AVal.bool (hb3)) ?_
       refine vset 26 (.bool (a.key==b.key)) (.bool true) (extO extThen) kq (congrArg AVal.bool (hb3)) ?_
       refine vrun 4 kq ?_
       refine vcallP (args:=[.imm (a.refs.map Rf.v),.imm (b.refs.map Rf.v)]) kq kq kq kq (rfEqual_spec a.refs b.refs (by first|omega|assumption)) (by simp [Ty.v,Ex.v,Ct.v,Co.v,Rf.v,Sm.v,Tb.v,Sc.v]) (by simp [Ty.v,Ex.v,Ct.v,Co.v,Rf.v,Sm.v,Tb.v,Sc.v]) (by simp [Ty.v,Ex.v,Ct.v,Co.v,Rf.v,Sm.v,Tb.v,Sc.v]) ?_
       refine vrun 2 kq ?_
       by_cases hb4:(zipAll Rf.beq a.refs b.refs)=true
       · refine vset 31 (.bool (zipAll Rf.beq a.refs b.refs)) (.bool true) (extO extThen) kq (congrArg AVal.bool (hb4)) ?_
         refine vset 32 (.bool (zipAll Rf.beq a.refs b.refs)) (.bool true) (extO extThen) kq (congrArg AVal.bool (hb4)) ?_
         refine vset 33 (.bool (zipAll Rf.beq a.refs b.refs)) (.bool true) (extO extThen) kq (congrArg AVal.bool (hb4)) ?_
         refine vrun 4 kq ?_
         refine vcallP (args:=[.agg [.int .i64 (a.chk.kind),.str a.chk.name,.int .i64 (a.chk.n),.str a.chk.s,.imm (a.chk.names.map AVal.str),.imm (a.chk.binds.map AVal.str),.imm (a.chk.kids.map Ex.enc),.int .i64 (a.chk.pos),.int .i64 (a.chk.fin)],.agg [.int .i64 (b.chk.kind),.str b.chk.name,.int .i64 (b.chk.n),.str b.chk.s,.imm (b.chk.names.map AVal.str),.imm (b.chk.binds.map AVal.str),.imm (b.chk.kids.map Ex.enc),.int .i64 (b.chk.pos),.int .i64 (b.chk.fin)]]) kq kq kq kq (xEqual_spec a.chk b.chk (by first|omega|assumption)) (by simp [Ty.v,Ex.v,Ct.v,Co.v,Rf.v,Sm.v,Tb.v,Sc.v]) (by simp [Ty.v,Ex.v,Ct.v,Co.v,Rf.v,Sm.v,Tb.v,Sc.v]) (by simp [Ty.v,Ex.v,Ct.v,Co.v,Rf.v,Sm.v,Tb.v,Sc.v]) ?_
         refine vrun 2 kq ?_
         refine vend kq ?_
         refine AThen_normal ?_
         refine wSt [5] [(5,.bool (a.chk.beq b.chk))] [.box [.fn (.func 29) [] []],.box [.str a.name,.imm (a.cols.map Co.v),.imm (a.key.map AVal.str),.imm (a.refs.map Rf.v),.int .i64 (a.chk.kind),.str a.chk.name,.int .i64 (a.chk.n),.str a.chk.s,.imm (a.chk.names.map AVal.str),.imm (a.chk.binds.map AVal.str),.imm (a.chk.kids.map Ex.enc),.int .i64 (a.chk.pos),.int .i64 (a.chk.fin)],.box [.str b.name,.imm (b.cols.map Co.v),.imm (b.key.map AVal.str),.imm (b.refs.map Rf.v),.int .i64 (b.chk.kind),.str b.chk.name,.int .i64 (b.chk.n),.str b.chk.s,.imm (b.chk.names.map AVal.str),.imm (b.chk.binds.map AVal.str),.imm (b.chk.kids.map Ex.enc),.int .i64 (b.chk.pos),.int .i64 (b.chk.fin)]] kq kq ?_
         refine wRet kq ?_
         refine leafA (l:=[.bool (a.chk.beq b.chk)]) (.inr rfl) kq (by simp_all [awrap,AVal.frz,Tb.beq]) (by simp [awrap]) (by simp [awrap]) ?_ ?_
         · refine Eq.trans (b:=[.box [.fn (.func 29) [] []]]) kq ?_
           simp
         · simp [AObj.belO]
       · refine vset 31 (.bool (zipAll Rf.beq a.refs b.refs)) (.bool false) (extO extThen) kq (congrArg AVal.bool (Bool.eq_false_iff.2 hb4)) ?_
         refine vset 32 (.bool (zipAll Rf.beq a.refs b.refs)) (.bool false) (extO extThen) kq (congrArg AVal.bool (Bool.eq_false_iff.2 hb4)) ?_
         refine vset 33 (.bool (zipAll Rf.beq a.refs b.refs)) (.bool false) (extO extThen) kq (congrArg AVal.bool (Bool.eq_false_iff.2 hb4)) ?_
         refine vrun 7 kq ?_
         refine vend kq ?_
         refine AThen_normal ?_
         refine wSt [5] [(5,.bool false)] [.box [.fn (.func 29) [] []],.box [.str a.name,.imm (a.cols.map Co.v),.imm (a.key.map AVal.str),.imm (a.refs.map Rf.v),.int .i64 (a.chk.kind),.str a.chk.name,.int .i64 (a.chk.n),.str a.chk.s,.imm (a.chk.names.map AVal.str),.imm (a.chk.binds.map AVal.str),.imm (a.chk.kids.map Ex.enc),.int .i64 (a.chk.pos),.int .i64 (a.chk.fin)],.box [.str b.name,.imm (b.cols.map Co.v),.imm (b.key.map AVal.str),.imm (b.refs.map Rf.v),.int .i64 (b.chk.kind),.str b.chk.name,.int .i64 (b.chk.n),.str b.chk.s,.imm (b.chk.names.map AVal.str),.imm (b.chk.binds.map AVal.str),.imm (b.chk.kids.map Ex.enc),.int .i64 (b.chk.pos),.int .i64 (b.chk.fin)]] kq kq ?_
         refine wRet kq ?_
         refine leafA (l:=[.bool false]) (.inr rfl) kq (by simp_all [awrap,AVal.frz,Tb.beq]) (by simp [awrap]) (by simp [awrap]) ?_ ?_
         · refine Eq.trans (b:=[.box [.fn (.func 29) [] []]]) kq ?_
           simp
         · simp [AObj.belO]
     · refine vset 24 (.bool (a.key==b.key)) (.bool false) (extO extThen) kq (congrArg AVal.bool (Bool.eq_false_iff.2 hb3)) ?_
       refine vset 25 (.bool (a.key==b.key)) (.bool false) (extO extThen) kq (congrArg AVal.bool (Bool.eq_false_iff.2 hb3)) ?_
       refine vset 26 (.bool (a.key==b.key)) (.bool false) (extO extThen) kq (congrArg AVal.bool (Bool.eq_false_iff.2 hb3)) ?_
       refine vrun 14 kq ?_
       refine vend kq ?_
       refine AThen_normal ?_
       refine wSt [5] [(5,.bool false)] [.box [.fn (.func 29) [] []],.box [.str a.name,.imm (a.cols.map Co.v),.imm (a.key.map AVal.str),.imm (a.refs.map Rf.v),.int .i64 (a.chk.kind),.str a.chk.name,.int .i64 (a.chk.n),.str a.chk.s,.imm (a.chk.names.map AVal.str),.imm (a.chk.binds.map AVal.str),.imm (a.chk.kids.map Ex.enc),.int .i64 (a.chk.pos),.int .i64 (a.chk.fin)],.box [.str b.name,.imm (b.cols.map Co.v),.imm (b.key.map AVal.str),.imm (b.refs.map Rf.v),.int .i64 (b.chk.kind),.str b.chk.name,.int .i64 (b.chk.n),.str b.chk.s,.imm (b.chk.names.map AVal.str),.imm (b.chk.binds.map AVal.str),.imm (b.chk.kids.map Ex.enc),.int .i64 (b.chk.pos),.int .i64 (b.chk.fin)]] kq kq ?_
       refine wRet kq ?_
       refine leafA (l:=[.bool false]) (.inr rfl) kq (by simp_all [awrap,AVal.frz,Tb.beq]) (by simp [awrap]) (by simp [awrap]) ?_ ?_
       · refine Eq.trans (b:=[.box [.fn (.func 29) [] []]]) kq ?_
         simp
       · simp [AObj.belO]
   · refine vset 17 (.bool (zipAll Co.beq a.cols b.cols)) (.bool false) (extO extThen) kq (congrArg AVal.bool (Bool.eq_false_iff.2 hb2)) ?_
     refine vset 18 (.bool (zipAll Co.beq a.cols b.cols)) (.bool false) (extO extThen) kq (congrArg AVal.bool (Bool.eq_false_iff.2 hb2)) ?_
     refine vset 19 (.bool (zipAll Co.beq a.cols b.cols)) (.bool false) (extO extThen) kq (congrArg AVal.bool (Bool.eq_false_iff.2 hb2)) ?_
     refine vrun 21 kq ?_
     refine vend kq ?_
     refine AThen_normal ?_
     refine wSt [5] [(5,.bool false)] [.box [.fn (.func 29) [] []],.box [.str a.name,.imm (a.cols.map Co.v),.imm (a.key.map AVal.str),.imm (a.refs.map Rf.v),.int .i64 (a.chk.kind),.str a.chk.name,.int .i64 (a.chk.n),.str a.chk.s,.imm (a.chk.names.map AVal.str),.imm (a.chk.binds.map AVal.str),.imm (a.chk.kids.map Ex.enc),.int .i64 (a.chk.pos),.int .i64 (a.chk.fin)],.box [.str b.name,.imm (b.cols.map Co.v),.imm (b.key.map AVal.str),.imm (b.refs.map Rf.v),.int .i64 (b.chk.kind),.str b.chk.name,.int .i64 (b.chk.n),.str b.chk.s,.imm (b.chk.names.map AVal.str),.imm (b.chk.binds.map AVal.str),.imm (b.chk.kids.map Ex.enc),.int .i64 (b.chk.pos),.int .i64 (b.chk.fin)]] kq kq ?_
     refine wRet kq ?_
     refine leafA (l:=[.bool false]) (.inr rfl) kq (by simp_all [awrap,AVal.frz,Tb.beq]) (by simp [awrap]) (by simp [awrap]) ?_ ?_
     · refine Eq.trans (b:=[.box [.fn (.func 29) [] []]]) kq ?_
       simp
     · simp [AObj.belO]
 · refine vset 10 (.bool (a.name==b.name)) (.bool false) (extO extThen) kq (congrArg AVal.bool (beq_eq_false_iff_ne.2 hb1)) ?_
   refine vset 11 (.bool (a.name==b.name)) (.bool false) (extO extThen) kq (congrArg AVal.bool (beq_eq_false_iff_ne.2 hb1)) ?_
   refine vrun 29 kq ?_
   refine vend kq ?_
   refine AThen_normal ?_
   refine wSt [5] [(5,.bool false)] [.box [.fn (.func 29) [] []],.box [.str a.name,.imm (a.cols.map Co.v),.imm (a.key.map AVal.str),.imm (a.refs.map Rf.v),.int .i64 (a.chk.kind),.str a.chk.name,.int .i64 (a.chk.n),.str a.chk.s,.imm (a.chk.names.map AVal.str),.imm (a.chk.binds.map AVal.str),.imm (a.chk.kids.map Ex.enc),.int .i64 (a.chk.pos),.int .i64 (a.chk.fin)],.box [.str b.name,.imm (b.cols.map Co.v),.imm (b.key.map AVal.str),.imm (b.refs.map Rf.v),.int .i64 (b.chk.kind),.str b.chk.name,.int .i64 (b.chk.n),.str b.chk.s,.imm (b.chk.names.map AVal.str),.imm (b.chk.binds.map AVal.str),.imm (b.chk.kids.map Ex.enc),.int .i64 (b.chk.pos),.int .i64 (b.chk.fin)]] kq kq ?_
   refine wRet kq ?_
   refine leafA (l:=[.bool false]) (.inr rfl) kq (by simp_all [awrap,AVal.frz,Tb.beq]) (by simp [awrap]) (by simp [awrap]) ?_ ?_
   · refine Eq.trans (b:=[.box [.fn (.func 29) [] []]]) kq ?_
     simp
   · simp [AObj.belO]
end Go.Proofs.YtindpcpdkikdmaaGreatDoor
