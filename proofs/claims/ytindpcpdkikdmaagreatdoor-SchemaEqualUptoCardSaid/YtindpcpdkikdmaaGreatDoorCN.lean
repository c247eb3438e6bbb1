/- The law SchemaEqual. No condition but that the numbers are numbers. -/
import Derived.Test.YtindpcpdkikdmaaGreatDoorCK
import Derived.Test.YtindpcpdkikdmaaGreatDoorCL
set_option linter.all false
namespace Go.Proofs.YtindpcpdkikdmaaGreatDoor
open Go.Proofs.YtindpcpdkikdmaaGreatDoor.Abs
set_option maxRecDepth 20000
set_option maxHeartbeats 4000000
@[simp] theorem frzL_scs (h:AHeap) (l:List Sc):frzL h (l.map Sc.v)=l.map Sc.v:=frzL_map_same h (Sc.frz_v h) l
@[simp] theorem belL_scs (k:Nat) (l:List Sc):belL k (l.map Sc.v)=true:=belL_map k (Sc.bel_v k) l
@[simp] theorem ownsL_scs (l:List Sc):ownsL (l.map Sc.v)=[]:=ownsL_map Sc.owns_v l
theorem fine_bT {s:Sc} (l:List Int) (h:s.fine):0<(bT s l).cols.length:=(bT_fine h).1.1
theorem bent_ok (s:Sc) (l:List Int) (h:s.fine) (hl:i64L l):CallsP cx 6 [s.v,.imm (l.map (.int .i64))] (bentOf s l).v :=
 have ht:=bT_fine (l:=l) h
 bent_spec s l hl h.2.2.1.1 h.1.1 ht.1.1 ⟨Nat.lt_of_le_of_lt h.1.2 dq,Nat.lt_of_le_of_lt h.2.2.1.2 dq,Nat.lt_of_le_of_lt ht.1.2 dq,Nat.lt_of_le_of_lt ht.2.2.1 dq,Nat.lt_of_le_of_lt ht.2.2.2.1 dq⟩
def all4 (l m n:List Int):List Sc:=[scOf l,scOf m,bentOf (scOf l) m,bentOf (scOf l) n]
theorem all4_len (l m n:List Int):(all4 l m n).length=4:=rfl
theorem all4_sm (l m n:List Int) (i:Nat) (hi:i<4):((all4 l m n).getD i Sc.zero).sm:=by
 match i,hi with
 | 0,_=>exact Sc.fine_sm (scOf_fine l)
 | 1,_=>exact Sc.fine_sm (scOf_fine m)
 | 2,_=>exact bent_sm m (scOf_fine l)
 | 3,_=>exact bent_sm n (scOf_fine l)
 | i+4,h=>exact absurd h oq
noncomputable def c3:Code:=bodyOf Tryz.f3
theorem equal_spec (l m n:List Int) (hl:i64L l) (hm:i64L m) (hn:i64L n):CallsP cx 3 [.imm (l.map (AVal.int .i64)),.imm (m.map (AVal.int .i64)),.imm (n.map (AVal.int .i64))] (.bool true):=by
 have h4:=all4_len l m n
 refine func_intro (cx:=cx) 51 0 [(ResultVar.tmp 6)] Tryz.func3 rfl rfl rfl rfl rfl zq ?_
 show wpA cx 51 0 (at_ c3 []) _ _ _
 refine wSt [0,1,2] [(0,.imm (l.map (AVal.int .i64))),(1,.imm (m.map (AVal.int .i64))),(2,.imm (n.map (AVal.int .i64)))] [] kq kq ?_
 refine wSeq kq ?_
 refine wOrd kq (vstart ?_)
 refine vrun 1 kq ?_
 refine vend kq ?_
 refine AThen_normal ?_
 refine wSt [0,1,2] [(0,.imm (l.map (AVal.int .i64))),(1,.imm (m.map (AVal.int .i64))),(2,.imm (n.map (AVal.int .i64)))] [] kq kq ?_
 refine wSeq kq ?_
 refine wOrd kq (vstart ?_)
 refine vrun 1 kq ?_
 refine vcallP (args:=[.imm (l.map (AVal.int .i64))]) kq kq kq kq (schema_spec l aq) (by simp [Ty.v,Ex.v,Ct.v,Co.v,Rf.v,Sm.v,Tb.v,Sc.v]) (by simp [Ty.v,Ex.v,Ct.v,Co.v,Rf.v,Sm.v,Tb.v,Sc.v]) (by simp [Ty.v,Ex.v,Ct.v,Co.v,Rf.v,Sm.v,Tb.v,Sc.v]) ?_
 refine vrun 2 kq ?_
 refine vend kq ?_
 refine AThen_normal ?_
 refine wSt [1,2,7] [(1,.imm (m.map (AVal.int .i64))),(2,.imm (n.map (AVal.int .i64))),(7,.ptr 0 0)] [.box [.imm ((scOf l).sums.map Sm.v),.imm ((scOf l).tabs.map Tb.v)]] kq kq ?_
 refine wSeq kq ?_
 refine wDrw cxM kq extThen (dstart ?_)
 refine drun 2 kq ?_
 refine dcallP (args:=[.imm (m.map (AVal.int .i64))]) kq kq kq kq kq (schema_spec m aq) (by intro _;simp [Ty.v,Ex.v,Ct.v,Co.v,Rf.v,Sm.v,Tb.v,Sc.v]) (by simp [Ty.v,Ex.v,Ct.v,Co.v,Rf.v,Sm.v,Tb.v,Sc.v]) (by simp [Ty.v,Ex.v,Ct.v,Co.v,Rf.v,Sm.v,Tb.v,Sc.v]) ?_
 refine drun 2 kq ?_
 refine dcallP (args:=[.agg [.imm ((scOf l).sums.map Sm.v),.imm ((scOf l).tabs.map Tb.v)],.imm (m.map (AVal.int .i64))]) kq kq kq kq kq (bent_ok (scOf l) m (scOf_fine l) aq) (by intro _;simp [Ty.v,Ex.v,Ct.v,Co.v,Rf.v,Sm.v,Tb.v,Sc.v]) (by simp [Ty.v,Ex.v,Ct.v,Co.v,Rf.v,Sm.v,Tb.v,Sc.v]) (by simp [Ty.v,Ex.v,Ct.v,Co.v,Rf.v,Sm.v,Tb.v,Sc.v]) ?_
 refine drun 2 kq ?_
 refine dcallP (args:=[.agg [.imm ((scOf l).sums.map Sm.v),.imm ((scOf l).tabs.map Tb.v)],.imm (n.map (AVal.int .i64))]) kq kq kq kq kq (bent_ok (scOf l) n (scOf_fine l) aq) (by intro _;simp [Ty.v,Ex.v,Ct.v,Co.v,Rf.v,Sm.v,Tb.v,Sc.v]) (by simp [Ty.v,Ex.v,Ct.v,Co.v,Rf.v,Sm.v,Tb.v,Sc.v]) (by simp [Ty.v,Ex.v,Ct.v,Co.v,Rf.v,Sm.v,Tb.v,Sc.v]) ?_
 refine drun 2 kq ?_
 refine dend kq ⟨kq,?_⟩
 refine AThen_normal ?_
 refine wSt [8] [(8,.full [.agg [.imm ((scOf l).sums.map Sm.v),.imm ((scOf l).tabs.map Tb.v)],Sc.v (scOf m),Sc.v (bentOf (scOf l) m),Sc.v (bentOf (scOf l) n)])] [.box [.imm ((scOf l).sums.map Sm.v),.imm ((scOf l).tabs.map Tb.v)]] kq kq ?_
 refine wFrzT 8 (.full [.agg [.imm ((scOf l).sums.map Sm.v),.imm ((scOf l).tabs.map Tb.v)],Sc.v (scOf m),Sc.v (bentOf (scOf l) m),Sc.v (bentOf (scOf l) n)]) (.imm ((all4 l m n).map Sc.v)) kq (by simp [AVal.owns,ownsL,all4,Sc.v]) (by simp [AVal.frz,frzL,all4,Sc.v]) ?_
 refine wSt [8] [(8,.imm ((all4 l m n).map Sc.v))] [.box [.imm ((scOf l).sums.map Sm.v),.imm ((scOf l).tabs.map Tb.v)]] kq kq ?_
 refine wSeq kq ?_
 refine wSeq kq ?_
 refine wOrd kq (vstart ?_)
 refine vrun 1 kq ?_
 refine vend kq ?_
 refine AThen_normal ?_
 refine wSt [8,9] [(8,.imm ((all4 l m n).map Sc.v)),(9,.int .i64 0)] [.box [.imm ((scOf l).sums.map Sm.v),.imm ((scOf l).tabs.map Tb.v)]] kq kq ?_
 refine wBlock 0 kq kq ?_
 refine wLoop (σ:=Nat) (fun i=>[(8,.imm ((all4 l m n).map Sc.v)),(9,.int .i64 ((i:Nat):Int))]) (fun i=>[.box [.imm ((scOf l).sums.map Sm.v),.imm ((scOf l).tabs.map Tb.v)]]) (fun i=>i≤4) (fun i=>4 - i) 0 kq oq ⟨⟨kq,kq,trivial⟩,by simp [BelL,AVal.bel],by simp,kq,by simp [AObj.belO,AVal.bel,belL,Sc.v]⟩ ?_
 rintro i hi
 refine wSeq kq ?_
 refine wSeq kq ?_
 refine wOrd kq (vstart ?_)
 refine vrun 2 kq ?_
 refine vend kq ?_
 refine AThen_normal ?_
 refine wSt [8,9,24] [(8,.imm ((all4 l m n).map Sc.v)),(9,.int .i64 ((i:Nat):Int)),(24,.bool (decide (((i:Nat):Int)<4)))] [.box [.imm ((scOf l).sums.map Sm.v),.imm ((scOf l).tabs.map Tb.v)]] kq kq ?_
 by_cases hb1:((i:Nat):Int)<4
 · refine wIfT kq (Eq.trans (b:=.bool (decide (((i:Nat):Int)<4))) kq (congrArg AVal.bool (decide_eq_true hb1))) ?_
   refine wSkip kq ?_
   refine AThen_normal ?_
   refine wSt [8,9] [(8,.imm ((all4 l m n).map Sc.v)),(9,.int .i64 ((i:Nat):Int))] [.box [.imm ((scOf l).sums.map Sm.v),.imm ((scOf l).tabs.map Tb.v)]] kq kq ?_
   refine wSeq kq ?_
   refine wBlock 1 kq kq ?_
   refine wSeq kq ?_
   refine wOrd kq (vstart ?_)
   refine vrun 1 kq ?_
   refine vend kq ?_
   refine AThen_normal ?_
   refine wSt [8,9,10] [(8,.imm ((all4 l m n).map Sc.v)),(9,.int .i64 ((i:Nat):Int)),(10,.int .i64 0)] [.box [.imm ((scOf l).sums.map Sm.v),.imm ((scOf l).tabs.map Tb.v)]] kq kq ?_
   refine wBlock 2 kq kq ?_
   refine wLoop (σ:=Nat) (fun k=>[(8,.imm ((all4 l m n).map Sc.v)),(9,.int .i64 ((i:Nat):Int)),(10,.int .i64 ((k:Nat):Int))]) (fun k=>[.box [.imm ((scOf l).sums.map Sm.v),.imm ((scOf l).tabs.map Tb.v)]]) (fun k=>k≤4) (fun k=>4 - k) 0 kq oq ⟨⟨kq,kq,kq,trivial⟩,by simp [BelL,AVal.bel],by simp,kq,by simp [AObj.belO,AVal.bel,belL,Sc.v]⟩ ?_
   rintro k hk
   refine wSeq kq ?_
   refine wSeq kq ?_
   refine wOrd kq (vstart ?_)
   refine vrun 2 kq ?_
   refine vend kq ?_
   refine AThen_normal ?_
   refine wSt [8,9,10,28] [(8,.imm ((all4 l m n).map Sc.v)),(9,.int .i64 ((i:Nat):Int)),(10,.int .i64 ((k:Nat):Int)),(28,.bool (decide (((k:Nat):Int)<4)))] [.box [.imm ((scOf l).sums.map Sm.v),.imm ((scOf l).tabs.map Tb.v)]] kq kq ?_
   by_cases hb2:((k:Nat):Int)<4
   · refine wIfT kq (Eq.trans (b:=.bool (decide (((k:Nat):Int)<4))) kq (congrArg AVal.bool (decide_eq_true hb2))) ?_
     refine wSkip kq ?_
     refine AThen_normal ?_
     refine wSt [8,9,10] [(8,.imm ((all4 l m n).map Sc.v)),(9,.int .i64 ((i:Nat):Int)),(10,.int .i64 ((k:Nat):Int))] [.box [.imm ((scOf l).sums.map Sm.v),.imm ((scOf l).tabs.map Tb.v)]] kq kq ?_
     refine wSeq kq ?_
     refine wBlock 3 kq kq ?_
     refine wSeq kq ?_
     refine wDrw cxM kq extThen (dstart ?_)
     refine drun 2 kq ?_
     refine dsym kq kq kq ((o_ixmap (k:=.i64) (l:=(all4 l m n)) (enc:=Sc.v) (i:=((i:Nat):Int)) Sc.zero kq ty29 ty26 (fun _=>rfl) (by first|omega|assumption|decide) (by first|omega|assumption|decide)).trans (congrArg (fun cs=>some (AVal.pimm cs 0,_)) (sc_cells ((all4 l m n).getD i Sc.zero)))) ?_
     refine drun 3 kq ?_
     refine dsym kq kq kq ((o_ixmap (k:=.i64) (l:=(all4 l m n)) (enc:=Sc.v) (i:=((k:Nat):Int)) Sc.zero kq ty29 ty26 (fun _=>rfl) (by first|omega|assumption|decide) (by first|omega|assumption|decide)).trans (congrArg (fun cs=>some (AVal.pimm cs 0,_)) (sc_cells ((all4 l m n).getD k Sc.zero)))) ?_
     refine drun 1 kq ?_
     refine dcallP (args:=[.agg [.imm (((all4 l m n).getD i Sc.zero).sums.map Sm.v),.imm (((all4 l m n).getD i Sc.zero).tabs.map Tb.v)],.agg [.imm (((all4 l m n).getD k Sc.zero).sums.map Sm.v),.imm (((all4 l m n).getD k Sc.zero).tabs.map Tb.v)]]) kq kq kq kq kq (scEqual_spec ((all4 l m n).getD i Sc.zero) ((all4 l m n).getD k Sc.zero) (all4_sm l m n i oq)) (by intro _;simp [Ty.v,Ex.v,Ct.v,Co.v,Rf.v,Sm.v,Tb.v,Sc.v]) (by simp [Ty.v,Ex.v,Ct.v,Co.v,Rf.v,Sm.v,Tb.v,Sc.v]) (by simp [Ty.v,Ex.v,Ct.v,Co.v,Rf.v,Sm.v,Tb.v,Sc.v]) ?_
     refine drun 2 kq ?_
     refine dsym kq kq kq ((o_ixmap (k:=.i64) (l:=(all4 l m n)) (enc:=Sc.v) (i:=((i:Nat):Int)) Sc.zero kq ty29 ty26 (fun _=>rfl) (by first|omega|assumption|decide) (by first|omega|assumption|decide)).trans (congrArg (fun cs=>some (AVal.pimm cs 0,_)) (sc_cells ((all4 l m n).getD i Sc.zero)))) ?_
     refine drun 3 kq ?_
     refine dsym kq kq kq ((o_ixmap (k:=.i64) (l:=(all4 l m n)) (enc:=Sc.v) (i:=((k:Nat):Int)) Sc.zero kq ty29 ty26 (fun _=>rfl) (by first|omega|assumption|decide) (by first|omega|assumption|decide)).trans (congrArg (fun cs=>some (AVal.pimm cs 0,_)) (sc_cells ((all4 l m n).getD k Sc.zero)))) ?_
     refine drun 1 kq ?_
     refine dcallP (args:=[.agg [.imm (((all4 l m n).getD i Sc.zero).sums.map Sm.v),.imm (((all4 l m n).getD i Sc.zero).tabs.map Tb.v)],.agg [.imm (((all4 l m n).getD k Sc.zero).sums.map Sm.v),.imm (((all4 l m n).getD k Sc.zero).tabs.map Tb.v)]]) kq kq kq kq kq (scSame_spec ((all4 l m n).getD i Sc.zero) ((all4 l m n).getD k Sc.zero) (all4_sm l m n i oq)) (by intro _;simp [Ty.v,Ex.v,Ct.v,Co.v,Rf.v,Sm.v,Tb.v,Sc.v]) (by simp [Ty.v,Ex.v,Ct.v,Co.v,Rf.v,Sm.v,Tb.v,Sc.v]) (by simp [Ty.v,Ex.v,Ct.v,Co.v,Rf.v,Sm.v,Tb.v,Sc.v]) ?_
     refine drun 1 kq ?_
     refine dend kq ⟨kq,?_⟩
     refine AThen_normal ?_
     refine wSt [8,9,10,49] [(8,.imm ((all4 l m n).map Sc.v)),(9,.int .i64 ((i:Nat):Int)),(10,.int .i64 ((k:Nat):Int)),(49,.bool (!((((all4 l m n).getD i Sc.zero).beq ((all4 l m n).getD k Sc.zero))==(((all4 l m n).getD i Sc.zero).beq ((all4 l m n).getD k Sc.zero)))))] [.box [.imm ((scOf l).sums.map Sm.v),.imm ((scOf l).tabs.map Tb.v)]] kq kq ?_
     by_cases hb3:(!((((all4 l m n).getD i Sc.zero).beq ((all4 l m n).getD k Sc.zero))==(((all4 l m n).getD i Sc.zero).beq ((all4 l m n).getD k Sc.zero))))=true
     · exfalso;simp at hb3
     · refine wIfF kq (Eq.trans (b:=.bool (!((((all4 l m n).getD i Sc.zero).beq ((all4 l m n).getD k Sc.zero))==(((all4 l m n).getD i Sc.zero).beq ((all4 l m n).getD k Sc.zero))))) kq (congrArg AVal.bool (Bool.eq_false_iff.2 hb3))) ?_
       refine wSkip kq ?_
       refine AIn_normal ?_
       refine AThen_normal ?_
       refine wSt [8,9,10] [(8,.imm ((all4 l m n).map Sc.v)),(9,.int .i64 ((i:Nat):Int)),(10,.int .i64 ((k:Nat):Int))] [.box [.imm ((scOf l).sums.map Sm.v),.imm ((scOf l).tabs.map Tb.v)]] kq kq ?_
       refine wOrd kq (vstart ?_)
       refine vrun 1 kq ?_
       refine vsym kq kq (o_add (a:=((k:Nat):Int)) (b:=1) kq (by first|omega|assumption|decide) (by first|omega|assumption|decide)) ?_
       refine vrun 1 kq ?_
       refine vend kq ?_
       refine AThen_normal ⟨k+1,?_,?_,⟨⟨kq,kq,kq,trivial⟩,by simp [BelL,AVal.bel],by simp,kq,by simp [AObj.belO,AVal.bel,belL,Sc.v]⟩⟩
       · omega
       · omega
   · refine wIfF kq (Eq.trans (b:=.bool (decide (((k:Nat):Int)<4))) kq (congrArg AVal.bool (decide_eq_false hb2))) ?_
     refine wExit 2 kq kq ?_
     refine AThen_exit ?_
     refine AThen_exit ?_
     refine AIn_exit ?_
     refine AIn_normal ?_
     refine AThen_normal ?_
     refine wSt [8,9] [(8,.imm ((all4 l m n).map Sc.v)),(9,.int .i64 ((i:Nat):Int))] [.box [.imm ((scOf l).sums.map Sm.v),.imm ((scOf l).tabs.map Tb.v)]] kq kq ?_
     refine wOrd kq (vstart ?_)
     refine vrun 1 kq ?_
     refine vsym kq kq (o_add (a:=((i:Nat):Int)) (b:=1) kq (by first|omega|assumption|decide) (by first|omega|assumption|decide)) ?_
     refine vrun 1 kq ?_
     refine vend kq ?_
     refine AThen_normal ⟨i+1,?_,?_,⟨⟨kq,kq,trivial⟩,by simp [BelL,AVal.bel],by simp,kq,by simp [AObj.belO,AVal.bel,belL,Sc.v]⟩⟩
     · omega
     · omega
 · refine wIfF kq (Eq.trans (b:=.bool (decide (((i:Nat):Int)<4))) kq (congrArg AVal.bool (decide_eq_false hb1))) ?_
   refine wExit 0 kq kq ?_
   refine AThen_exit ?_
   refine AThen_exit ?_
   refine AIn_exit ?_
   refine AThen_normal ?_
   refine wSt [] [] [.box [.imm ((scOf l).sums.map Sm.v),.imm ((scOf l).tabs.map Tb.v)]] kq kq ?_
   refine wSeq kq ?_
   refine wOrd kq (vstart ?_)
   refine vcallP (args:=[]) kq kq kq kq (lives_spec) kq kq kq ?_
   refine vrun 1 kq ?_
   refine vend kq ?_
   refine AThen_normal ?_
   refine wSt [6] [(6,.bool true)] [.box [.imm ((scOf l).sums.map Sm.v),.imm ((scOf l).tabs.map Tb.v)]] kq kq ?_
   refine wRet kq ?_
   refine leafB (b:=true) (.inr rfl) kq ?_
   rfl
end Go.Proofs.YtindpcpdkikdmaaGreatDoor
