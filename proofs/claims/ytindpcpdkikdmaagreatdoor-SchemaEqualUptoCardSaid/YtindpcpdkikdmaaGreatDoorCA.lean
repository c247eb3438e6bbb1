/- The reference's Equal of schemas. Condition: sizes that can be had. -/
import Derived.Test.YtindpcpdkikdmaaGreatDoorC9
set_option linter.all false
namespace Go.Proofs.YtindpcpdkikdmaaGreatDoor
open Go.Proofs.YtindpcpdkikdmaaGreatDoor.Abs
set_option maxRecDepth 20000
set_option maxHeartbeats 4000000
def Sc.zero:Sc:=⟨[],[]⟩
theorem sc_cells (s:Sc):(Sc.v s).cells=[.imm (s.sums.map Sm.v),.imm (s.tabs.map Tb.v)]:=rfl
noncomputable def c8:Code:=bodyOf Tryz.f8
theorem scSame_spec (a b:Sc) (hs:a.sm):CallsP cx 8 [Sc.v a,Sc.v b] (.bool (a.beq b)):=by
 have hz1:=hs.1
 have hz2:∀ i,i<a.sums.length→(a.sums.getD i Sm.zero).sm:=fun i h=>hs.2.1 _ (getD_mem _ _ _ h)
 have hz3:=hs.2.2.1
 have hz4:∀ i,i<a.tabs.length→(a.tabs.getD i Tb.zero).sm:=fun i h=>hs.2.2.2 _ (getD_mem _ _ _ h)
 refine func_intro (cx:=cx) 65 0 [(ResultVar.tmp 4)] Tryz.func8 rfl rfl rfl rfl rfl zq ?_
 show wpA cx 65 0 (at_ c8 []) _ _ _
 refine wSt [0,1] [(0,Sc.v a),(1,Sc.v b)] [] kq kq ?_
 refine wSeq kq ?_
 refine wOrd kq (vstart ?_)
 refine vrun 3 kq ?_
 refine vend kq ?_
 refine AThen_normal ?_
 refine wSt [2,3] [(2,.ptr 0 0),(3,.ptr 1 0)] [.box [.imm (a.sums.map Sm.v),.imm (a.tabs.map Tb.v)],.box [.imm (b.sums.map Sm.v),.imm (b.tabs.map Tb.v)]] kq kq ?_
 refine wSeq kq ?_
 refine wSeq kq ?_
 refine wOrd kq (vstart ?_)
 refine vrun 2 kq ?_
 refine vsym kq kq (o_lenmap (l:=a.sums) (enc:=Sm.v) kq ty23) ?_
 refine vrun 2 kq ?_
 refine vsym kq kq (o_lenmap (l:=b.sums) (enc:=Sm.v) kq ty23) ?_
 refine vrun 2 kq ?_
 by_cases hb1:((a.sums.length:Nat):Int)=((b.sums.length:Nat):Int)
 · refine vset 15 (.bool (((a.sums.length:Nat):Int) != ((b.sums.length:Nat):Int))) (.bool false) (extO extThen) kq (congrArg AVal.bool (bne_eq_false_iff_eq.2 hb1)) ?_
   refine vset 16 (.bool (((a.sums.length:Nat):Int) != ((b.sums.length:Nat):Int))) (.bool false) (extO extThen) kq (congrArg AVal.bool (bne_eq_false_iff_eq.2 hb1)) ?_
   refine vrun 2 kq ?_
   refine vsym kq kq (o_lenmap (l:=a.tabs) (enc:=Tb.v) kq ty24) ?_
   refine vrun 2 kq ?_
   refine vsym kq kq (o_lenmap (l:=b.tabs) (enc:=Tb.v) kq ty24) ?_
   refine vrun 2 kq ?_
   refine vend kq ?_
   refine AThen_normal ?_
   refine wSt [2,3,24] [(2,.ptr 0 0),(3,.ptr 1 0),(24,.bool (((a.tabs.length:Nat):Int) != ((b.tabs.length:Nat):Int)))] [.box [.imm (a.sums.map Sm.v),.imm (a.tabs.map Tb.v)],.box [.imm (b.sums.map Sm.v),.imm (b.tabs.map Tb.v)]] kq kq ?_
   by_cases hb2:((a.tabs.length:Nat):Int)=((b.tabs.length:Nat):Int)
   · refine wIfF kq (Eq.trans (b:=.bool (((a.tabs.length:Nat):Int) != ((b.tabs.length:Nat):Int))) kq (congrArg AVal.bool (bne_eq_false_iff_eq.2 hb2))) ?_
     refine wSkip kq ?_
     refine AThen_normal ?_
     refine wSt [2,3] [(2,.ptr 0 0),(3,.ptr 1 0)] [.box [.imm (a.sums.map Sm.v),.imm (a.tabs.map Tb.v)],.box [.imm (b.sums.map Sm.v),.imm (b.tabs.map Tb.v)]] kq kq ?_
     refine wSeq kq ?_
     refine wSeq kq ?_
     refine wOrd kq (vstart ?_)
     refine vrun 1 kq ?_
     refine vend kq ?_
     refine AThen_normal ?_
     refine wSt [2,3,5] [(2,.ptr 0 0),(3,.ptr 1 0),(5,.int .i64 0)] [.box [.imm (a.sums.map Sm.v),.imm (a.tabs.map Tb.v)],.box [.imm (b.sums.map Sm.v),.imm (b.tabs.map Tb.v)]] kq kq ?_
     refine wBlock 0 kq kq ?_
     refine wLoop (σ:=Nat) (fun k=>[(2,.ptr 0 0),(3,.ptr 1 0),(5,.int .i64 ((k:Nat):Int))]) (fun k=>[.box [.imm (a.sums.map Sm.v),.imm (a.tabs.map Tb.v)],.box [.imm (b.sums.map Sm.v),.imm (b.tabs.map Tb.v)]]) (fun k=>k≤a.sums.length∧∀ i,i<k→(a.sums.getD i Sm.zero).beq (b.sums.getD i Sm.zero)=true) (fun k=>a.sums.length - k) 0 kq (by exact ⟨Nat.zero_le _,fun i h=>absurd h (Nat.not_lt_zero i)⟩) ⟨⟨kq,kq,kq,trivial⟩,by simp [BelL,AVal.bel],by simp,kq,by simp [AObj.belO]⟩ ?_
     rintro k ⟨hkk,hak⟩
     refine wSeq kq ?_
     refine wSeq kq ?_
     refine wOrd kq (vstart ?_)
     refine vrun 3 kq ?_
     refine vsym kq kq (o_lenmap (l:=a.sums) (enc:=Sm.v) kq ty23) ?_
     refine vrun 1 kq ?_
     refine vend kq ?_
     refine AThen_normal ?_
     refine wSt [2,3,5,29] [(2,.ptr 0 0),(3,.ptr 1 0),(5,.int .i64 ((k:Nat):Int)),(29,.bool (decide (((k:Nat):Int)<((a.sums.length:Nat):Int))))] [.box [.imm (a.sums.map Sm.v),.imm (a.tabs.map Tb.v)],.box [.imm (b.sums.map Sm.v),.imm (b.tabs.map Tb.v)]] kq kq ?_
     by_cases hb3:((k:Nat):Int)<((a.sums.length:Nat):Int)
     · refine wIfT kq (Eq.trans (b:=.bool (decide (((k:Nat):Int)<((a.sums.length:Nat):Int)))) kq (congrArg AVal.bool (decide_eq_true hb3))) ?_
       refine wSkip kq ?_
       refine AThen_normal ?_
       refine wSt [2,3,5] [(2,.ptr 0 0),(3,.ptr 1 0),(5,.int .i64 ((k:Nat):Int))] [.box [.imm (a.sums.map Sm.v),.imm (a.tabs.map Tb.v)],.box [.imm (b.sums.map Sm.v),.imm (b.tabs.map Tb.v)]] kq kq ?_
       refine wSeq kq ?_
       refine wBlock 1 kq kq ?_
       refine wSeq kq ?_
       refine wDrw cxM kq extThen (dstart ?_)
       refine drun 3 kq ?_
       refine dsym kq kq kq ((o_ixmap (k:=.i64) (l:=a.sums) (enc:=Sm.v) (i:=((k:Nat):Int)) Sm.zero kq ty23 ty46 (fun _=>rfl) (by first|omega|exact hz2 k oq|exact hz4 q oq) (by first|omega|exact hz2 k oq|exact hz4 q oq)).trans (congrArg (fun cs=>some (AVal.pimm cs 0,_)) (sm_cells (a.sums.getD k Sm.zero)))) ?_
       refine drun 4 kq ?_
       refine dsym kq kq kq ((o_ixmap (k:=.i64) (l:=b.sums) (enc:=Sm.v) (i:=((k:Nat):Int)) Sm.zero kq ty23 ty46 (fun _=>rfl) (by first|omega|exact hz2 k oq|exact hz4 q oq) (by first|omega|exact hz2 k oq|exact hz4 q oq)).trans (congrArg (fun cs=>some (AVal.pimm cs 0,_)) (sm_cells (b.sums.getD k Sm.zero)))) ?_
       refine drun 1 kq ?_
       refine dcallP (args:=[.agg [.str (a.sums.getD k Sm.zero).name,.imm ((a.sums.getD k Sm.zero).ctors.map Ct.v)],.agg [.str (b.sums.getD k Sm.zero).name,.imm ((b.sums.getD k Sm.zero).ctors.map Ct.v)]]) kq kq kq kq kq (smSame_spec (a.sums.getD k Sm.zero) (b.sums.getD k Sm.zero) (by first|omega|exact hz2 k oq|exact hz4 q oq)) (by intro _;simp [Ty.v,Ex.v,Ct.v,Co.v,Rf.v,Sm.v,Tb.v,Sc.v]) (by simp [Ty.v,Ex.v,Ct.v,Co.v,Rf.v,Sm.v,Tb.v,Sc.v]) (by simp [Ty.v,Ex.v,Ct.v,Co.v,Rf.v,Sm.v,Tb.v,Sc.v]) ?_
       refine drun 1 kq ?_
       refine dend kq ⟨kq,?_⟩
       refine AThen_normal ?_
       refine wSt [2,3,5,6] [(2,.ptr 0 0),(3,.ptr 1 0),(5,.int .i64 ((k:Nat):Int)),(6,.bool ((a.sums.getD k Sm.zero).beq (b.sums.getD k Sm.zero)))] [.box [.imm (a.sums.map Sm.v),.imm (a.tabs.map Tb.v)],.box [.imm (b.sums.map Sm.v),.imm (b.tabs.map Tb.v)]] kq kq ?_
       refine wSeq kq ?_
       refine wOrd kq (vstart ?_)
       refine vrun 2 kq ?_
       refine vend kq ?_
       refine AThen_normal ?_
       refine wSt [2,3,5,44] [(2,.ptr 0 0),(3,.ptr 1 0),(5,.int .i64 ((k:Nat):Int)),(44,.bool (!((a.sums.getD k Sm.zero).beq (b.sums.getD k Sm.zero))))] [.box [.imm (a.sums.map Sm.v),.imm (a.tabs.map Tb.v)],.box [.imm (b.sums.map Sm.v),.imm (b.tabs.map Tb.v)]] kq kq ?_
       by_cases hb4:((a.sums.getD k Sm.zero).beq (b.sums.getD k Sm.zero))=true
       · refine wIfF kq (Eq.trans (b:=.bool (!((a.sums.getD k Sm.zero).beq (b.sums.getD k Sm.zero)))) kq (congrArg AVal.bool (congrArg not (hb4)))) ?_
         refine wSkip kq ?_
         refine AIn_normal ?_
         refine AThen_normal ?_
         refine wSt [2,3,5] [(2,.ptr 0 0),(3,.ptr 1 0),(5,.int .i64 ((k:Nat):Int))] [.box [.imm (a.sums.map Sm.v),.imm (a.tabs.map Tb.v)],.box [.imm (b.sums.map Sm.v),.imm (b.tabs.map Tb.v)]] kq kq ?_
         refine wOrd kq (vstart ?_)
         refine vrun 1 kq ?_
         refine vsym kq kq (o_add (a:=((k:Nat):Int)) (b:=1) kq (by first|omega|exact hz2 k oq|exact hz4 q oq) (by first|omega|exact hz2 k oq|exact hz4 q oq)) ?_
         refine vrun 1 kq ?_
         refine vend kq ?_
         refine AThen_normal ⟨k+1,?_,?_,⟨⟨kq,kq,kq,trivial⟩,by simp [BelL,AVal.bel],by simp,kq,by simp [AObj.belO]⟩⟩
         · omega
         · refine ⟨by omega,fun i hi=>?_⟩
           rcases Nat.lt_succ_iff_lt_or_eq.1 hi with h|h
           · exact hak i h
           · subst h;simp_all
       · refine wIfT kq (Eq.trans (b:=.bool (!((a.sums.getD k Sm.zero).beq (b.sums.getD k Sm.zero)))) kq (congrArg AVal.bool (congrArg not (Bool.eq_false_iff.2 hb4)))) ?_
         refine wSeq kq ?_
         refine wOrd kq (vstart ?_)
         refine vrun 1 kq ?_
         refine vend kq ?_
         refine AThen_normal ?_
         refine wSt [4] [(4,.bool false)] [.box [.imm (a.sums.map Sm.v),.imm (a.tabs.map Tb.v)],.box [.imm (b.sums.map Sm.v),.imm (b.tabs.map Tb.v)]] kq kq ?_
         refine wRet kq ?_
         refine AIn_ret ?_
         refine AThen_ret ?_
         refine AThen_ret ?_
         refine AIn_ret ?_
         refine AThen_ret ?_
         refine leafB (b:=false) (.inr rfl) kq ?_
         refine Eq.trans ?_ (show (zipAll Sm.beq a.sums b.sums && zipAll Tb.beq a.tabs b.tabs)=a.beq b from rfl)
         first|(simp only [zipAll_len Sm.beq a.sums b.sums oq,Bool.and_false,Bool.false_and];done)|(simp only [zipAll_len Tb.beq a.tabs b.tabs oq,Bool.and_false,Bool.false_and];done)|(rw [zipAll_true Sm.beq Sm.zero Sm.zero a.sums b.sums oq (fun i hi=>hak i oq),zipAll_true Tb.beq Tb.zero Tb.zero a.tabs b.tabs oq (fun i hi=>haq i oq)];rfl)|(rw [zipAll_at Tb.beq Tb.zero Tb.zero a.tabs b.tabs q oq oq (by simp_all)];simp;done)|(rw [zipAll_at Sm.beq Sm.zero Sm.zero a.sums b.sums k oq oq (by simp_all)];simp;done)|(simp_all;done)
     · refine wIfF kq (Eq.trans (b:=.bool (decide (((k:Nat):Int)<((a.sums.length:Nat):Int)))) kq (congrArg AVal.bool (decide_eq_false hb3))) ?_
       refine wExit 0 kq kq ?_
       refine AThen_exit ?_
       refine AThen_exit ?_
       refine AIn_exit ?_
       refine AThen_normal ?_
       refine wSt [2,3] [(2,.ptr 0 0),(3,.ptr 1 0)] [.box [.imm (a.sums.map Sm.v),.imm (a.tabs.map Tb.v)],.box [.imm (b.sums.map Sm.v),.imm (b.tabs.map Tb.v)]] kq kq ?_
       refine wSeq kq ?_
       refine wSeq kq ?_
       refine wOrd kq (vstart ?_)
       refine vrun 1 kq ?_
       refine vend kq ?_
       refine AThen_normal ?_
       refine wSt [2,3,7] [(2,.ptr 0 0),(3,.ptr 1 0),(7,.int .i64 0)] [.box [.imm (a.sums.map Sm.v),.imm (a.tabs.map Tb.v)],.box [.imm (b.sums.map Sm.v),.imm (b.tabs.map Tb.v)]] kq kq ?_
       refine wBlock 2 kq kq ?_
       refine wLoop (σ:=Nat) (fun q=>[(2,.ptr 0 0),(3,.ptr 1 0),(7,.int .i64 ((q:Nat):Int))]) (fun q=>[.box [.imm (a.sums.map Sm.v),.imm (a.tabs.map Tb.v)],.box [.imm (b.sums.map Sm.v),.imm (b.tabs.map Tb.v)]]) (fun q=>q≤a.tabs.length∧∀ i,i<q→(a.tabs.getD i Tb.zero).beq (b.tabs.getD i Tb.zero)=true) (fun q=>a.tabs.length - q) 0 kq (by exact ⟨Nat.zero_le _,fun i h=>absurd h (Nat.not_lt_zero i)⟩) ⟨⟨kq,kq,kq,trivial⟩,by simp [BelL,AVal.bel],by simp,kq,by simp [AObj.belO]⟩ ?_
       rintro q ⟨hkq,haq⟩
       refine wSeq kq ?_
       refine wSeq kq ?_
       refine wOrd kq (vstart ?_)
       refine vrun 3 kq ?_
       refine vsym kq kq (o_lenmap (l:=a.tabs) (enc:=Tb.v) kq ty24) ?_
       refine vrun 1 kq ?_
       refine vend kq ?_
       refine AThen_normal ?_
       refine wSt [2,3,7,49] [(2,.ptr 0 0),(3,.ptr 1 0),(7,.int .i64 ((q:Nat):Int)),(49,.bool (decide (((q:Nat):Int)<((a.tabs.length:Nat):Int))))] [.box [.imm (a.sums.map Sm.v),.imm (a.tabs.map Tb.v)],.box [.imm (b.sums.map Sm.v),.imm (b.tabs.map Tb.v)]] kq kq ?_
       by_cases hb5:((q:Nat):Int)<((a.tabs.length:Nat):Int)
       · refine wIfT kq (Eq.trans (b:=.bool (decide (((q:Nat):Int)<((a.tabs.length:Nat):Int)))) kq (congrArg AVal.bool (decide_eq_true hb5))) ?_
         refine wSkip kq ?_
         refine AThen_normal ?_
         refine wSt [2,3,7] [(2,.ptr 0 0),(3,.ptr 1 0),(7,.int .i64 ((q:Nat):Int))] [.box [.imm (a.sums.map Sm.v),.imm (a.tabs.map Tb.v)],.box [.imm (b.sums.map Sm.v),.imm (b.tabs.map Tb.v)]] kq kq ?_
         refine wSeq kq ?_
         refine wBlock 3 kq kq ?_
         refine wSeq kq ?_
         refine wDrw cxM kq extThen (dstart ?_)
         refine drun 3 kq ?_
         refine dsym kq kq kq ((o_ixmap (k:=.i64) (l:=a.tabs) (enc:=Tb.v) (i:=((q:Nat):Int)) Tb.zero kq ty24 ty41 (fun _=>rfl) (by first|omega|exact hz2 k oq|exact hz4 q oq) (by first|omega|exact hz2 k oq|exact hz4 q oq)).trans (congrArg (fun cs=>some (AVal.pimm cs 0,_)) (tb_cells (a.tabs.getD q Tb.zero)))) ?_
         refine drun 4 kq ?_
         refine dsym kq kq kq ((o_ixmap (k:=.i64) (l:=b.tabs) (enc:=Tb.v) (i:=((q:Nat):Int)) Tb.zero kq ty24 ty41 (fun _=>rfl) (by first|omega|exact hz2 k oq|exact hz4 q oq) (by first|omega|exact hz2 k oq|exact hz4 q oq)).trans (congrArg (fun cs=>some (AVal.pimm cs 0,_)) (tb_cells (b.tabs.getD q Tb.zero)))) ?_
         refine drun 1 kq ?_
         refine dcallP (args:=[.agg [.str (a.tabs.getD q Tb.zero).name,.imm ((a.tabs.getD q Tb.zero).cols.map Co.v),.imm ((a.tabs.getD q Tb.zero).key.map AVal.str),.imm ((a.tabs.getD q Tb.zero).refs.map Rf.v),.int .i64 ((a.tabs.getD q Tb.zero).chk.kind),.str (a.tabs.getD q Tb.zero).chk.name,.int .i64 ((a.tabs.getD q Tb.zero).chk.n),.str (a.tabs.getD q Tb.zero).chk.s,.imm ((a.tabs.getD q Tb.zero).chk.names.map AVal.str),.imm ((a.tabs.getD q Tb.zero).chk.binds.map AVal.str),.imm ((a.tabs.getD q Tb.zero).chk.kids.map Ex.enc),.int .i64 ((a.tabs.getD q Tb.zero).chk.pos),.int .i64 ((a.tabs.getD q Tb.zero).chk.fin)],.agg [.str (b.tabs.getD q Tb.zero).name,.imm ((b.tabs.getD q Tb.zero).cols.map Co.v),.imm ((b.tabs.getD q Tb.zero).key.map AVal.str),.imm ((b.tabs.getD q Tb.zero).refs.map Rf.v),.int .i64 ((b.tabs.getD q Tb.zero).chk.kind),.str (b.tabs.getD q Tb.zero).chk.name,.int .i64 ((b.tabs.getD q Tb.zero).chk.n),.str (b.tabs.getD q Tb.zero).chk.s,.imm ((b.tabs.getD q Tb.zero).chk.names.map AVal.str),.imm ((b.tabs.getD q Tb.zero).chk.binds.map AVal.str),.imm ((b.tabs.getD q Tb.zero).chk.kids.map Ex.enc),.int .i64 ((b.tabs.getD q Tb.zero).chk.pos),.int .i64 ((b.tabs.getD q Tb.zero).chk.fin)]]) kq kq kq kq kq (tbSame_spec (a.tabs.getD q Tb.zero) (b.tabs.getD q Tb.zero) (by first|omega|exact hz2 k oq|exact hz4 q oq)) (by intro _;simp [Ty.v,Ex.v,Ct.v,Co.v,Rf.v,Sm.v,Tb.v,Sc.v]) (by simp [Ty.v,Ex.v,Ct.v,Co.v,Rf.v,Sm.v,Tb.v,Sc.v]) (by simp [Ty.v,Ex.v,Ct.v,Co.v,Rf.v,Sm.v,Tb.v,Sc.v]) ?_
         refine drun 1 kq ?_
         refine dend kq ⟨kq,?_⟩
         refine AThen_normal ?_
         refine wSt [2,3,7,8] [(2,.ptr 0 0),(3,.ptr 1 0),(7,.int .i64 ((q:Nat):Int)),(8,.bool ((a.tabs.getD q Tb.zero).beq (b.tabs.getD q Tb.zero)))] [.box [.imm (a.sums.map Sm.v),.imm (a.tabs.map Tb.v)],.box [.imm (b.sums.map Sm.v),.imm (b.tabs.map Tb.v)]] kq kq ?_
         refine wSeq kq ?_
         refine wOrd kq (vstart ?_)
         refine vrun 2 kq ?_
         refine vend kq ?_
         refine AThen_normal ?_
         refine wSt [2,3,7,64] [(2,.ptr 0 0),(3,.ptr 1 0),(7,.int .i64 ((q:Nat):Int)),(64,.bool (!((a.tabs.getD q Tb.zero).beq (b.tabs.getD q Tb.zero))))] [.box [.imm (a.sums.map Sm.v),.imm (a.tabs.map Tb.v)],.box [.imm (b.sums.map Sm.v),.imm (b.tabs.map Tb.v)]] kq kq ?_
         by_cases hb6:((a.tabs.getD q Tb.zero).beq (b.tabs.getD q Tb.zero))=true
         · refine wIfF kq (Eq.trans (b:=.bool (!((a.tabs.getD q Tb.zero).beq (b.tabs.getD q Tb.zero)))) kq (congrArg AVal.bool (congrArg not (hb6)))) ?_
           refine wSkip kq ?_
           refine AIn_normal ?_
           refine AThen_normal ?_
           refine wSt [2,3,7] [(2,.ptr 0 0),(3,.ptr 1 0),(7,.int .i64 ((q:Nat):Int))] [.box [.imm (a.sums.map Sm.v),.imm (a.tabs.map Tb.v)],.box [.imm (b.sums.map Sm.v),.imm (b.tabs.map Tb.v)]] kq kq ?_
           refine wOrd kq (vstart ?_)
           refine vrun 1 kq ?_
           refine vsym kq kq (o_add (a:=((q:Nat):Int)) (b:=1) kq (by first|omega|exact hz2 k oq|exact hz4 q oq) (by first|omega|exact hz2 k oq|exact hz4 q oq)) ?_
           refine vrun 1 kq ?_
           refine vend kq ?_
           refine AThen_normal ⟨q+1,?_,?_,⟨⟨kq,kq,kq,trivial⟩,by simp [BelL,AVal.bel],by simp,kq,by simp [AObj.belO]⟩⟩
           · omega
           · refine ⟨by omega,fun i hi=>?_⟩
             rcases Nat.lt_succ_iff_lt_or_eq.1 hi with h|h
             · exact haq i h
             · subst h;simp_all
         · refine wIfT kq (Eq.trans (b:=.bool (!((a.tabs.getD q Tb.zero).beq (b.tabs.getD q Tb.zero)))) kq (congrArg AVal.bool (congrArg not (Bool.eq_false_iff.2 hb6)))) ?_
           refine wSeq kq ?_
           refine wOrd kq (vstart ?_)
           refine vrun 1 kq ?_
           refine vend kq ?_
           refine AThen_normal ?_
           refine wSt [4] [(4,.bool false)] [.box [.imm (a.sums.map Sm.v),.imm (a.tabs.map Tb.v)],.box [.imm (b.sums.map Sm.v),.imm (b.tabs.map Tb.v)]] kq kq ?_
           refine wRet kq ?_
           refine AIn_ret ?_
           refine AThen_ret ?_
           refine AThen_ret ?_
           refine AIn_ret ?_
           refine AThen_ret ?_
           refine leafB (b:=false) (.inr rfl) kq ?_
           refine Eq.trans ?_ (show (zipAll Sm.beq a.sums b.sums && zipAll Tb.beq a.tabs b.tabs)=a.beq b from rfl)
           first|(simp only [zipAll_len Sm.beq a.sums b.sums oq,Bool.and_false,Bool.false_and];done)|(simp only [zipAll_len Tb.beq a.tabs b.tabs oq,Bool.and_false,Bool.false_and];done)|(rw [zipAll_true Sm.beq Sm.zero Sm.zero a.sums b.sums oq (fun i hi=>hak i oq),zipAll_true Tb.beq Tb.zero Tb.zero a.tabs b.tabs oq (fun i hi=>haq i oq)];rfl)|(rw [zipAll_at Tb.beq Tb.zero Tb.zero a.tabs b.tabs q oq oq (by simp_all)];simp;done)|(rw [zipAll_at Sm.beq Sm.zero Sm.zero a.sums b.sums k oq oq (by simp_all)];simp;done)|(simp_all;done)
       · refine wIfF kq (Eq.trans (b:=.bool (decide (((q:Nat):Int)<((a.tabs.length:Nat):Int)))) kq (congrArg AVal.bool (decide_eq_false hb5))) ?_
         refine wExit 2 kq kq ?_
         refine AThen_exit ?_
         refine AThen_exit ?_
         refine AIn_exit ?_
         refine AThen_normal ?_
         refine wSt [] [] [.box [.imm (a.sums.map Sm.v),.imm (a.tabs.map Tb.v)],.box [.imm (b.sums.map Sm.v),.imm (b.tabs.map Tb.v)]] kq kq ?_
         refine wSeq kq ?_
         refine wOrd kq (vstart ?_)
         refine vrun 1 kq ?_
         refine vend kq ?_
         refine AThen_normal ?_
         refine wSt [4] [(4,.bool true)] [.box [.imm (a.sums.map Sm.v),.imm (a.tabs.map Tb.v)],.box [.imm (b.sums.map Sm.v),.imm (b.tabs.map Tb.v)]] kq kq ?_
         refine wRet kq ?_
         refine leafB (b:=true) (.inr rfl) kq ?_
         refine Eq.trans ?_ (show (zipAll Sm.beq a.sums b.sums && zipAll Tb.beq a.tabs b.tabs)=a.beq b from rfl)
         first|(simp only [zipAll_len Sm.beq a.sums b.sums oq,Bool.and_false,Bool.false_and];done)|(simp only [zipAll_len Tb.beq a.tabs b.tabs oq,Bool.and_false,Bool.false_and];done)|(rw [zipAll_true Sm.beq Sm.zero Sm.zero a.sums b.sums oq (fun i hi=>hak i oq),zipAll_true Tb.beq Tb.zero Tb.zero a.tabs b.tabs oq (fun i hi=>haq i oq)];rfl)|(rw [zipAll_at Tb.beq Tb.zero Tb.zero a.tabs b.tabs q oq oq (by simp_all)];simp;done)|(rw [zipAll_at Sm.beq Sm.zero Sm.zero a.sums b.sums k oq oq (by simp_all)];simp;done)|(simp_all;done)
   · refine wIfT kq (Eq.trans (b:=.bool (((a.tabs.length:Nat):Int) != ((b.tabs.length:Nat):Int))) kq (congrArg AVal.bool (bne_iff_ne.2 hb2))) ?_
     refine wSeq kq ?_
     refine wOrd kq (vstart ?_)
     refine vrun 1 kq ?_
     refine vend kq ?_
     refine AThen_normal ?_
     refine wSt [4] [(4,.bool false)] [.box [.imm (a.sums.map Sm.v),.imm (a.tabs.map Tb.v)],.box [.imm (b.sums.map Sm.v),.imm (b.tabs.map Tb.v)]] kq kq ?_
     refine wRet kq ?_
     refine AThen_ret ?_
     refine leafB (b:=false) (.inr rfl) kq ?_
     refine Eq.trans ?_ (show (zipAll Sm.beq a.sums b.sums && zipAll Tb.beq a.tabs b.tabs)=a.beq b from rfl)
     first|(simp only [zipAll_len Sm.beq a.sums b.sums oq,Bool.and_false,Bool.false_and];done)|(simp only [zipAll_len Tb.beq a.tabs b.tabs oq,Bool.and_false,Bool.false_and];done)|(rw [zipAll_true Sm.beq Sm.zero Sm.zero a.sums b.sums oq (fun i hi=>hak i oq),zipAll_true Tb.beq Tb.zero Tb.zero a.tabs b.tabs oq (fun i hi=>haq i oq)];rfl)|(rw [zipAll_at Tb.beq Tb.zero Tb.zero a.tabs b.tabs q oq oq (by simp_all)];simp;done)|(rw [zipAll_at Sm.beq Sm.zero Sm.zero a.sums b.sums k oq oq (by simp_all)];simp;done)|(simp_all;done)
 · refine vset 15 (.bool (((a.sums.length:Nat):Int) != ((b.sums.length:Nat):Int))) (.bool true) (extO extThen) kq (congrArg AVal.bool (bne_iff_ne.2 hb1)) ?_
   refine vset 16 (.bool (((a.sums.length:Nat):Int) != ((b.sums.length:Nat):Int))) (.bool true) (extO extThen) kq (congrArg AVal.bool (bne_iff_ne.2 hb1)) ?_
   refine vrun 8 kq ?_
   refine vend kq ?_
   refine AThen_normal ?_
   refine wSt [2,3,24] [(2,.ptr 0 0),(3,.ptr 1 0),(24,.bool true)] [.box [.imm (a.sums.map Sm.v),.imm (a.tabs.map Tb.v)],.box [.imm (b.sums.map Sm.v),.imm (b.tabs.map Tb.v)]] kq kq ?_
   refine wIfT kq kq ?_
   refine wSeq kq ?_
   refine wOrd kq (vstart ?_)
   refine vrun 1 kq ?_
   refine vend kq ?_
   refine AThen_normal ?_
   refine wSt [4] [(4,.bool false)] [.box [.imm (a.sums.map Sm.v),.imm (a.tabs.map Tb.v)],.box [.imm (b.sums.map Sm.v),.imm (b.tabs.map Tb.v)]] kq kq ?_
   refine wRet kq ?_
   refine AThen_ret ?_
   refine leafB (b:=false) (.inr rfl) kq ?_
   refine Eq.trans ?_ (show (zipAll Sm.beq a.sums b.sums && zipAll Tb.beq a.tabs b.tabs)=a.beq b from rfl)
   first|(simp only [zipAll_len Sm.beq a.sums b.sums oq,Bool.and_false,Bool.false_and];done)|(simp only [zipAll_len Tb.beq a.tabs b.tabs oq,Bool.and_false,Bool.false_and];done)|(rw [zipAll_true Sm.beq Sm.zero Sm.zero a.sums b.sums oq (fun i hi=>hak i oq),zipAll_true Tb.beq Tb.zero Tb.zero a.tabs b.tabs oq (fun i hi=>haq i oq)];rfl)|(rw [zipAll_at Tb.beq Tb.zero Tb.zero a.tabs b.tabs q oq oq (by simp_all)];simp;done)|(rw [zipAll_at Sm.beq Sm.zero Sm.zero a.sums b.sums k oq oq (by simp_all)];simp;done)|(simp_all;done)
end Go.Proofs.YtindpcpdkikdmaaGreatDoor
