/- Equal of references; the reference's Equal of sums and tables. Condition: sizes that can be had. -/
import Derived.Test.YtindpcpdkikdmaaGreatDoorC7
set_option linter.all false
namespace Go.Proofs.YtindpcpdkikdmaaGreatDoor
open Go.Proofs.YtindpcpdkikdmaaGreatDoor.Abs
set_option maxRecDepth 20000
set_option maxHeartbeats 4000000
def vBinT (ev:Operand→AVal):Op→Option (BinOp×TypeId×AVal×AVal)
 | .binOp op t x y _=>some (op,t,ev x,ev y)
 | _=>none
section
variable {P:Program} {ev:Operand→AVal} {op:Op} {h:AHeap}
theorem vBinT_spec {b:BinOp} {t:TypeId} {x y:AVal} (hv:vBinT ev op=some (b,t,x,y)):aop P h ev op=put1 h (abinX P b t x y):=by
 unfold vBinT at hv
 split at hv <;> simp at hv
 obtain ⟨rfl,rfl,rfl,rfl⟩:=hv
 rfl
theorem o_aggn {t:TypeId} {xs ys:List AVal} {q:Bool} (hv:vBinT ev op=some (.neq,t,.agg xs,.agg ys)) (hq:aggEq P t (.agg xs) (.agg ys)=some q):aop P h ev op=some (.bool !q,h):=by
 rw [vBinT_spec hv];simp only [abinX,hq];rfl
theorem o_agge {t:TypeId} {xs ys:List AVal} {q:Bool} (hv:vBinT ev op=some (.eql,t,.agg xs,.agg ys)) (hq:aggEq P t (.agg xs) (.agg ys)=some q):aop P h ev op=some (.bool q,h):=by
 rw [vBinT_spec hv];simp only [abinX,hq];rfl
end
theorem aggEq_rf (a b:Rf):aggEq cx.P 51 a.v b.v=some (a.beq b):=by
 have e:aggEq cx.P 51 a.v b.v=(match some (a.col==b.col) with
  | some true=>(match some (a.tab==b.tab) with
   | some true=>some true
   | some false=>some false
   | none=>none)
  | some false=>some false
  | none=>none):=by kernel_rfl
 rw [e,Rf.beq]
 cases a.col==b.col <;> cases a.tab==b.tab <;> rfl
noncomputable def c33:Code:=bodyOf Tryz.f33
theorem rfEqual_spec (a b:List Rf) (hn:a.length<1000000000):CallsP cx 33 [.imm (a.map Rf.v),.imm (b.map Rf.v)] (.bool (zipAll Rf.beq a b)):=by
 refine func_intro (cx:=cx) 26 0 [(ResultVar.tmp 4)] Tryz.func33 rfl rfl rfl rfl rfl zq ?_
 show wpA cx 26 0 (at_ c33 []) _ _ _
 refine wSt [0,1] [(0,.imm (a.map Rf.v)),(1,.imm (b.map Rf.v))] [] kq kq ?_
 refine wSeq kq ?_
 refine wOrd kq (vstart ?_)
 refine vrun 1 kq ?_
 refine vend kq ?_
 refine AThen_normal ?_
 refine wSt [0,1] [(0,.imm (a.map Rf.v)),(1,.imm (b.map Rf.v))] [] kq kq ?_
 refine wSeq kq ?_
 refine wSeq kq ?_
 refine wOrd kq (vstart ?_)
 refine vrun 1 kq ?_
 refine vsym kq kq (o_lenmap (l:=a) (enc:=Rf.v) kq ty36) ?_
 refine vrun 1 kq ?_
 refine vsym kq kq (o_lenmap (l:=b) (enc:=Rf.v) kq ty36) ?_
 refine vrun 1 kq ?_
 refine vend kq ?_
 refine AThen_normal ?_
 refine wSt [0,1,10] [(0,.imm (a.map Rf.v)),(1,.imm (b.map Rf.v)),(10,.bool (((a.length:Nat):Int) != ((b.length:Nat):Int)))] [] kq kq ?_
 by_cases hb1:((a.length:Nat):Int)=((b.length:Nat):Int)
 · refine wIfF kq (Eq.trans (b:=.bool (((a.length:Nat):Int) != ((b.length:Nat):Int))) kq (congrArg AVal.bool (bne_eq_false_iff_eq.2 hb1))) ?_
   refine wSkip kq ?_
   refine AThen_normal ?_
   refine wSt [0,1] [(0,.imm (a.map Rf.v)),(1,.imm (b.map Rf.v))] [] kq kq ?_
   refine wSeq kq ?_
   refine wSeq kq ?_
   refine wOrd kq (vstart ?_)
   refine vrun 1 kq ?_
   refine vsym kq kq (o_lenmap (l:=a) (enc:=Rf.v) kq ty36) ?_
   refine vrun 1 kq ?_
   refine vend kq ?_
   refine AThen_normal ?_
   refine wSt [0,1,12,13] [(0,.imm (a.map Rf.v)),(1,.imm (b.map Rf.v)),(12,.int .i64 ((a.length:Nat):Int)),(13,.int .i64 0)] [] kq kq ?_
   refine wBlock 0 kq kq ?_
   refine wLoop (σ:=Nat) (fun k=>[(0,.imm (a.map Rf.v)),(1,.imm (b.map Rf.v)),(12,.int .i64 ((a.length:Nat):Int)),(13,.int .i64 ((k:Nat):Int))]) (fun k=>[]) (fun k=>k≤a.length∧∀ i,i<k→Rf.beq (a.getD i Rf.zero) (b.getD i Rf.zero)=true) (fun k=>a.length - k) 0 kq zq ⟨⟨kq,kq,kq,kq,trivial⟩,by simp [BelL,AVal.bel],by simp,kq,by simp⟩ ?_
   rintro k ⟨hk,ha⟩
   refine wSeq kq ?_
   refine wOrd kq (vstart ?_)
   refine vrun 1 kq ?_
   refine vend kq ?_
   refine AThen_normal ?_
   refine wSt [0,1,12,13,14] [(0,.imm (a.map Rf.v)),(1,.imm (b.map Rf.v)),(12,.int .i64 ((a.length:Nat):Int)),(13,.int .i64 ((k:Nat):Int)),(14,.bool (decide (((k:Nat):Int)<((a.length:Nat):Int))))] [] kq kq ?_
   refine wSeq kq ?_
   by_cases hb2:((k:Nat):Int)<((a.length:Nat):Int)
   · refine wIfT kq (Eq.trans (b:=.bool (decide (((k:Nat):Int)<((a.length:Nat):Int)))) kq (congrArg AVal.bool (decide_eq_true hb2))) ?_
     refine wSkip kq ?_
     refine AThen_normal ?_
     refine wSt [0,1,12,13] [(0,.imm (a.map Rf.v)),(1,.imm (b.map Rf.v)),(12,.int .i64 ((a.length:Nat):Int)),(13,.int .i64 ((k:Nat):Int))] [] kq kq ?_
     refine wSeq kq ?_
     refine wBlock 1 kq kq ?_
     refine wSeq kq ?_
     refine wOrd kq (vstart ?_)
     refine vrun 2 kq ?_
     refine vend kq ?_
     refine AThen_normal ?_
     refine wSt [0,1,5,12,13] [(0,.imm (a.map Rf.v)),(1,.imm (b.map Rf.v)),(5,.int .i64 ((k:Nat):Int)),(12,.int .i64 ((a.length:Nat):Int)),(13,.int .i64 ((k:Nat):Int))] [] kq kq ?_
     refine wSeq kq ?_
     refine wDrw cxM kq extThen (dstart ?_)
     refine drun 2 kq ?_
     refine dsym kq kq kq ((o_ixmap (k:=.i64) (l:=a) (enc:=Rf.v) (i:=((k:Nat):Int)) Rf.zero kq ty36 ty51 (fun _=>rfl) oq oq).trans (congrArg (fun cs=>some (AVal.pimm cs 0,_)) (rf_cells (a.getD k Rf.zero)))) ?_
     refine drun 3 kq ?_
     refine dsym kq kq kq ((o_ixmap (k:=.i64) (l:=b) (enc:=Rf.v) (i:=((k:Nat):Int)) Rf.zero kq ty36 ty51 (fun _=>rfl) oq oq).trans (congrArg (fun cs=>some (AVal.pimm cs 0,_)) (rf_cells (b.getD k Rf.zero)))) ?_
     refine drun 1 kq ?_
     refine dsym kq kq kq (o_aggn kq (aggEq_rf (a.getD k Rf.zero) (b.getD k Rf.zero))) ?_
     refine dend kq ⟨kq,?_⟩
     refine AThen_normal ?_
     refine wSt [0,1,12,13,24] [(0,.imm (a.map Rf.v)),(1,.imm (b.map Rf.v)),(12,.int .i64 ((a.length:Nat):Int)),(13,.int .i64 ((k:Nat):Int)),(24,.bool (!(Rf.beq (a.getD k Rf.zero) (b.getD k Rf.zero))))] [] kq kq ?_
     by_cases hb3:(Rf.beq (a.getD k Rf.zero) (b.getD k Rf.zero))=true
     · refine wIfF kq (Eq.trans (b:=.bool (!(Rf.beq (a.getD k Rf.zero) (b.getD k Rf.zero)))) kq (congrArg AVal.bool (congrArg not (hb3)))) ?_
       refine wSkip kq ?_
       refine AIn_normal ?_
       refine AThen_normal ?_
       refine wSt [0,1,12,13] [(0,.imm (a.map Rf.v)),(1,.imm (b.map Rf.v)),(12,.int .i64 ((a.length:Nat):Int)),(13,.int .i64 ((k:Nat):Int))] [] kq kq ?_
       refine wOrd kq (vstart ?_)
       refine vsym kq kq (o_add (a:=((k:Nat):Int)) (b:=1) kq oq oq) ?_
       refine vrun 1 kq ?_
       refine vend kq ?_
       refine AThen_normal ⟨k+1,?_,?_,⟨⟨kq,kq,kq,kq,trivial⟩,by simp [BelL,AVal.bel],by simp,kq,by simp⟩⟩
       · omega
       · refine ⟨by omega,fun i hi=>?_⟩
         rcases Nat.lt_succ_iff_lt_or_eq.1 hi with h|h
         · exact ha i h
         · subst h;simp_all
     · refine wIfT kq (Eq.trans (b:=.bool (!(Rf.beq (a.getD k Rf.zero) (b.getD k Rf.zero)))) kq (congrArg AVal.bool (congrArg not (Bool.eq_false_iff.2 hb3)))) ?_
       refine wSeq kq ?_
       refine wOrd kq (vstart ?_)
       refine vrun 1 kq ?_
       refine vend kq ?_
       refine AThen_normal ?_
       refine wSt [4] [(4,.bool false)] [] kq kq ?_
       refine wRet kq ?_
       refine AIn_ret ?_
       refine AThen_ret ?_
       refine AThen_ret ?_
       refine AIn_ret ?_
       refine AThen_ret ?_
       refine leafB (b:=false) (.inr rfl) kq ?_
       first|exact (zipAll_len Rf.beq a b oq).symm|exact (zipAll_true Rf.beq Rf.zero Rf.zero a b oq (fun i hi=>ha i oq)).symm|exact (zipAll_at Rf.beq Rf.zero Rf.zero a b k oq oq (by simp_all)).symm
   · refine wIfF kq (Eq.trans (b:=.bool (decide (((k:Nat):Int)<((a.length:Nat):Int)))) kq (congrArg AVal.bool (decide_eq_false hb2))) ?_
     refine wExit 0 kq kq ?_
     refine AThen_exit ?_
     refine AThen_exit ?_
     refine AIn_exit ?_
     refine AThen_normal ?_
     refine wSt [] [] [] kq kq ?_
     refine wSeq kq ?_
     refine wOrd kq (vstart ?_)
     refine vrun 1 kq ?_
     refine vend kq ?_
     refine AThen_normal ?_
     refine wSt [4] [(4,.bool true)] [] kq kq ?_
     refine wRet kq ?_
     refine leafB (b:=true) (.inr rfl) kq ?_
     first|exact (zipAll_len Rf.beq a b oq).symm|exact (zipAll_true Rf.beq Rf.zero Rf.zero a b oq (fun i hi=>ha i oq)).symm|exact (zipAll_at Rf.beq Rf.zero Rf.zero a b k oq oq (by simp_all)).symm
 · refine wIfT kq (Eq.trans (b:=.bool (((a.length:Nat):Int) != ((b.length:Nat):Int))) kq (congrArg AVal.bool (bne_iff_ne.2 hb1))) ?_
   refine wSeq kq ?_
   refine wOrd kq (vstart ?_)
   refine vrun 1 kq ?_
   refine vend kq ?_
   refine AThen_normal ?_
   refine wSt [4] [(4,.bool false)] [] kq kq ?_
   refine wRet kq ?_
   refine AThen_ret ?_
   refine leafB (b:=false) (.inr rfl) kq ?_
   first|exact (zipAll_len Rf.beq a b oq).symm|exact (zipAll_true Rf.beq Rf.zero Rf.zero a b oq (fun i hi=>ha i oq)).symm|exact (zipAll_at Rf.beq Rf.zero Rf.zero a b k oq oq (by simp_all)).symm
end Go.Proofs.YtindpcpdkikdmaaGreatDoor
