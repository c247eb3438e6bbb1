/- Around and Pick. No condition but a positive bound. -/
import Derived.Test.YtindpcpdkikdmaaGreatDoorCD
set_option linter.all false
namespace Go.Proofs.YtindpcpdkikdmaaGreatDoor
open Go.Proofs.YtindpcpdkikdmaaGreatDoor.Abs
set_option maxRecDepth 20000
set_option maxHeartbeats 4000000
def aroundI (x m:Int):Int:=if x<0 then (-(x+1)).tmod m else x.tmod m
def pickI (l:List Int) (q:Nat) (m:Int):Int:=if q<l.length then aroundI (l.getD q 0) m else 0
def i64L (l:List Int):Prop:=∀ x∈l,-9223372036854775808≤x∧x≤9223372036854775807
theorem i64L_at {l:List Int} (h:i64L l) (i:Nat):-9223372036854775808≤l.getD i 0∧l.getD i 0≤9223372036854775807:=by
 by_cases hi:i<l.length
 · rw [List.getD_eq_getElem?_getD,List.getElem?_eq_getElem hi];exact h _ (List.getElem_mem hi)
 · rw [List.getD_eq_getElem?_getD,List.getElem?_eq_none oq];simp
theorem tmod_bd {x m:Int} (hx:0≤x) (hm:0<m):0≤x.tmod m∧x.tmod m<m:=by
 rw [Int.tmod_eq_emod_of_nonneg hx];exact ⟨Int.emod_nonneg _ oq,Int.emod_lt_of_pos _ hm⟩
theorem aroundI_bd (x m:Int) (hm:0<m):0≤aroundI x m∧aroundI x m<m:=by
 unfold aroundI;split
 · exact tmod_bd oq hm
 · exact tmod_bd oq hm
theorem pickI_bd (l:List Int) (q:Nat) (m:Int) (hm:0<m):0≤pickI l q m∧pickI l q m<m:=by
 unfold pickI;split
 · exact aroundI_bd _ _ hm
 · omega
theorem pickI_in {l:List Int} {q:Nat} {m:Int} (h:q<l.length):pickI l q m=aroundI (l.getD q 0) m:=by rw [pickI,if_pos h]
theorem pickI_out {l:List Int} {q:Nat} {m:Int} (h:¬ q<l.length):pickI l q m=0:=by rw [pickI,if_neg h]
noncomputable def c57:Code:=bodyOf Tryz.f57
theorem around_spec (x m:Int) (hx:-9223372036854775808≤x∧x≤9223372036854775807) (hm:0<m):CallsP cx 57 [.int .i64 (x),.int .i64 (m)] (.int .i64 (aroundI x m)):=by
 refine func_intro (cx:=cx) 13 0 [(ResultVar.tmp 4)] Tryz.func57 rfl rfl rfl rfl rfl zq ?_
 show wpA cx 13 0 (at_ c57 []) _ _ _
 refine wSt [0,1] [(0,.int .i64 (x)),(1,.int .i64 (m))] [] kq kq ?_
 refine wSeq kq ?_
 refine wOrd kq (vstart ?_)
 refine vrun 1 kq ?_
 refine vend kq ?_
 refine AThen_normal ?_
 refine wSt [0,1] [(0,.int .i64 (x)),(1,.int .i64 (m))] [] kq kq ?_
 refine wSeq kq ?_
 refine wSeq kq ?_
 refine wOrd kq (vstart ?_)
 refine vrun 2 kq ?_
 refine vend kq ?_
 refine AThen_normal ?_
 refine wSt [0,1,6] [(0,.int .i64 (x)),(1,.int .i64 (m)),(6,.bool (decide ((x)<0)))] [] kq kq ?_
 by_cases hb1:(x)<0
 · refine wIfT kq (Eq.trans (b:=.bool (decide ((x)<0))) kq (congrArg AVal.bool (decide_eq_true hb1))) ?_
   refine wOrd kq (vstart ?_)
   refine vrun 1 kq ?_
   refine vsym kq kq (o_add (a:=(x)) (b:=1) kq oq oq) ?_
   refine vsym kq kq (o_neg (a:=((x)+1)) kq oq oq) ?_
   refine vrun 1 kq ?_
   refine vend kq ?_
   refine AThen_normal ?_
   refine wSt [0,1] [(0,.int .i64 (-((x)+1))),(1,.int .i64 (m))] [] kq kq ?_
   refine wSeq kq ?_
   refine wOrd kq (vstart ?_)
   refine vrun 2 kq ?_
   refine vsym kq kq (o_rem (a:=(-((x)+1))) (b:=(m)) kq oq) ?_
   refine vrun 1 kq ?_
   refine vend kq ?_
   refine AThen_normal ?_
   refine wSt [4] [(4,.int .i64 ((-((x)+1)).tmod (m)))] [] kq kq ?_
   refine wRet kq ?_
   refine leafI (n:=((-((x)+1)).tmod (m))) (.inr rfl) kq ?_
   simp [aroundI, *]
 · refine wIfF kq (Eq.trans (b:=.bool (decide ((x)<0))) kq (congrArg AVal.bool (decide_eq_false hb1))) ?_
   refine wSkip kq ?_
   refine AThen_normal ?_
   refine wSt [0,1] [(0,.int .i64 (x)),(1,.int .i64 (m))] [] kq kq ?_
   refine wSeq kq ?_
   refine wOrd kq (vstart ?_)
   refine vrun 2 kq ?_
   refine vsym kq kq (o_rem (a:=(x)) (b:=(m)) kq oq) ?_
   refine vrun 1 kq ?_
   refine vend kq ?_
   refine AThen_normal ?_
   refine wSt [4] [(4,.int .i64 ((x).tmod (m)))] [] kq kq ?_
   refine wRet kq ?_
   refine leafI (n:=((x).tmod (m))) (.inr rfl) kq ?_
   simp [aroundI, *]
noncomputable def c21:Code:=bodyOf Tryz.f21
theorem pick_spec (l:List Int) (q:Nat) (m:Int) (hl:i64L l) (hm:0<m):CallsP cx 21 [.imm (l.map (AVal.int .i64)),.int .i64 ((q:Nat):Int),.int .i64 (m)] (.int .i64 (pickI l q m)):=by
 refine func_intro (cx:=cx) 21 0 [(ResultVar.tmp 6)] Tryz.func21 rfl rfl rfl rfl rfl zq ?_
 show wpA cx 21 0 (at_ c21 []) _ _ _
 refine wSt [0,1,2] [(0,.imm (l.map (AVal.int .i64))),(1,.int .i64 ((q:Nat):Int)),(2,.int .i64 (m))] [] kq kq ?_
 refine wSeq kq ?_
 refine wOrd kq (vstart ?_)
 refine vrun 1 kq ?_
 refine vend kq ?_
 refine AThen_normal ?_
 refine wSt [0,1,2] [(0,.imm (l.map (AVal.int .i64))),(1,.int .i64 ((q:Nat):Int)),(2,.int .i64 (m))] [] kq kq ?_
 refine wSeq kq ?_
 refine wSeq kq ?_
 refine wOrd kq (vstart ?_)
 refine vrun 3 kq ?_
 by_cases hb1:((q:Nat):Int)<0
 · refine vset 8 (.bool (decide (((q:Nat):Int)<0))) (.bool true) (extO extThen) kq (congrArg AVal.bool (decide_eq_true hb1)) ?_
   refine vset 9 (.bool (decide (((q:Nat):Int)<0))) (.bool true) (extO extThen) kq (congrArg AVal.bool (decide_eq_true hb1)) ?_
   refine vrun 5 kq ?_
   refine vend kq ?_
   refine AThen_normal ?_
   refine wSt [0,1,2,14] [(0,.imm (l.map (AVal.int .i64))),(1,.int .i64 ((q:Nat):Int)),(2,.int .i64 (m)),(14,.bool true)] [] kq kq ?_
   refine wIfT kq kq ?_
   refine wSeq kq ?_
   refine wOrd kq (vstart ?_)
   refine vrun 1 kq ?_
   refine vend kq ?_
   refine AThen_normal ?_
   refine wSt [6] [(6,.int .i64 0)] [] kq kq ?_
   refine wRet kq ?_
   refine AThen_ret ?_
   refine leafI (n:=0) (.inr rfl) kq ?_
   first|(exfalso;omega)|(rw [pickI_in oq];done)|(rw [pickI_in oq];simp;done)|(rw [pickI_out oq];done)
 · refine vset 8 (.bool (decide (((q:Nat):Int)<0))) (.bool false) (extO extThen) kq (congrArg AVal.bool (decide_eq_false hb1)) ?_
   refine vset 9 (.bool (decide (((q:Nat):Int)<0))) (.bool false) (extO extThen) kq (congrArg AVal.bool (decide_eq_false hb1)) ?_
   refine vrun 2 kq ?_
   refine vsym kq kq (o_lenmap (l:=l) (enc:=(AVal.int .i64)) kq ty22) ?_
   refine vrun 2 kq ?_
   refine vend kq ?_
   refine AThen_normal ?_
   refine wSt [0,1,2,14] [(0,.imm (l.map (AVal.int .i64))),(1,.int .i64 ((q:Nat):Int)),(2,.int .i64 (m)),(14,.bool (decide (((q:Nat):Int) ≥ ((l.length:Nat):Int))))] [] kq kq ?_
   by_cases hb2:((q:Nat):Int) ≥ ((l.length:Nat):Int)
   · refine wIfT kq (Eq.trans (b:=.bool (decide (((q:Nat):Int) ≥ ((l.length:Nat):Int)))) kq (congrArg AVal.bool (decide_eq_true hb2))) ?_
     refine wSeq kq ?_
     refine wOrd kq (vstart ?_)
     refine vrun 1 kq ?_
     refine vend kq ?_
     refine AThen_normal ?_
     refine wSt [6] [(6,.int .i64 0)] [] kq kq ?_
     refine wRet kq ?_
     refine AThen_ret ?_
     refine leafI (n:=0) (.inr rfl) kq ?_
     first|(exfalso;omega)|(rw [pickI_in oq];done)|(rw [pickI_in oq];simp;done)|(rw [pickI_out oq];done)
   · refine wIfF kq (Eq.trans (b:=.bool (decide (((q:Nat):Int) ≥ ((l.length:Nat):Int)))) kq (congrArg AVal.bool (decide_eq_false hb2))) ?_
     refine wSkip kq ?_
     refine AThen_normal ?_
     refine wSt [0,1,2] [(0,.imm (l.map (AVal.int .i64))),(1,.int .i64 ((q:Nat):Int)),(2,.int .i64 (m))] [] kq kq ?_
     refine wSeq kq ?_
     refine wOrd kq (vstart ?_)
     refine vrun 2 kq ?_
     refine vsym kq kq (o_ixmap (k:=.i64) (l:=l) (enc:=(AVal.int .i64)) (i:=((q:Nat):Int)) 0 kq ty22 ty3 (fun _=>rfl) (by first|omega|exact i64L_at hl _|assumption|decide) (by first|omega|exact i64L_at hl _|assumption|decide)) ?_
     refine vrun 2 kq ?_
     refine vcallP (args:=[.int .i64 ((l.getD q 0)),.int .i64 (m)]) kq kq kq kq (around_spec ((l.getD q 0)) (m) (by first|omega|exact i64L_at hl _|assumption|decide) (by first|omega|exact i64L_at hl _|assumption|decide)) kq kq kq ?_
     refine vrun 1 kq ?_
     refine vend kq ?_
     refine AThen_normal ?_
     refine wSt [6] [(6,.int .i64 (aroundI ((l.getD q 0)) (m)))] [] kq kq ?_
     refine wRet kq ?_
     refine leafI (n:=(aroundI ((l.getD q 0)) (m))) (.inr rfl) kq ?_
     first|(exfalso;omega)|(rw [pickI_in oq];done)|(rw [pickI_in oq];simp;done)|(rw [pickI_out oq];done)
end Go.Proofs.YtindpcpdkikdmaaGreatDoor
