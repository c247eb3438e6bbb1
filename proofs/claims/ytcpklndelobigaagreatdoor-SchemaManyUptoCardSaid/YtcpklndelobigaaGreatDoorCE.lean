/- Around and Pick. No condition but a positive bound. -/
import Derived.Test.YtcpklndelobigaaGreatDoorCA
set_option linter.all false
namespace Go.Proofs.YtcpklndelobigaaGreatDoor
open Go.Proofs.YtcpklndelobigaaGreatDoor.Abs
set_option maxRecDepth 20000
set_option maxHeartbeats 4000000
def dT (x m:Int):Int:=if x<0 then (-(x+1)).tmod m else x.tmod m
def aJ (l:List Int) (q:Nat) (m:Int):Int:=if q<l.length then dT (l.getD q 0) m else 0
def my (l:List Int):Prop:=∀ x∈l,-9223372036854775808≤x∧x≤9223372036854775807
theorem yr {l:List Int} (h:my l) (i:Nat):-9223372036854775808≤l.getD i 0∧l.getD i 0≤9223372036854775807:=by
 by_cases hi:i<l.length
 · rw [List.getD_eq_getElem?_getD,List.getElem?_eq_getElem hi];exact h _ (List.getElem_mem hi)
 · rw [List.getD_eq_getElem?_getD,List.getElem?_eq_none oq];simp
theorem tk {x m:Int} (hx:0≤x) (hm:0<m):0≤x.tmod m∧x.tmod m<m:=by
 rw [Int.tmod_eq_emod_of_nonneg hx];exact ⟨Int.emod_nonneg _ oq,Int.emod_lt_of_pos _ hm⟩
theorem lq (x m:Int) (hm:0<m):0≤dT x m∧dT x m<m:=by
 unfold dT;split
 · exact tk oq hm
 · exact tk oq hm
theorem pG (l:List Int) (q:Nat) (m:Int) (hm:0<m):0≤aJ l q m∧aJ l q m<m:=by
 unfold aJ;split
 · exact lq _ _ hm
 · omega
theorem oP {l:List Int} {q:Nat} {m:Int} (h:q<l.length):aJ l q m=dT (l.getD q 0) m:=by rw [aJ,if_pos h]
theorem uI {l:List Int} {q:Nat} {m:Int} (h:¬ q<l.length):aJ l q m=0:=by rw [aJ,if_neg h]
noncomputable def c13:Code:=aT Tryz.f13
theorem kF (x m:Int) (hx:-9223372036854775808≤x∧x≤9223372036854775807) (hm:0<m):ao cx 13 [.int .i64 (x),.int .i64 (m)] (.int .i64 (dT x m)):=by
 refine aC (cx:=cx) 13 0 [(ResultVar.tmp 4)] Tryz.func13 rfl rfl rfl rfl rfl zq ?_
 show wpA cx 13 0 (at_ c13 []) _ _ _
 refine qZ [(0,.int .i64 (x)),(1,.int .i64 (m))] [] ?_ ?_
 refine qU 1 [(0,.int .i64 (x)),(1,.int .i64 (m))] ?_ ?_
 refine az ?_ ?_
 refine qU 2 [(0,.int .i64 (x)),(1,.int .i64 (m)),(6,.bool (decide ((x)<0)))] ?_ ?_
 by_cases hb1:(x)<0
 refine qt (decide_eq_true hb1) ?_ ?_
 refine qo ?_ ?_
 refine qr 1 ?_ ?_
 refine qy (aI (a:=(x)) (b:=1) kq oq oq) ?_ ?_ ?_
 refine qy (AW (a:=((x)+1)) kq oq oq) ?_ ?_ ?_
 refine qR 1 [(0,.int .i64 (-((x)+1))),(1,.int .i64 (m))] [] ?_ ?_
 refine qV 2 ?_ ?_
 refine qy (yO (a:=(-((x)+1))) (b:=(m)) kq oq) ?_ ?_ ?_
 refine qX 1 ?_ ?_
 refine gp (n:=((-((x)+1)).tmod (m))) (.inr rfl) kq ?_
 · simp [dT, *]
 iterate 12 kernel_rfl
 refine qf (decide_eq_false hb1) ?_ ?_
 refine qK ?_ ?_
 refine qz [(0,.int .i64 (x)),(1,.int .i64 (m))] ?_ ?_
 refine qV 2 ?_ ?_
 refine qy (yO (a:=(x)) (b:=(m)) kq oq) ?_ ?_ ?_
 refine qX 1 ?_ ?_
 refine gp (n:=((x).tmod (m))) (.inr rfl) kq ?_
 · simp [dT, *]
 iterate 11 kernel_rfl
noncomputable def c15:Code:=aT Tryz.f15
theorem d8 (l:List Int) (q:Nat) (m:Int) (hl:my l) (hm:0<m):ao cx 15 [.imm (l.map (aa.int .i64)),.int .i64 ((q:Nat):Int),.int .i64 (m)] (.int .i64 (aJ l q m)):=by
 refine aC (cx:=cx) 21 0 [(ResultVar.tmp 6)] Tryz.func15 rfl rfl rfl rfl rfl zq ?_
 show wpA cx 21 0 (at_ c15 []) _ _ _
 refine qZ [(0,.imm (l.map (aa.int .i64))),(1,nI q),(2,.int .i64 (m))] [] ?_ ?_
 refine qU 1 [(0,.imm (l.map (aa.int .i64))),(1,nI q),(2,.int .i64 (m))] ?_ ?_
 refine az ?_ ?_
 refine qV 3 ?_ ?_
 by_cases hb1:((q:Nat):Int)<0
 refine qm [8,9] (decide_eq_true hb1) ?_ ?_
 refine qR 5 [(0,.imm (l.map (aa.int .i64))),(1,nI q),(2,.int .i64 (m)),(14,.bool true)] [] ?_ ?_
 refine cU kq kq ?_
 refine qV 1 ?_ ?_
 refine qT ?_ ?_
 apply aR
 refine gp (n:=0) (.inr rfl) kq ?_
 rotate_left
 iterate 4 kernel_rfl
 refine qm [8,9] (decide_eq_false hb1) ?_ ?_
 refine qr 2 ?_ ?_
 refine qy (aw (l:=l) (enc:=(aa.int .i64)) kq Ch) ?_ ?_ ?_
 refine qR 2 [(0,.imm (l.map (aa.int .i64))),(1,nI q),(2,.int .i64 (m)),(14,.bool (decide (((q:Nat):Int) ≥ ((l.length:Nat):Int))))] [] ?_ ?_
 by_cases hb2:((q:Nat):Int) ≥ ((l.length:Nat):Int)
 refine qt (decide_eq_true hb2) ?_ ?_
 refine qV 1 ?_ ?_
 refine qT ?_ ?_
 apply aR
 refine gp (n:=0) (.inr rfl) kq ?_
 rotate_left
 iterate 3 kernel_rfl
 refine qf (decide_eq_false hb2) ?_ ?_
 refine qK ?_ ?_
 refine qz [(0,.imm (l.map (aa.int .i64))),(1,nI q),(2,.int .i64 (m))] ?_ ?_
 refine qV 2 ?_ ?_
 refine qy (aA (k:=.i64) (l:=l) (enc:=(aa.int .i64)) (i:=((q:Nat):Int)) 0 kq Ch ty3 (fun _=>rfl) oq oq) ?_ ?_ ?_
 refine qr 2 ?_ ?_
 refine qc [.int .i64 ((l.getD q 0)),.int .i64 (m)] (kF ((l.getD q 0)) (m) (yr hl _) oq) ?_ ?_
 refine qX 1 ?_ ?_
 refine gp (n:=(dT ((l.getD q 0)) (m))) (.inr rfl) kq ?_
 rotate_left
 iterate 18 kernel_rfl
 all_goals
  first|(exfalso;omega)|(rw [oP oq];done)|(rw [oP oq];simp;done)|(rw [uI oq];done)
end Go.Proofs.YtcpklndelobigaaGreatDoor
