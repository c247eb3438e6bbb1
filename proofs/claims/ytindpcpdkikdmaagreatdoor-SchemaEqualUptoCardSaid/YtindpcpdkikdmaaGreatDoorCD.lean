/- schema.Equal is the equality of the data. Condition: sizes that can be had. -/
import Derived.Test.YtindpcpdkikdmaaGreatDoorCC
set_option linter.all false
namespace Go.Proofs.YtindpcpdkikdmaaGreatDoor
open Go.Proofs.YtindpcpdkikdmaaGreatDoor.Abs
set_option maxRecDepth 20000
set_option maxHeartbeats 4000000
theorem ren_map_same {α:Type} (enc:α→AVal) (r:Nat→Nat) (h:∀ x,(enc x).ren r=enc x) (l:List α):renL r (l.map enc)=l.map enc:=by
 rw [renL_map,List.map_map];exact List.map_congr_left fun x _=>h x
@[simp] theorem ren_strs (r:Nat→Nat) (l:List (List UInt8)):renL r (l.map AVal.str)=l.map AVal.str:=ren_map_same _ r (fun _=>rfl) l
mutual
theorem Ty.ren_enc (r:Nat→Nat):∀ t:Ty,t.enc.ren r=t.enc
 | .mk k x n l ks=>by simp only [Ty.enc,AVal.ren,renL,ren_strs,Ty.ren_encL r ks]
theorem Ty.ren_encL (r:Nat→Nat):∀ l:List Ty,renL r (Ty.encL l)=Ty.encL l
 | []=>rfl
 | t::l=>by simp only [Ty.encL,renL,Ty.ren_enc r t,Ty.ren_encL r l]
end
mutual
theorem Ex.ren_enc (r:Nat→Nat):∀ t:Ex,t.enc.ren r=t.enc
 | .mk k x n s l b ks p q=>by simp only [Ex.enc,AVal.ren,renL,ren_strs,Ex.ren_encL r ks]
theorem Ex.ren_encL (r:Nat→Nat):∀ l:List Ex,renL r (Ex.encL l)=Ex.encL l
 | []=>rfl
 | t::l=>by simp only [Ex.encL,renL,Ex.ren_enc r t,Ex.ren_encL r l]
end
@[simp] theorem ren_tys (r:Nat→Nat) (l:List Ty):renL r (l.map Ty.enc)=l.map Ty.enc:=ren_map_same _ r (Ty.ren_enc r) l
@[simp] theorem ren_exs (r:Nat→Nat) (l:List Ex):renL r (l.map Ex.enc)=l.map Ex.enc:=ren_map_same _ r (Ex.ren_enc r) l
@[simp] theorem ren_cts (r:Nat→Nat) (l:List Ct):renL r (l.map Ct.v)=l.map Ct.v:=ren_map_same _ r (fun x=>by simp [Ct.v,AVal.ren,renL]) l
@[simp] theorem ren_cos (r:Nat→Nat) (l:List Co):renL r (l.map Co.v)=l.map Co.v:=ren_map_same _ r (fun x=>by simp [Co.v,AVal.ren,renL]) l
@[simp] theorem ren_rfs (r:Nat→Nat) (l:List Rf):renL r (l.map Rf.v)=l.map Rf.v:=ren_map_same _ r (fun x=>by simp [Rf.v,AVal.ren,renL]) l
@[simp] theorem renL_sms (r:Nat→Nat) (l:List Sm):renL r (l.map Sm.v)=l.map Sm.v:=ren_map_same _ r (fun x=>by simp [Sm.v,AVal.ren,renL]) l
@[simp] theorem renL_tbs (r:Nat→Nat) (l:List Tb):renL r (l.map Tb.v)=l.map Tb.v:=ren_map_same _ r (fun x=>by simp [Tb.v,AVal.ren,renL]) l
noncomputable def c7:Code:=bodyOf Tryz.f7
theorem scEqual_spec (a b:Sc) (hs:a.sm):CallsP cx 7 [Sc.v a,Sc.v b] (.bool (a.beq b)):=by
 refine func_intro (cx:=cx) 25 0 [(ResultVar.tmp 4)] Tryz.func7 rfl rfl rfl rfl rfl zq ?_
 show wpA cx 25 0 (at_ c7 []) _ _ _
 refine wSt [0,1] [(0,Sc.v a),(1,Sc.v b)] [] kq kq ?_
 refine wSeq kq ?_
 refine wOrd kq (vstart ?_)
 refine vrun 3 kq ?_
 refine vend kq ?_
 refine AThen_normal ?_
 refine wSt [2,3] [(2,.ptr 0 0),(3,.ptr 1 0)] [.box [.imm (a.sums.map Sm.v),.imm (a.tabs.map Tb.v)],.box [.imm (b.sums.map Sm.v),.imm (b.tabs.map Tb.v)]] kq kq ?_
 refine wSeq kq ?_
 refine wOrd kq (vstart ?_)
 refine vrun 2 kq ?_
 refine vend kq ?_
 refine AThen_normal ?_
 refine wSt [2,3,5] [(2,.ptr 0 0),(3,.ptr 1 0),(5,.ptr 2 0)] [.box [.imm (a.sums.map Sm.v),.imm (a.tabs.map Tb.v)],.box [.imm (b.sums.map Sm.v),.imm (b.tabs.map Tb.v)],.box [.fn (.func 25) [] []]] kq kq ?_
 refine wSeq kq ?_
 refine wOrd kq (vstart ?_)
 refine vrun 2 kq ?_
 refine vend kq ?_
 refine AThen_normal ?_
 refine wSt [2,3,6] [(2,.ptr 0 0),(3,.ptr 1 0),(6,.fn (.func 27) [] [.ptr 2 0])] [.box [.imm (a.sums.map Sm.v),.imm (a.tabs.map Tb.v)],.box [.imm (b.sums.map Sm.v),.imm (b.tabs.map Tb.v)],.box [.fn (.func 25) [] []]] kq kq ?_
 refine wSeq kq ?_
 refine wOrd kq (vstart ?_)
 refine vrun 2 kq ?_
 refine vend kq ?_
 refine AThen_normal ?_
 refine wSt [2,3,6,7] [(2,.ptr 0 0),(3,.ptr 1 0),(6,.fn (.func 27) [] [.ptr 2 0]),(7,.ptr 3 0)] [.box [.imm (a.sums.map Sm.v),.imm (a.tabs.map Tb.v)],.box [.imm (b.sums.map Sm.v),.imm (b.tabs.map Tb.v)],.box [.fn (.func 25) [] []],.box [.fn (.func 29) [] []]] kq kq ?_
 refine wSeq kq ?_
 refine wOrd kq (vstart ?_)
 refine vrun 2 kq ?_
 refine vend kq ?_
 refine AThen_normal ?_
 refine wSt [2,3,6,8] [(2,.ptr 0 0),(3,.ptr 1 0),(6,.fn (.func 27) [] [.ptr 2 0]),(8,.fn (.func 30) [] [.ptr 3 0])] [.box [.imm (a.sums.map Sm.v),.imm (a.tabs.map Tb.v)],.box [.imm (b.sums.map Sm.v),.imm (b.tabs.map Tb.v)],.box [.fn (.func 25) [] []],.box [.fn (.func 29) [] []]] kq kq ?_
 refine wSeq kq ?_
 refine wOrd kq (vstart ?_)
 refine vrun 5 kq ?_
 refine vcallH (args:=[.imm (a.sums.map Sm.v),.imm (b.sums.map Sm.v),.fn (.func 27) [] [.ptr 2 0]]) (v:=.bool (zipAll Sm.beq a.sums b.sums)) (h':=[.box [.imm (a.sums.map Sm.v),.imm (a.tabs.map Tb.v)],.box [.imm (b.sums.map Sm.v),.imm (b.tabs.map Tb.v)],.box [.fn (.func 25) [] []],.box [.fn (.func 29) [] []]]) [.box [.imm (a.sums.map Sm.v),.imm (a.tabs.map Tb.v)],.box [.imm (b.sums.map Sm.v),.imm (b.tabs.map Tb.v)],.box [.fn (.func 25) [] []],.box [.fn (.func 29) [] []]] kq kq kq kq kq (CallsA_at [2] (eqFuncSm_raw a.sums b.sums hs.2.1 hs.1) rfl dq (by simp [belL,AVal.bel]) (by simp [AObj.belO,belL,AVal.bel]) (by simp [renH,AObj.ren,lendR,renL,AVal.ren]) rfl (by simp [renL,AVal.ren,lendR]) (by simp [AVal.ren]) (by simp [lendH,setAll,renH,AObj.ren,renL,AVal.ren,lendR])) ?_
 refine vrun 1 kq ?_
 by_cases hb1:(zipAll Sm.beq a.sums b.sums)=true
 · refine vset 16 (.bool (zipAll Sm.beq a.sums b.sums)) (.bool true) (extO extThen) kq (congrArg AVal.bool (hb1)) ?_
   refine vset 17 (.bool (zipAll Sm.beq a.sums b.sums)) (.bool true) (extO extThen) kq (congrArg AVal.bool (hb1)) ?_
   refine vrun 5 kq ?_
   refine vcallH (args:=[.imm (a.tabs.map Tb.v),.imm (b.tabs.map Tb.v),.fn (.func 30) [] [.ptr 3 0]]) (v:=.bool (zipAll Tb.beq a.tabs b.tabs)) (h':=[.box [.imm (a.sums.map Sm.v),.imm (a.tabs.map Tb.v)],.box [.imm (b.sums.map Sm.v),.imm (b.tabs.map Tb.v)],.box [.fn (.func 25) [] []],.box [.fn (.func 29) [] []]]) [.box [.imm (a.sums.map Sm.v),.imm (a.tabs.map Tb.v)],.box [.imm (b.sums.map Sm.v),.imm (b.tabs.map Tb.v)],.box [.fn (.func 25) [] []],.box [.fn (.func 29) [] []]] kq kq kq kq kq (CallsA_at [3] (eqFuncTb_raw a.tabs b.tabs hs.2.2.2 hs.2.2.1) rfl dq (by simp [belL,AVal.bel]) (by simp [AObj.belO,belL,AVal.bel]) (by simp [renH,AObj.ren,lendR,renL,AVal.ren]) rfl (by simp [renL,AVal.ren,lendR]) (by simp [AVal.ren]) (by simp [lendH,setAll,renH,AObj.ren,renL,AVal.ren,lendR])) ?_
   refine vrun 2 kq ?_
   refine vend kq ?_
   refine AThen_normal ?_
   refine wSt [4] [(4,.bool (zipAll Tb.beq a.tabs b.tabs))] [.box [.imm (a.sums.map Sm.v),.imm (a.tabs.map Tb.v)],.box [.imm (b.sums.map Sm.v),.imm (b.tabs.map Tb.v)],.box [.fn (.func 25) [] []],.box [.fn (.func 29) [] []]] kq kq ?_
   refine wRet kq ?_
   refine leafB (b:=(zipAll Tb.beq a.tabs b.tabs)) (.inr rfl) kq ?_
   simp [Sc.beq, *]
 · refine vset 16 (.bool (zipAll Sm.beq a.sums b.sums)) (.bool false) (extO extThen) kq (congrArg AVal.bool (Bool.eq_false_iff.2 hb1)) ?_
   refine vset 17 (.bool (zipAll Sm.beq a.sums b.sums)) (.bool false) (extO extThen) kq (congrArg AVal.bool (Bool.eq_false_iff.2 hb1)) ?_
   refine vrun 8 kq ?_
   refine vend kq ?_
   refine AThen_normal ?_
   refine wSt [4] [(4,.bool false)] [.box [.imm (a.sums.map Sm.v),.imm (a.tabs.map Tb.v)],.box [.imm (b.sums.map Sm.v),.imm (b.tabs.map Tb.v)],.box [.fn (.func 25) [] []],.box [.fn (.func 29) [] []]] kq kq ?_
   refine wRet kq ?_
   refine leafB (b:=false) (.inr rfl) kq ?_
   simp [Sc.beq, *]
end Go.Proofs.YtindpcpdkikdmaaGreatDoor
