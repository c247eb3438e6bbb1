/- Put of the reference. No condition. -/
import Derived.Test.YtindpcpdkikdmaaGreatDoorCE
import Derived.Test.YtindpcpdkikdmaaGreatDoorAbsg
set_option linter.all false
namespace Go.Proofs.YtindpcpdkikdmaaGreatDoor
open Go.Proofs.YtindpcpdkikdmaaGreatDoor.Abs
set_option maxRecDepth 20000
set_option maxHeartbeats 4000000
theorem refsL_map0 {α:Type} {enc:α→AVal} (h:∀ x,(enc x).refs=[]):∀ l:List α,refsL (l.map enc)=[]
 | []=>rfl
 | x::l=>by simp only [List.map_cons,refsL,h x,refsL_map0 h l,List.append_nil]
mutual
theorem bel_refs:∀ x:AVal,x.bel 0=true→x.refs=[]
 | .agg cs,h=>by simp only [AVal.refs];exact belL_refs cs (by simpa [AVal.bel] using h)
 | .tup cs,h=>by simp only [AVal.refs];exact belL_refs cs (by simpa [AVal.bel] using h)
 | .pimm cs _,h=>by simp only [AVal.refs];exact belL_refs cs (by simpa [AVal.bel] using h)
 | .imm l,h=>by simp only [AVal.refs];exact belL_refs l (by simpa [AVal.bel] using h)
 | .full l,h=>by simp only [AVal.refs];exact belL_refs l (by simpa [AVal.bel] using h)
 | .fn f xs ys,h=>by
  simp only [AVal.bel,Bool.and_eq_true] at h
  simp only [AVal.refs,belL_refs xs h.1,belL_refs ys h.2,List.append_nil]
 | .iface t v,h=>by simp only [AVal.refs];exact bel_refs v (by simpa [AVal.bel] using h)
 | .ptr o _,h=>by simp [AVal.bel] at h
 | .pown o _ _ _,h=>by simp [AVal.bel] at h
 | .own o _ _,h=>by simp [AVal.bel] at h
 | .map o,h=>by simp [AVal.bel] at h
 | .itr o,h=>by simp [AVal.bel] at h
 | .any,_=>rfl
 | .bool _,_=>rfl
 | .int _ _,_=>rfl
 | .str _,_=>rfl
 | .nilp,_=>rfl
 | .nilm,_=>rfl
 | .nilfn,_=>rfl
 | .nili,_=>rfl
theorem belL_refs:∀ l:List AVal,belL 0 l=true→refsL l=[]
 | [],_=>rfl
 | x::l,h=>by
  simp only [belL,Bool.and_eq_true] at h
  simp only [refsL,bel_refs x h.1,belL_refs l h.2,List.append_nil]
end
@[simp] theorem refs_strs (l:List (List UInt8)):refsL (l.map .str)=[]:=belL_refs _ zq
@[simp] theorem refs_tys (l:List Ty):refsL (l.map Ty.enc)=[]:=belL_refs _ zq
@[simp] theorem refs_ints (l:List Int):refsL (l.map (.int .i64))=[]:=belL_refs _ zq
@[simp] theorem ren_ints (r:Nat→Nat) (l:List Int):renL r (l.map (.int .i64))=l.map (.int .i64):=belL_ren _ _ zq
def putAt (l:List (List UInt8)) (s:List UInt8):Nat:=(l.takeWhile (fun x=>sLess x s)).length
def putN (t:Ty) (s:List UInt8):List (List UInt8):=t.names.take (putAt t.names s)++[s]++t.names.drop (putAt t.names s)
def putK (t:Ty) (s:List UInt8) (x:Ty):List Ty:=t.kids.take (putAt t.names s)++[x]++t.kids.drop (putAt t.names s)
def putT (t:Ty) (s:List UInt8) (x:Ty):Ty:=.mk 5 [] t.n (putN t s) (putK t s x)
def recV (t:Ty):AVal:=.agg [.int .i64 t.kind,.str t.name,.int .i64 t.n,.imm (t.names.map .str),.own 0 0 t.kids.length]
def recH (t:Ty):AHeap:=[.arr 5 (t.kids.map Ty.enc) 0]
theorem recV_put (t:Ty) (s:List UInt8) (x:Ty):recV (putT t s x)=.agg [.int .i64 5,.str [],.int .i64 t.n,.imm ((putN t s).map .str),.own 0 0 (putK t s x).length]:=rfl
theorem recH_put (t:Ty) (s:List UInt8) (x:Ty):recH (putT t s x)=[.arr 5 ((putK t s x).map Ty.enc) 0]:=rfl
theorem putAt_le (l:List (List UInt8)) (s:List UInt8):putAt l s≤l.length:=(List.takeWhile_sublist _).length_le
theorem putAt_stop:∀ (l:List (List UInt8)) (s:List UInt8) (k:Nat),(∀ i,i<k→sLess (l.getD i []) s=true)→k≤l.length→(k<l.length→sLess (l.getD k []) s=false)→putAt l s=k
 | [],s,k,h,hk,_=>by simp at hk;subst hk;rfl
 | x::l,s,0,h,hk,hs=>by
  have:=hs zq
  simp at this
  simp [putAt,List.takeWhile,this]
 | x::l,s,k+1,h,hk,hs=>by
  have h0:=h 0 oq
  simp at h0
  have:=putAt_stop l s k (fun i hi=>by have:=h (i+1) oq;simpa using this) (by simpa using hk) (fun hlt=>by have:=hs (by simpa using hlt);simpa using this)
  simp [putAt,List.takeWhile,h0] at this ⊢
  exact this
noncomputable def c53:Code:=bodyOf Tryz.f53
theorem put_raw (t x:Ty) (s:List UInt8) (hs:t.sz<100000000) (hx:x.sz<100000000) (hnk:t.names.length=t.kids.length):CallsA cx 53 [Ty.v t,.str s,Ty.v x] [] (fun v h=>v=recV (putT t s x)∧h=recH (putT t s x)):=by
 have hz1:=sz_names t
 have hz2:=sz_kids t
 refine func_raw (cx:=cx) 61 0 [(ResultVar.cell 6 54)] Tryz.func53 rfl rfl rfl rfl rfl zq ?_
 show wpA cx 61 0 (at_ c53 []) _ _ _
 refine wSt [0,1,2] [(0,Ty.v t),(1,.str s),(2,Ty.v x)] [] kq kq ?_
 refine wSeq kq ?_
 refine wOrd kq (vstart ?_)
 refine vrun 3 kq ?_
 refine vend kq ?_
 refine AThen_normal ?_
 refine wSt [1,3,5,6] [(1,.str s),(3,.ptr 0 0),(5,.ptr 1 0),(6,.ptr 2 0)] [t.bx,x.bx,.box [.int .i64 0,.str [],.int .i64 0,.full [],.full []]] kq kq ?_
 refine wSeq kq ?_
 refine wOrd kq (vstart ?_)
 refine vrun 1 kq ?_
 refine vend kq ?_
 refine AThen_normal ?_
 refine wSt [1,3,5,6,7] [(1,.str s),(3,.ptr 0 0),(5,.ptr 1 0),(6,.ptr 2 0),(7,.int .i64 0)] [t.bx,x.bx,.box [.int .i64 0,.str [],.int .i64 0,.full [],.full []]] kq kq ?_
 refine wSeq kq ?_
 refine wBlock 0 kq kq ?_
 refine wLoop (σ:=Nat) (fun k=>[(1,.str s),(3,.ptr 0 0),(5,.ptr 1 0),(6,.ptr 2 0),(7,.int .i64 ((k:Nat):Int))]) (fun k=>[t.bx,x.bx,.box [.int .i64 0,.str [],.int .i64 0,.full [],.full []]]) (fun k=>k≤t.names.length∧∀ i,i<k→sLess (t.names.getD i []) s=true) (fun k=>t.names.length - k) 0 kq zq ⟨⟨kq,kq,kq,kq,kq,trivial⟩,by simp [BelL,AVal.bel],by simp,kq,by simp [AObj.belO]⟩ ?_
 rintro k ⟨hk,ha⟩
 refine wSeq kq ?_
 refine wSeq kq ?_
 refine wOrd kq (vstart ?_)
 refine vrun 3 kq ?_
 refine vsym kq kq (o_lenmap (l:=t.names) (enc:=AVal.str) kq ty34) ?_
 refine vrun 2 kq ?_
 by_cases hb1:((k:Nat):Int)<((t.names.length:Nat):Int)
 · refine vset 13 (.bool (decide (((k:Nat):Int)<((t.names.length:Nat):Int)))) (.bool true) (extO extThen) kq (congrArg AVal.bool (decide_eq_true hb1)) ?_
   refine vset 14 (.bool (decide (((k:Nat):Int)<((t.names.length:Nat):Int)))) (.bool true) (extO extThen) kq (congrArg AVal.bool (decide_eq_true hb1)) ?_
   refine vrun 3 kq ?_
   refine vsym kq kq (o_ixmap (k:=.i64) (l:=t.names) (enc:=AVal.str) (i:=((k:Nat):Int)) [] kq ty34 ty9 (fun _=>rfl) oq oq) ?_
   refine vrun 4 kq ?_
   refine vend kq ?_
   refine AThen_normal ?_
   refine wSt [1,3,5,6,7,15,16,17,18,19,20,21,22] [(1,.str s),(3,.ptr 0 0),(5,.ptr 1 0),(6,.ptr 2 0),(7,.int .i64 ((k:Nat):Int)),(15,.ptr 0 3),(16,.imm (t.names.map AVal.str)),(17,.int .i64 ((k:Nat):Int)),(18,.pimm [.str (t.names.getD k [])] 0),(19,.str (t.names.getD k [])),(20,.str s),(21,.bool (sLess (t.names.getD k []) s)),(22,.bool (sLess (t.names.getD k []) s))] [t.bx,x.bx,.box [.int .i64 0,.str [],.int .i64 0,.full [],.full []]] kq kq ?_
   by_cases hb2:(sLess (t.names.getD k []) s)=true
   · refine wIfT kq (Eq.trans (b:=.bool (sLess (t.names.getD k []) s)) kq (congrArg AVal.bool (hb2))) ?_
     refine wSkip kq ?_
     refine AThen_normal ?_
     refine wSt [1,3,5,6,7,15,16,17,18,19,20,21] [(1,.str s),(3,.ptr 0 0),(5,.ptr 1 0),(6,.ptr 2 0),(7,.int .i64 ((k:Nat):Int)),(15,.ptr 0 3),(16,.imm (t.names.map AVal.str)),(17,.int .i64 ((k:Nat):Int)),(18,.pimm [.str (t.names.getD k [])] 0),(19,.str (t.names.getD k [])),(20,.str s),(21,.bool (sLess (t.names.getD k []) s))] [t.bx,x.bx,.box [.int .i64 0,.str [],.int .i64 0,.full [],.full []]] kq kq ?_
     refine wBlock 1 kq kq ?_
     refine wOrd kq (vstart ?_)
     refine vrun 1 kq ?_
     refine vsym kq kq (o_add (a:=((k:Nat):Int)) (b:=1) kq oq oq) ?_
     refine vrun 1 kq ?_
     refine vend kq ?_
     refine AIn_normal ?_
     refine AThen_normal ⟨k+1,?_,?_,⟨⟨kq,kq,kq,kq,kq,trivial⟩,by simp [BelL,AVal.bel],by simp,kq,by simp [AObj.belO]⟩⟩
     · omega
     · refine ⟨by omega,fun i hi=>?_⟩
       rcases Nat.lt_succ_iff_lt_or_eq.1 hi with h|h
       · exact ha i h
       · subst h;assumption
   · refine wIfF kq (Eq.trans (b:=.bool (sLess (t.names.getD k []) s)) kq (congrArg AVal.bool (Bool.eq_false_iff.2 hb2))) ?_
     refine wExit 0 kq kq ?_
     refine AThen_exit ?_
     refine AThen_exit ?_
     refine AIn_exit ?_
     refine AThen_normal ?_
     refine wSt [1,3,5,6,7] [(1,.str s),(3,.ptr 0 0),(5,.ptr 1 0),(6,.ptr 2 0),(7,.int .i64 ((k:Nat):Int))] [t.bx,x.bx,.box [.int .i64 0,.str [],.int .i64 0,.full [],.full []]] kq kq ?_
     refine wSeq kq ?_
     refine wOrd kq (vstart ?_)
     refine vrun 5 kq ?_
     refine vend kq ?_
     refine AThen_normal ?_
     refine wSt [1,3,5,6,7,8] [(1,.str s),(3,.ptr 0 0),(5,.ptr 1 0),(6,.ptr 2 0),(7,.int .i64 ((k:Nat):Int)),(8,.ptr 3 0)] [t.bx,x.bx,.box [.int .i64 0,.str [],.int .i64 0,.full [],.full []],.box [.int .i64 5,.str [],.int .i64 (t.n),.full [],.full []]] kq kq ?_
     refine wOwnB 3 3 1 (cs:=[.int .i64 5,.str [],.int .i64 (t.n),.full [],.full []]) [.int .i64 5,.str [],.int .i64 (t.n),.own 4 0 0,.full []] dq kq kq kq ?_
     refine wOwnB 3 4 5 (cs:=[.int .i64 5,.str [],.int .i64 (t.n),.own 4 0 0,.full []]) [.int .i64 5,.str [],.int .i64 (t.n),.own 4 0 0,.own 5 0 0] dq kq kq kq ?_
     refine wSt [1,3,5,6,7,8] [(1,.str s),(3,.ptr 0 0),(5,.ptr 1 0),(6,.ptr 2 0),(7,.int .i64 ((k:Nat):Int)),(8,.ptr 3 0)] [t.bx,x.bx,.box [.int .i64 0,.str [],.int .i64 0,.full [],.full []],.box [.int .i64 5,.str [],.int .i64 (t.n),.own 4 0 0,.own 5 0 0],.arr 1 (([]:List (List UInt8)).map AVal.str) 0,.arr 5 (([]:List (Ty)).map Ty.enc) 0] kq kq ?_
     refine wSeq kq ?_
     refine wDrw cxM kq extThen (dstart ?_)
     refine drun 5 kq ?_
     refine dsym kq kq kq (o_slcmap (lo:=none) (hi:=(some (.int .i64 ((k:Nat):Int)))) (l:=t.names) (enc:=AVal.str) (x:=0) (y:=((k:Nat):Int)) kq ty34 ty9 (fun _=>rfl) kq kq oq oq oq) ?_
     refine dsymO kq kq kq (o_appmap (o:=4) (len:=0) (l:=([]:List (List UInt8))) (xs:=((t.names.take k).drop 0)) (enc:=AVal.str) (sz:=1) (fr:=0) (x:=(.imm (((t.names.take k).drop 0).map AVal.str))) kq ty34 ty9 ty34 rfl kq rfl (by first|rfl|simp) kq ⟨by decide,by kernel_rfl⟩ (fun _=>rfl) (by simp only [List.length_append,List.length_take,List.length_drop,List.length_cons,List.length_nil];omega) (by simp only [List.length_append,List.length_take,List.length_drop,List.length_cons,List.length_nil];omega)) ?_
     refine drun 2 kq ?_
     refine dsymO kq kq kq (o_appmap (o:=4) (len:=((([]:List (List UInt8))++((t.names.take k).drop 0)).length)) (l:=(([]:List (List UInt8))++((t.names.take k).drop 0))) (xs:=[s]) (enc:=AVal.str) (sz:=1) (fr:=0) (x:=(.full [.str s])) kq ty34 ty9 ty34 rfl kq rfl (by first|rfl|simp) kq ⟨by decide,by kernel_rfl⟩ (fun _=>rfl) (by simp only [List.length_append,List.length_take,List.length_drop,List.length_cons,List.length_nil];omega) (by simp only [List.length_append,List.length_take,List.length_drop,List.length_cons,List.length_nil];omega)) ?_
     refine drun 3 kq ?_
     refine dsym kq kq kq (o_slcmap (lo:=(some (.int .i64 ((k:Nat):Int)))) (hi:=none) (l:=t.names) (enc:=AVal.str) (x:=((k:Nat):Int)) (y:=((t.names.length:Nat):Int)) kq ty34 ty9 (fun _=>rfl) kq kq oq oq oq) ?_
     refine dsymO kq kq kq (o_appmap (o:=4) (len:=(((([]:List (List UInt8))++((t.names.take k).drop 0))++[s]).length)) (l:=((([]:List (List UInt8))++((t.names.take k).drop 0))++[s])) (xs:=((t.names.take t.names.length).drop k)) (enc:=AVal.str) (sz:=1) (fr:=0) (x:=(.imm (((t.names.take t.names.length).drop k).map AVal.str))) kq ty34 ty9 ty34 rfl kq rfl (by first|rfl|simp) kq ⟨by decide,by kernel_rfl⟩ (fun _=>rfl) (by simp only [List.length_append,List.length_take,List.length_drop,List.length_cons,List.length_nil];omega) (by simp only [List.length_append,List.length_take,List.length_drop,List.length_cons,List.length_nil];omega)) ?_
     refine drun 2 kq ?_
     refine dend kq ⟨kq,?_⟩
     refine AThen_normal ?_
     refine wSt [3,5,6,7,8] [(3,.ptr 0 0),(5,.ptr 1 0),(6,.ptr 2 0),(7,.int .i64 ((k:Nat):Int)),(8,.ptr 3 0)] [t.bx,x.bx,.box [.int .i64 0,.str [],.int .i64 0,.full [],.full []],.box [.int .i64 5,.str [],.int .i64 (t.n),.own 4 0 (((([]:List (List UInt8))++((t.names.take k).drop 0))++[s])++((t.names.take t.names.length).drop k)).length,.own 5 0 0],.arr 1 ((((([]:List (List UInt8))++((t.names.take k).drop 0))++[s])++((t.names.take t.names.length).drop k)).map AVal.str) 0,.arr 5 (([]:List (Ty)).map Ty.enc) 0] kq kq ?_
     refine wSeq kq ?_
     refine wDrw cxM kq extThen (dstart ?_)
     refine drun 5 kq ?_
     refine dsym kq kq kq (o_slcmap (lo:=none) (hi:=(some (.int .i64 ((k:Nat):Int)))) (l:=t.kids) (enc:=Ty.enc) (x:=0) (y:=((k:Nat):Int)) kq ty52 ty54 ty_size kq kq oq oq oq) ?_
     refine dsymO kq kq kq (o_appmap (o:=5) (len:=0) (l:=([]:List (Ty))) (xs:=((t.kids.take k).drop 0)) (enc:=Ty.enc) (sz:=5) (fr:=0) (x:=(.imm (((t.kids.take k).drop 0).map Ty.enc))) kq ty52 ty54 ty52 rfl kq rfl (by first|rfl|simp) kq ⟨by decide,by kernel_rfl⟩ ty_ok (by simp only [List.length_append,List.length_take,List.length_drop,List.length_cons,List.length_nil];omega) (by simp only [List.length_append,List.length_take,List.length_drop,List.length_cons,List.length_nil];omega)) ?_
     refine drun 2 kq ?_
     refine dsymO kq kq kq (o_appmap (o:=5) (len:=((([]:List (Ty))++((t.kids.take k).drop 0)).length)) (l:=(([]:List (Ty))++((t.kids.take k).drop 0))) (xs:=[x]) (enc:=Ty.enc) (sz:=5) (fr:=0) (x:=(.full [.agg [.int .i64 (x.kind),.str x.name,.int .i64 (x.n),.imm (x.names.map AVal.str),.imm (x.kids.map Ty.enc)]])) kq ty52 ty54 ty52 rfl kq rfl (by first|rfl|simp) (Eq.trans (b:=some [Ty.v x]) kq (by simp [Ty.enc_v])) ⟨by decide,by kernel_rfl⟩ ty_ok (by simp only [List.length_append,List.length_take,List.length_drop,List.length_cons,List.length_nil];omega) (by simp only [List.length_append,List.length_take,List.length_drop,List.length_cons,List.length_nil];omega)) ?_
     refine drun 3 kq ?_
     refine dsym kq kq kq (o_slcmap (lo:=(some (.int .i64 ((k:Nat):Int)))) (hi:=none) (l:=t.kids) (enc:=Ty.enc) (x:=((k:Nat):Int)) (y:=((t.kids.length:Nat):Int)) kq ty52 ty54 ty_size kq kq oq oq oq) ?_
     refine dsymO kq kq kq (o_appmap (o:=5) (len:=(((([]:List (Ty))++((t.kids.take k).drop 0))++[x]).length)) (l:=((([]:List (Ty))++((t.kids.take k).drop 0))++[x])) (xs:=((t.kids.take t.kids.length).drop k)) (enc:=Ty.enc) (sz:=5) (fr:=0) (x:=(.imm (((t.kids.take t.kids.length).drop k).map Ty.enc))) kq ty52 ty54 ty52 rfl kq rfl (by first|rfl|simp) kq ⟨by decide,by kernel_rfl⟩ ty_ok (by simp only [List.length_append,List.length_take,List.length_drop,List.length_cons,List.length_nil];omega) (by simp only [List.length_append,List.length_take,List.length_drop,List.length_cons,List.length_nil];omega)) ?_
     refine drun 2 kq ?_
     refine dend kq ⟨kq,?_⟩
     refine AThen_normal ?_
     refine wSt [6,8] [(6,.ptr 2 0),(8,.ptr 3 0)] [t.bx,x.bx,.box [.int .i64 0,.str [],.int .i64 0,.full [],.full []],.box [.int .i64 5,.str [],.int .i64 (t.n),.own 4 0 (((([]:List (List UInt8))++((t.names.take k).drop 0))++[s])++((t.names.take t.names.length).drop k)).length,.own 5 0 (((([]:List (Ty))++((t.kids.take k).drop 0))++[x])++((t.kids.take t.kids.length).drop k)).length],.arr 1 ((((([]:List (List UInt8))++((t.names.take k).drop 0))++[s])++((t.names.take t.names.length).drop k)).map AVal.str) 0,.arr 5 ((((([]:List (Ty))++((t.kids.take k).drop 0))++[x])++((t.kids.take t.kids.length).drop k)).map Ty.enc) 0] kq kq ?_
     refine wFrzC 3 3 4 (cs:=[.int .i64 5,.str [],.int .i64 (t.n),.own 4 0 (((([]:List (List UInt8))++((t.names.take k).drop 0))++[s])++((t.names.take t.names.length).drop k)).length,.own 5 0 (((([]:List (Ty))++((t.kids.take k).drop 0))++[x])++((t.kids.take t.kids.length).drop k)).length]) (es:=((((([]:List (List UInt8))++((t.names.take k).drop 0))++[s])++((t.names.take t.names.length).drop k)).map AVal.str)) (off:=0) (len:=((((([]:List (List UInt8))++((t.names.take k).drop 0))++[s])++((t.names.take t.names.length).drop k)).length)) (sz:=1) (fr:=0) [.int .i64 5,.str [],.int .i64 (t.n),.imm ((((([]:List (List UInt8))++((t.names.take k).drop 0))++[s])++((t.names.take t.names.length).drop k)).map AVal.str),.own 5 0 (((([]:List (Ty))++((t.kids.take k).drop 0))++[x])++((t.kids.take t.kids.length).drop k)).length] ((((([]:List (List UInt8))++((t.names.take k).drop 0))++[s])++((t.names.take t.names.length).drop k)).map AVal.str) dq kq kq kq zq kq kq ?_
     refine wSt [6,8] [(6,.ptr 2 0),(8,.ptr 3 0)] [t.bx,x.bx,.box [.int .i64 0,.str [],.int .i64 0,.full [],.full []],.box [.int .i64 5,.str [],.int .i64 (t.n),.imm ((((([]:List (List UInt8))++((t.names.take k).drop 0))++[s])++((t.names.take t.names.length).drop k)).map AVal.str),.own 5 0 (((([]:List (Ty))++((t.kids.take k).drop 0))++[x])++((t.kids.take t.kids.length).drop k)).length],.arr 1 ((((([]:List (List UInt8))++((t.names.take k).drop 0))++[s])++((t.names.take t.names.length).drop k)).map AVal.str) ((((([]:List (List UInt8))++((t.names.take k).drop 0))++[s])++((t.names.take t.names.length).drop k)).map AVal.str).length,.arr 5 ((((([]:List (Ty))++((t.kids.take k).drop 0))++[x])++((t.kids.take t.kids.length).drop k)).map Ty.enc) 0] kq kq ?_
     refine wSeq kq ?_
     refine wOrd kq (vstart ?_)
     refine vrun 2 kq ?_
     refine vend kq ?_
     refine AThen_normal ?_
     refine wSt [6] [(6,.ptr 2 0)] [t.bx,x.bx,.box [.int .i64 5,.str [],.int .i64 (t.n),.imm ((((([]:List (List UInt8))++((t.names.take k).drop 0))++[s])++((t.names.take t.names.length).drop k)).map AVal.str),.own 5 0 (((([]:List (Ty))++((t.kids.take k).drop 0))++[x])++((t.kids.take t.kids.length).drop k)).length],.box [.int .i64 5,.str [],.int .i64 (t.n),.imm ((((([]:List (List UInt8))++((t.names.take k).drop 0))++[s])++((t.names.take t.names.length).drop k)).map AVal.str),.own 5 0 (((([]:List (Ty))++((t.kids.take k).drop 0))++[x])++((t.kids.take t.kids.length).drop k)).length],.arr 1 ((((([]:List (List UInt8))++((t.names.take k).drop 0))++[s])++((t.names.take t.names.length).drop k)).map AVal.str) ((((([]:List (List UInt8))++((t.names.take k).drop 0))++[s])++((t.names.take t.names.length).drop k)).map AVal.str).length,.arr 5 ((((([]:List (Ty))++((t.kids.take k).drop 0))++[x])++((t.kids.take t.kids.length).drop k)).map Ty.enc) 0] kq kq ?_
     refine wRen [5,2] [(6,.ptr 1 0)] [.arr 5 ((((([]:List (Ty))++((t.kids.take k).drop 0))++[x])++((t.kids.take t.kids.length).drop k)).map Ty.enc) 0,.box [.int .i64 5,.str [],.int .i64 (t.n),.imm ((((([]:List (List UInt8))++((t.names.take k).drop 0))++[s])++((t.names.take t.names.length).drop k)).map AVal.str),.own 0 0 (((([]:List (Ty))++((t.kids.take k).drop 0))++[x])++((t.kids.take t.kids.length).drop k)).length]] dq (by simp [-List.map_append,-List.map_take,-List.map_drop,-List.append_assoc,AVal.refs,refsL,AObj.refs,AObj.isIter,objOk,Abs.renT,keepH,renO,AObj.ren,AVal.ren,renL,List.idxOf_cons]) (by simp [-List.map_append,-List.map_take,-List.map_drop,-List.append_assoc,AVal.refs,refsL,AObj.refs,AObj.isIter,objOk,Abs.renT,keepH,renO,AObj.ren,AVal.ren,renL,List.idxOf_cons]) (by simp [-List.map_append,-List.map_take,-List.map_drop,-List.append_assoc,AVal.refs,refsL,AObj.refs,AObj.isIter,objOk,Abs.renT,keepH,renO,AObj.ren,AVal.ren,renL,List.idxOf_cons]) (by simp [-List.map_append,-List.map_take,-List.map_drop,-List.append_assoc,AVal.refs,refsL,AObj.refs,AObj.isIter,objOk,Abs.renT,keepH,renO,AObj.ren,AVal.ren,renL,List.idxOf_cons]) ?_
     refine wSt [6] [(6,.ptr 1 0)] [.arr 5 ((((([]:List (Ty))++((t.kids.take k).drop 0))++[x])++((t.kids.take t.kids.length).drop k)).map Ty.enc) 0,.box [.int .i64 5,.str [],.int .i64 (t.n),.imm ((((([]:List (List UInt8))++((t.names.take k).drop 0))++[s])++((t.names.take t.names.length).drop k)).map AVal.str),.own 0 0 (((([]:List (Ty))++((t.kids.take k).drop 0))++[x])++((t.kids.take t.kids.length).drop k)).length]] kq kq ?_
     refine wRet kq ?_
     refine leafR (l:=[.agg [.int .i64 5,.str [],.int .i64 (t.n),.imm ((((([]:List (List UInt8))++((t.names.take k).drop 0))++[s])++((t.names.take t.names.length).drop k)).map AVal.str),.own 0 0 (((([]:List (Ty))++((t.kids.take k).drop 0))++[x])++((t.kids.take t.kids.length).drop k)).length]]) 1 [.arr 5 ((((([]:List (Ty))++((t.kids.take k).drop 0))++[x])++((t.kids.take t.kids.length).drop k)).map Ty.enc) 0] (.inr rfl) kq (Nat.zero_le _) kq (by simp [awrap,-List.map_append,-List.map_take,-List.map_drop,-List.append_assoc]) (by simp [AObj.belO,-List.map_append,-List.map_take,-List.map_drop,-List.append_assoc]) ?_
     have hput:putAt t.names s=k:=putAt_stop _ _ _ ha oq (fun hlt=>by first|exact Bool.eq_false_iff.2 aq|(exfalso;omega))
     refine ⟨?_,?_⟩
     · rw [recV_put];simp [putN,putK,hput,awrap]
     · rw [recH_put];simp [putN,putK,hput]
 · refine vset 13 (.bool (decide (((k:Nat):Int)<((t.names.length:Nat):Int)))) (.bool false) (extO extThen) kq (congrArg AVal.bool (decide_eq_false hb1)) ?_
   refine vset 14 (.bool (decide (((k:Nat):Int)<((t.names.length:Nat):Int)))) (.bool false) (extO extThen) kq (congrArg AVal.bool (decide_eq_false hb1)) ?_
   refine vrun 8 kq ?_
   refine vend kq ?_
   refine AThen_normal ?_
   refine wSt [1,3,5,6,7,15,16,17,18,19,20,21,22] [(1,.str s),(3,.ptr 0 0),(5,.ptr 1 0),(6,.ptr 2 0),(7,.int .i64 ((k:Nat):Int)),(15,.tup []),(16,.tup []),(17,.tup []),(18,.tup []),(19,.tup []),(20,.tup []),(21,.tup []),(22,.bool false)] [t.bx,x.bx,.box [.int .i64 0,.str [],.int .i64 0,.full [],.full []]] kq kq ?_
   refine wIfF kq kq ?_
   refine wExit 0 kq kq ?_
   refine AThen_exit ?_
   refine AThen_exit ?_
   refine AIn_exit ?_
   refine AThen_normal ?_
   refine wSt [1,3,5,6,7] [(1,.str s),(3,.ptr 0 0),(5,.ptr 1 0),(6,.ptr 2 0),(7,.int .i64 ((k:Nat):Int))] [t.bx,x.bx,.box [.int .i64 0,.str [],.int .i64 0,.full [],.full []]] kq kq ?_
   refine wSeq kq ?_
   refine wOrd kq (vstart ?_)
   refine vrun 5 kq ?_
   refine vend kq ?_
   refine AThen_normal ?_
   refine wSt [1,3,5,6,7,8] [(1,.str s),(3,.ptr 0 0),(5,.ptr 1 0),(6,.ptr 2 0),(7,.int .i64 ((k:Nat):Int)),(8,.ptr 3 0)] [t.bx,x.bx,.box [.int .i64 0,.str [],.int .i64 0,.full [],.full []],.box [.int .i64 5,.str [],.int .i64 (t.n),.full [],.full []]] kq kq ?_
   refine wOwnB 3 3 1 (cs:=[.int .i64 5,.str [],.int .i64 (t.n),.full [],.full []]) [.int .i64 5,.str [],.int .i64 (t.n),.own 4 0 0,.full []] dq kq kq kq ?_
   refine wOwnB 3 4 5 (cs:=[.int .i64 5,.str [],.int .i64 (t.n),.own 4 0 0,.full []]) [.int .i64 5,.str [],.int .i64 (t.n),.own 4 0 0,.own 5 0 0] dq kq kq kq ?_
   refine wSt [1,3,5,6,7,8] [(1,.str s),(3,.ptr 0 0),(5,.ptr 1 0),(6,.ptr 2 0),(7,.int .i64 ((k:Nat):Int)),(8,.ptr 3 0)] [t.bx,x.bx,.box [.int .i64 0,.str [],.int .i64 0,.full [],.full []],.box [.int .i64 5,.str [],.int .i64 (t.n),.own 4 0 0,.own 5 0 0],.arr 1 (([]:List (List UInt8)).map AVal.str) 0,.arr 5 (([]:List (Ty)).map Ty.enc) 0] kq kq ?_
   refine wSeq kq ?_
   refine wDrw cxM kq extThen (dstart ?_)
   refine drun 5 kq ?_
   refine dsym kq kq kq (o_slcmap (lo:=none) (hi:=(some (.int .i64 ((k:Nat):Int)))) (l:=t.names) (enc:=AVal.str) (x:=0) (y:=((k:Nat):Int)) kq ty34 ty9 (fun _=>rfl) kq kq oq oq oq) ?_
   refine dsymO kq kq kq (o_appmap (o:=4) (len:=0) (l:=([]:List (List UInt8))) (xs:=((t.names.take k).drop 0)) (enc:=AVal.str) (sz:=1) (fr:=0) (x:=(.imm (((t.names.take k).drop 0).map AVal.str))) kq ty34 ty9 ty34 rfl kq rfl (by first|rfl|simp) kq ⟨by decide,by kernel_rfl⟩ (fun _=>rfl) (by simp only [List.length_append,List.length_take,List.length_drop,List.length_cons,List.length_nil];omega) (by simp only [List.length_append,List.length_take,List.length_drop,List.length_cons,List.length_nil];omega)) ?_
   refine drun 2 kq ?_
   refine dsymO kq kq kq (o_appmap (o:=4) (len:=((([]:List (List UInt8))++((t.names.take k).drop 0)).length)) (l:=(([]:List (List UInt8))++((t.names.take k).drop 0))) (xs:=[s]) (enc:=AVal.str) (sz:=1) (fr:=0) (x:=(.full [.str s])) kq ty34 ty9 ty34 rfl kq rfl (by first|rfl|simp) kq ⟨by decide,by kernel_rfl⟩ (fun _=>rfl) (by simp only [List.length_append,List.length_take,List.length_drop,List.length_cons,List.length_nil];omega) (by simp only [List.length_append,List.length_take,List.length_drop,List.length_cons,List.length_nil];omega)) ?_
   refine drun 3 kq ?_
   refine dsym kq kq kq (o_slcmap (lo:=(some (.int .i64 ((k:Nat):Int)))) (hi:=none) (l:=t.names) (enc:=AVal.str) (x:=((k:Nat):Int)) (y:=((t.names.length:Nat):Int)) kq ty34 ty9 (fun _=>rfl) kq kq oq oq oq) ?_
   refine dsymO kq kq kq (o_appmap (o:=4) (len:=(((([]:List (List UInt8))++((t.names.take k).drop 0))++[s]).length)) (l:=((([]:List (List UInt8))++((t.names.take k).drop 0))++[s])) (xs:=((t.names.take t.names.length).drop k)) (enc:=AVal.str) (sz:=1) (fr:=0) (x:=(.imm (((t.names.take t.names.length).drop k).map AVal.str))) kq ty34 ty9 ty34 rfl kq rfl (by first|rfl|simp) kq ⟨by decide,by kernel_rfl⟩ (fun _=>rfl) (by simp only [List.length_append,List.length_take,List.length_drop,List.length_cons,List.length_nil];omega) (by simp only [List.length_append,List.length_take,List.length_drop,List.length_cons,List.length_nil];omega)) ?_
   refine drun 2 kq ?_
   refine dend kq ⟨kq,?_⟩
   refine AThen_normal ?_
   refine wSt [3,5,6,7,8] [(3,.ptr 0 0),(5,.ptr 1 0),(6,.ptr 2 0),(7,.int .i64 ((k:Nat):Int)),(8,.ptr 3 0)] [t.bx,x.bx,.box [.int .i64 0,.str [],.int .i64 0,.full [],.full []],.box [.int .i64 5,.str [],.int .i64 (t.n),.own 4 0 (((([]:List (List UInt8))++((t.names.take k).drop 0))++[s])++((t.names.take t.names.length).drop k)).length,.own 5 0 0],.arr 1 ((((([]:List (List UInt8))++((t.names.take k).drop 0))++[s])++((t.names.take t.names.length).drop k)).map AVal.str) 0,.arr 5 (([]:List (Ty)).map Ty.enc) 0] kq kq ?_
   refine wSeq kq ?_
   refine wDrw cxM kq extThen (dstart ?_)
   refine drun 5 kq ?_
   refine dsym kq kq kq (o_slcmap (lo:=none) (hi:=(some (.int .i64 ((k:Nat):Int)))) (l:=t.kids) (enc:=Ty.enc) (x:=0) (y:=((k:Nat):Int)) kq ty52 ty54 ty_size kq kq oq oq oq) ?_
   refine dsymO kq kq kq (o_appmap (o:=5) (len:=0) (l:=([]:List (Ty))) (xs:=((t.kids.take k).drop 0)) (enc:=Ty.enc) (sz:=5) (fr:=0) (x:=(.imm (((t.kids.take k).drop 0).map Ty.enc))) kq ty52 ty54 ty52 rfl kq rfl (by first|rfl|simp) kq ⟨by decide,by kernel_rfl⟩ ty_ok (by simp only [List.length_append,List.length_take,List.length_drop,List.length_cons,List.length_nil];omega) (by simp only [List.length_append,List.length_take,List.length_drop,List.length_cons,List.length_nil];omega)) ?_
   refine drun 2 kq ?_
   refine dsymO kq kq kq (o_appmap (o:=5) (len:=((([]:List (Ty))++((t.kids.take k).drop 0)).length)) (l:=(([]:List (Ty))++((t.kids.take k).drop 0))) (xs:=[x]) (enc:=Ty.enc) (sz:=5) (fr:=0) (x:=(.full [.agg [.int .i64 (x.kind),.str x.name,.int .i64 (x.n),.imm (x.names.map AVal.str),.imm (x.kids.map Ty.enc)]])) kq ty52 ty54 ty52 rfl kq rfl (by first|rfl|simp) (Eq.trans (b:=some [Ty.v x]) kq (by simp [Ty.enc_v])) ⟨by decide,by kernel_rfl⟩ ty_ok (by simp only [List.length_append,List.length_take,List.length_drop,List.length_cons,List.length_nil];omega) (by simp only [List.length_append,List.length_take,List.length_drop,List.length_cons,List.length_nil];omega)) ?_
   refine drun 3 kq ?_
   refine dsym kq kq kq (o_slcmap (lo:=(some (.int .i64 ((k:Nat):Int)))) (hi:=none) (l:=t.kids) (enc:=Ty.enc) (x:=((k:Nat):Int)) (y:=((t.kids.length:Nat):Int)) kq ty52 ty54 ty_size kq kq oq oq oq) ?_
   refine dsymO kq kq kq (o_appmap (o:=5) (len:=(((([]:List (Ty))++((t.kids.take k).drop 0))++[x]).length)) (l:=((([]:List (Ty))++((t.kids.take k).drop 0))++[x])) (xs:=((t.kids.take t.kids.length).drop k)) (enc:=Ty.enc) (sz:=5) (fr:=0) (x:=(.imm (((t.kids.take t.kids.length).drop k).map Ty.enc))) kq ty52 ty54 ty52 rfl kq rfl (by first|rfl|simp) kq ⟨by decide,by kernel_rfl⟩ ty_ok (by simp only [List.length_append,List.length_take,List.length_drop,List.length_cons,List.length_nil];omega) (by simp only [List.length_append,List.length_take,List.length_drop,List.length_cons,List.length_nil];omega)) ?_
   refine drun 2 kq ?_
   refine dend kq ⟨kq,?_⟩
   refine AThen_normal ?_
   refine wSt [6,8] [(6,.ptr 2 0),(8,.ptr 3 0)] [t.bx,x.bx,.box [.int .i64 0,.str [],.int .i64 0,.full [],.full []],.box [.int .i64 5,.str [],.int .i64 (t.n),.own 4 0 (((([]:List (List UInt8))++((t.names.take k).drop 0))++[s])++((t.names.take t.names.length).drop k)).length,.own 5 0 (((([]:List (Ty))++((t.kids.take k).drop 0))++[x])++((t.kids.take t.kids.length).drop k)).length],.arr 1 ((((([]:List (List UInt8))++((t.names.take k).drop 0))++[s])++((t.names.take t.names.length).drop k)).map AVal.str) 0,.arr 5 ((((([]:List (Ty))++((t.kids.take k).drop 0))++[x])++((t.kids.take t.kids.length).drop k)).map Ty.enc) 0] kq kq ?_
   refine wFrzC 3 3 4 (cs:=[.int .i64 5,.str [],.int .i64 (t.n),.own 4 0 (((([]:List (List UInt8))++((t.names.take k).drop 0))++[s])++((t.names.take t.names.length).drop k)).length,.own 5 0 (((([]:List (Ty))++((t.kids.take k).drop 0))++[x])++((t.kids.take t.kids.length).drop k)).length]) (es:=((((([]:List (List UInt8))++((t.names.take k).drop 0))++[s])++((t.names.take t.names.length).drop k)).map AVal.str)) (off:=0) (len:=((((([]:List (List UInt8))++((t.names.take k).drop 0))++[s])++((t.names.take t.names.length).drop k)).length)) (sz:=1) (fr:=0) [.int .i64 5,.str [],.int .i64 (t.n),.imm ((((([]:List (List UInt8))++((t.names.take k).drop 0))++[s])++((t.names.take t.names.length).drop k)).map AVal.str),.own 5 0 (((([]:List (Ty))++((t.kids.take k).drop 0))++[x])++((t.kids.take t.kids.length).drop k)).length] ((((([]:List (List UInt8))++((t.names.take k).drop 0))++[s])++((t.names.take t.names.length).drop k)).map AVal.str) dq kq kq kq zq kq kq ?_
   refine wSt [6,8] [(6,.ptr 2 0),(8,.ptr 3 0)] [t.bx,x.bx,.box [.int .i64 0,.str [],.int .i64 0,.full [],.full []],.box [.int .i64 5,.str [],.int .i64 (t.n),.imm ((((([]:List (List UInt8))++((t.names.take k).drop 0))++[s])++((t.names.take t.names.length).drop k)).map AVal.str),.own 5 0 (((([]:List (Ty))++((t.kids.take k).drop 0))++[x])++((t.kids.take t.kids.length).drop k)).length],.arr 1 ((((([]:List (List UInt8))++((t.names.take k).drop 0))++[s])++((t.names.take t.names.length).drop k)).map AVal.str) ((((([]:List (List UInt8))++((t.names.take k).drop 0))++[s])++((t.names.take t.names.length).drop k)).map AVal.str).length,.arr 5 ((((([]:List (Ty))++((t.kids.take k).drop 0))++[x])++((t.kids.take t.kids.length).drop k)).map Ty.enc) 0] kq kq ?_
   refine wSeq kq ?_
   refine wOrd kq (vstart ?_)
   refine vrun 2 kq ?_
   refine vend kq ?_
   refine AThen_normal ?_
   refine wSt [6] [(6,.ptr 2 0)] [t.bx,x.bx,.box [.int .i64 5,.str [],.int .i64 (t.n),.imm ((((([]:List (List UInt8))++((t.names.take k).drop 0))++[s])++((t.names.take t.names.length).drop k)).map AVal.str),.own 5 0 (((([]:List (Ty))++((t.kids.take k).drop 0))++[x])++((t.kids.take t.kids.length).drop k)).length],.box [.int .i64 5,.str [],.int .i64 (t.n),.imm ((((([]:List (List UInt8))++((t.names.take k).drop 0))++[s])++((t.names.take t.names.length).drop k)).map AVal.str),.own 5 0 (((([]:List (Ty))++((t.kids.take k).drop 0))++[x])++((t.kids.take t.kids.length).drop k)).length],.arr 1 ((((([]:List (List UInt8))++((t.names.take k).drop 0))++[s])++((t.names.take t.names.length).drop k)).map AVal.str) ((((([]:List (List UInt8))++((t.names.take k).drop 0))++[s])++((t.names.take t.names.length).drop k)).map AVal.str).length,.arr 5 ((((([]:List (Ty))++((t.kids.take k).drop 0))++[x])++((t.kids.take t.kids.length).drop k)).map Ty.enc) 0] kq kq ?_
   refine wRen [5,2] [(6,.ptr 1 0)] [.arr 5 ((((([]:List (Ty))++((t.kids.take k).drop 0))++[x])++((t.kids.take t.kids.length).drop k)).map Ty.enc) 0,.box [.int .i64 5,.str [],.int .i64 (t.n),.imm ((((([]:List (List UInt8))++((t.names.take k).drop 0))++[s])++((t.names.take t.names.length).drop k)).map AVal.str),.own 0 0 (((([]:List (Ty))++((t.kids.take k).drop 0))++[x])++((t.kids.take t.kids.length).drop k)).length]] dq (by simp [-List.map_append,-List.map_take,-List.map_drop,-List.append_assoc,AVal.refs,refsL,AObj.refs,AObj.isIter,objOk,Abs.renT,keepH,renO,AObj.ren,AVal.ren,renL,List.idxOf_cons]) (by simp [-List.map_append,-List.map_take,-List.map_drop,-List.append_assoc,AVal.refs,refsL,AObj.refs,AObj.isIter,objOk,Abs.renT,keepH,renO,AObj.ren,AVal.ren,renL,List.idxOf_cons]) (by simp [-List.map_append,-List.map_take,-List.map_drop,-List.append_assoc,AVal.refs,refsL,AObj.refs,AObj.isIter,objOk,Abs.renT,keepH,renO,AObj.ren,AVal.ren,renL,List.idxOf_cons]) (by simp [-List.map_append,-List.map_take,-List.map_drop,-List.append_assoc,AVal.refs,refsL,AObj.refs,AObj.isIter,objOk,Abs.renT,keepH,renO,AObj.ren,AVal.ren,renL,List.idxOf_cons]) ?_
   refine wSt [6] [(6,.ptr 1 0)] [.arr 5 ((((([]:List (Ty))++((t.kids.take k).drop 0))++[x])++((t.kids.take t.kids.length).drop k)).map Ty.enc) 0,.box [.int .i64 5,.str [],.int .i64 (t.n),.imm ((((([]:List (List UInt8))++((t.names.take k).drop 0))++[s])++((t.names.take t.names.length).drop k)).map AVal.str),.own 0 0 (((([]:List (Ty))++((t.kids.take k).drop 0))++[x])++((t.kids.take t.kids.length).drop k)).length]] kq kq ?_
   refine wRet kq ?_
   refine leafR (l:=[.agg [.int .i64 5,.str [],.int .i64 (t.n),.imm ((((([]:List (List UInt8))++((t.names.take k).drop 0))++[s])++((t.names.take t.names.length).drop k)).map AVal.str),.own 0 0 (((([]:List (Ty))++((t.kids.take k).drop 0))++[x])++((t.kids.take t.kids.length).drop k)).length]]) 1 [.arr 5 ((((([]:List (Ty))++((t.kids.take k).drop 0))++[x])++((t.kids.take t.kids.length).drop k)).map Ty.enc) 0] (.inr rfl) kq (Nat.zero_le _) kq (by simp [awrap,-List.map_append,-List.map_take,-List.map_drop,-List.append_assoc]) (by simp [AObj.belO,-List.map_append,-List.map_take,-List.map_drop,-List.append_assoc]) ?_
   have hput:putAt t.names s=k:=putAt_stop _ _ _ ha oq (fun hlt=>by first|exact Bool.eq_false_iff.2 aq|(exfalso;omega))
   refine ⟨?_,?_⟩
   · rw [recV_put];simp [putN,putK,hput,awrap]
   · rw [recH_put];simp [putN,putK,hput]
end Go.Proofs.YtindpcpdkikdmaaGreatDoor
