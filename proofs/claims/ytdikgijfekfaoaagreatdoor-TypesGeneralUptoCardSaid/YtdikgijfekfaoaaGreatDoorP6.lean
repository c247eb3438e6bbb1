/- A part of the proof: plain lemmas, rules and walks. No condition. -/
import Derived.Test.YtdikgijfekfaoaaGreatDoorP5
set_option linter.all false
namespace Go.Proofs.YtdikgijfekfaoaaGreatDoor
open Go.Proofs.YtdikgijfekfaoaaGreatDoor.Abs
set_option maxRecDepth 20000
set_option maxHeartbeats 4000000
theorem bind_split {f:Nat} {S S':St} {n:Int} {t:Ty} {ok:Bool} (h:bindF f S n t=some (ok,S')):¬ mget n S=none∧∃ r,resF f S t=some r∧r.sz<100000000∧(∀ k∈visN [] r,(mget k S).isSome=true) ∧
    ∀ x,mget n S=some x→((visN [] r).contains n=true→false=ok∧S=S')∧(¬ (visN [] r).contains n=true→true=ok∧mset n (Vr.mk x.row x.lv true t x.names) (lowL x.lv (visN [] r) S)=S'):=by
  unfold bindF at h
  split at h <;> try (cases h;done)
  rename_i v hv
  split at h <;> try (cases h;done)
  rename_i r hr
  split at h <;> try (cases h;done)
  rename_i hs
  refine ⟨by rw [hv];simp,r,hr,hs.1,fun k hk=>List.all_eq_true.1 hs.2 k hk,fun x hx=>?_⟩
  rw [hv] at hx;cases hx
  split at h
  · rename_i hc
    cases h
    exact ⟨fun _=>⟨rfl,rfl⟩,fun h=>absurd hc h⟩
  · rename_i hc
    cases h
    exact ⟨fun h=>absurd h hc,fun _=>⟨rfl,rfl⟩⟩
def lowS (lv:Int) (S:St) (k:Int):St:=match mget k S with
  | some w=>mset k { w with lv:=min w.lv lv } S
  | none=>S
theorem lowL_fold (lv:Int):∀ (ks:List Int) (S:St),lowL lv ks S=ks.foldl (lowS lv) S
  | [],S=>rfl
  | k::ks,S=>by rw [lowL,lowL_fold lv ks,List.foldl_cons];rfl
theorem lowL_succ {lv:Int} {l:List Int} {S:St} {k:Nat} {w:Vr} (hk:k<l.length) (hm:mget (l.getD k 0) (lowL lv (l.take k) S)=some w):mset (l.getD k 0) (Vr.mk w.row (min w.lv lv) w.bd w.val w.names) (lowL lv (l.take k) S)=lowL lv (l.take (k+1)) S:=by
  rw [take_at _ k 0 hk,lowL_fold lv (l.take k++_),List.foldl_append,← lowL_fold lv (l.take k),List.foldl_cons,List.foldl_nil]
  unfold lowS
  rw [hm]
theorem lowL_no {lv:Int} {l:List Int} {S:St} {k:Nat} (hk:k<l.length) (ha:∀ k∈l,(mget k S).isSome=true):¬ mget (l.getD k 0) (lowL lv (l.take k) S)=none:=by
  have hm:l.getD k 0∈l:=by rw [List.getD_eq_getElem?_getD,List.getElem?_eq_getElem hk];exact List.getElem_mem hk
  obtain ⟨x,hx⟩:=Option.isSome_iff_exists.1 (ha _ hm)
  obtain ⟨l',hl'⟩:=((lowL_get lv (l.take k) S).2 (l.getD k 0)).1 x hx
  rw [hl'];simp
theorem lowL_end {lv:Int} {l:List Int} {S:St} {k:Nat} (hk:l.length≤k):lowL lv (l.take k) S=lowL lv l S:=by rw [List.take_of_length_le hk]
noncomputable def c107:Code:=bodyOf Tryz.f107
theorem bind_S (f:Nat) (n:Int) (t:Ty) (lv:Int) (m m':St) (ok:Bool) (hs:t.sz<100000000) (hb:bindF f m n t=some (ok,m')):CallsA cx 107 [.ptr 0 0,.int .i64 (n),Ty.v t] (hpS lv m) (fun v h=>v=(.bool (ok))∧h=hpS lv m'):=by
 obtain ⟨hno,r,hr,hrs,hall,hx⟩:=bind_split hb
 have hvl:=visN_len [] r
 simp only [List.length_nil] at hvl
 refine func_intro (cx:=cx) 59 2 [(ResultVar.tmp 6)] Tryz.func107 rfl rfl rfl rfl rfl zq ?_
 show wpA cx 59 2 (at_ c107 []) _ _ _
 refine qZ [(0,.ptr 0 0),(1,.int .i64 (n)),(2,Ty.v t)] [bS lv,mS m] ?_ ?_
 refine qW 2 [(0,.ptr 0 0),(1,.int .i64 (n)),(5,.ptr 2 0)] [bS lv,mS m,t.bx] ?_ ?_
 refine qV 5 ?_ ?_
 rcases hm1:mget (n) m with _|x1
 · exact absurd hm1 (hno)
 refine qy (o_lookS (ok:=false) (o:=1) (ek:=(AVal.int .i64)) (ev:=Vr.v) (l:=m) (k:=(n)) (x:=x1) keyI hm1 kq ty88 ty3 rfl ty93 kq) ?_ ?_ ?_
 refine qR 2 [(0,.ptr 0 0),(1,.int .i64 (n)),(5,.ptr 2 0),(7,.ptr 3 0)] [bS lv,mS m,t.bx,.box [.bool (x1.row),.int .i64 (x1.lv),.bool (x1.bd),.int .i64 (x1.val.kind),.str x1.val.name,.int .i64 (x1.val.n),.imm (x1.val.names.map AVal.str),.imm (x1.val.kids.map Ty.enc),.imm (x1.names.map AVal.str)]] ?_ ?_
 refine qV 2 ?_ ?_
 refine vcallA (args:=[.ptr 0 0,.agg [.int .i64 (t.kind),.str t.name,.int .i64 (t.n),.imm (t.names.map AVal.str),.imm (t.kids.map Ty.enc)]]) (hs:=[bS lv,mS m]) (hs':=[.box [.int .i64 ((lv)),.map 1],mS m]) (rest:=[t.bx,.box [.bool (x1.row),.int .i64 (x1.lv),.bool (x1.bd),.int .i64 (x1.val.kind),.str x1.val.name,.int .i64 (x1.val.n),.imm (x1.val.names.map AVal.str),.imm (x1.val.kids.map Ty.enc),.imm (x1.names.map AVal.str)]]) kq kq kq kq kq (resolve_S f t r (lv) m hs hr) (by simp [AObj.belO,hpS,Ty.v,Vr.v]) (by simp [AObj.belO,hpS,Ty.v,Vr.v]) rfl (by simp [AObj.belO,hpS,Ty.v,Vr.v]) (by simp [AObj.belO,hpS,Ty.v,Vr.v]) kq ?_
 refine vcallP (args:=[Ty.v r]) kq kq kq kq (numbers_spec r oq) (by simp [Ty.v,frzL_app,Occ.v]) (by simp [Ty.v]) (by simp [Ty.v,ownsL_app]) ?_
 refine qR 1 [(0,.ptr 0 0),(1,.int .i64 (n)),(5,.ptr 2 0),(7,.ptr 3 0),(8,.imm ((visN [] r).map (AVal.int .i64)))] [.box [.int .i64 ((lv)),.map 1],mS m,t.bx,.box [.bool (x1.row),.int .i64 (x1.lv),.bool (x1.bd),.int .i64 (x1.val.kind),.str x1.val.name,.int .i64 (x1.val.n),.imm (x1.val.names.map AVal.str),.imm (x1.val.kids.map Ty.enc),.imm (x1.names.map AVal.str)]] ?_ ?_
 refine qSeq ?_ ?_
 refine qV 2 ?_ ?_
 refine vcallP (args:=[.imm ((visN [] r).map (AVal.int .i64)),.int .i64 (n)]) kq kq kq kq (hasInt_spec (visN [] r) (n) oq) (by simp [Ty.v,frzL_app,Occ.v]) (by simp [Ty.v]) (by simp [Ty.v,ownsL_app]) ?_
 refine qN [(0,.ptr 0 0),(1,.int .i64 (n)),(5,.ptr 2 0),(7,.ptr 3 0),(8,.imm ((visN [] r).map (AVal.int .i64))),(24,.bool ((visN [] r).contains (n)))] [.box [.int .i64 ((lv)),.map 1],mS m,t.bx,.box [.bool (x1.row),.int .i64 (x1.lv),.bool (x1.bd),.int .i64 (x1.val.kind),.str x1.val.name,.int .i64 (x1.val.n),.imm (x1.val.names.map AVal.str),.imm (x1.val.kids.map Ty.enc),.imm (x1.names.map AVal.str)]] ?_ ?_
 by_cases hb2:((visN [] r).contains (n))=true
 refine qt (hb2) ?_ ?_
 refine qU 1 [(6,.bool false)] ?_ ?_
 refine wRet kq ?_
 apply aR
 refine leafA (l:=[.bool false]) (.inr rfl) kq (by obtain ⟨h1,h2⟩:=(hx _ aq).1 aq;subst h1;rfl) (by simp [awrap]) (by simp [awrap]) ?_ ?_
 refine Eq.trans (b:=[.box [.int .i64 ((lv)),.map 1],mS m]) kq ?_
 rotate_left
 · simp [AObj.belO,hpS,Ty.v,Vr.v]
 iterate 2 kernel_rfl
 refine qf (Bool.eq_false_iff.2 hb2) ?_ ?_
 refine qK ?_ ?_
 refine qz [(0,.ptr 0 0),(1,.int .i64 (n)),(5,.ptr 2 0),(7,.ptr 3 0),(8,.imm ((visN [] r).map (AVal.int .i64)))] ?_ ?_
 refine qSeq ?_ ?_
 refine qV 1 ?_ ?_
 refine qy (o_lenmap (l:=(visN [] r)) (enc:=(AVal.int .i64)) kq ty26) ?_ ?_ ?_
 refine qR 1 [(0,.ptr 0 0),(1,.int .i64 (n)),(5,.ptr 2 0),(7,.ptr 3 0),(25,.imm ((visN [] r).map (AVal.int .i64))),(26,nI ((visN [] r).length)),(27,.int .i64 0)] [.box [.int .i64 ((lv)),.map 1],mS m,t.bx,.box [.bool (x1.row),.int .i64 (x1.lv),.bool (x1.bd),.int .i64 (x1.val.kind),.str x1.val.name,.int .i64 (x1.val.n),.imm (x1.val.names.map AVal.str),.imm (x1.val.kids.map Ty.enc),.imm (x1.names.map AVal.str)]] ?_ ?_
 refine qB 0 ?_ ?_ ?_
 refine wLoop (σ:=Nat) (fun k=>[(0,.ptr 0 0),(1,.int .i64 (n)),(5,.ptr 2 0),(7,.ptr 3 0),(25,.imm ((visN [] r).map (AVal.int .i64))),(26,.int .i64 (((visN [] r).length:Nat):Int)),(27,.int .i64 ((k:Nat):Int))]) (fun k=>[.box [.int .i64 ((lv)),.map 1],mS (lowL x1.lv ((visN [] r).take k) m),t.bx,.box [.bool (x1.row),.int .i64 (x1.lv),.bool (x1.bd),.int .i64 (x1.val.kind),.str x1.val.name,.int .i64 (x1.val.n),.imm (x1.val.names.map AVal.str),.imm (x1.val.kids.map Ty.enc),.imm (x1.names.map AVal.str)]]) (fun k=>k≤(visN [] r).length) (fun k=>(visN [] r).length - k) 0 kq (by exact Nat.zero_le _) ⟨⟨kq,kq,kq,kq,kq,kq,kq,trivial⟩,by simp [BelL,AVal.bel],by simp,(Eq.trans (b:=[.box [.int .i64 ((lv)),.map 1],mS m,t.bx,.box [.bool (x1.row),.int .i64 (x1.lv),.bool (x1.bd),.int .i64 (x1.val.kind),.str x1.val.name,.int .i64 (x1.val.n),.imm (x1.val.names.map AVal.str),.imm (x1.val.kids.map Ty.enc),.imm (x1.names.map AVal.str)]]) kq (by rfl)),by simp [AObj.belO]⟩ ?_
 rintro k hk
 refine qW 1 [(0,.ptr 0 0),(1,.int .i64 (n)),(5,.ptr 2 0),(7,.ptr 3 0),(25,.imm ((visN [] r).map (AVal.int .i64))),(26,nI ((visN [] r).length)),(27,nI k),(28,.bool (decide (((k:Nat):Int)<(((visN [] r).length:Nat):Int))))] [.box [.int .i64 ((lv)),.map 1],mS (lowL x1.lv ((visN [] r).take k) m),t.bx,.box [.bool (x1.row),.int .i64 (x1.lv),.bool (x1.bd),.int .i64 (x1.val.kind),.str x1.val.name,.int .i64 (x1.val.n),.imm (x1.val.names.map AVal.str),.imm (x1.val.kids.map Ty.enc),.imm (x1.names.map AVal.str)]] ?_ ?_
 refine qSeq ?_ ?_
 by_cases hb3:((k:Nat):Int)<(((visN [] r).length:Nat):Int)
 refine qt (decide_eq_true hb3) ?_ ?_
 refine qK ?_ ?_
 refine qz [(0,.ptr 0 0),(1,.int .i64 (n)),(5,.ptr 2 0),(7,.ptr 3 0),(25,.imm ((visN [] r).map (AVal.int .i64))),(26,nI ((visN [] r).length)),(27,nI k)] ?_ ?_
 refine qSeq ?_ ?_
 refine qB 1 ?_ ?_ ?_
 refine qO ?_ ?_
 refine qy (o_ixmap (k:=.i64) (l:=(visN [] r)) (enc:=(AVal.int .i64)) (i:=((k:Nat):Int)) 0 kq ty26 ty3 (fun _=>rfl) oq oq) ?_ ?_ ?_
 refine qR 2 [(0,.ptr 0 0),(1,.int .i64 (n)),(5,.ptr 2 0),(7,.ptr 3 0),(10,.int .i64 (((visN [] r).getD k 0))),(25,.imm ((visN [] r).map (AVal.int .i64))),(26,nI ((visN [] r).length)),(27,nI k)] [.box [.int .i64 ((lv)),.map 1],mS (lowL x1.lv ((visN [] r).take k) m),t.bx,.box [.bool (x1.row),.int .i64 (x1.lv),.bool (x1.bd),.int .i64 (x1.val.kind),.str x1.val.name,.int .i64 (x1.val.n),.imm (x1.val.names.map AVal.str),.imm (x1.val.kids.map Ty.enc),.imm (x1.names.map AVal.str)]] ?_ ?_
 refine qV 5 ?_ ?_
 rcases hm4:mget (((visN [] r).getD k 0)) (lowL x1.lv ((visN [] r).take k) m) with _|x4
 · exact absurd hm4 ((lowL_no oq hall))
 refine qy (o_lookS (ok:=false) (o:=1) (ek:=(AVal.int .i64)) (ev:=Vr.v) (l:=(lowL x1.lv ((visN [] r).take k) m)) (k:=(((visN [] r).getD k 0))) (x:=x4) keyI hm4 kq ty88 ty3 rfl ty93 kq) ?_ ?_ ?_
 refine qR 2 [(0,.ptr 0 0),(1,.int .i64 (n)),(5,.ptr 2 0),(7,.ptr 3 0),(10,.int .i64 (((visN [] r).getD k 0))),(11,.ptr 4 0),(25,.imm ((visN [] r).map (AVal.int .i64))),(26,nI ((visN [] r).length)),(27,nI k)] [.box [.int .i64 ((lv)),.map 1],mS (lowL x1.lv ((visN [] r).take k) m),t.bx,.box [.bool (x1.row),.int .i64 (x1.lv),.bool (x1.bd),.int .i64 (x1.val.kind),.str x1.val.name,.int .i64 (x1.val.n),.imm (x1.val.names.map AVal.str),.imm (x1.val.kids.map Ty.enc),.imm (x1.names.map AVal.str)],.box [.bool (x4.row),.int .i64 (x4.lv),.bool (x4.bd),.int .i64 (x4.val.kind),.str x4.val.name,.int .i64 (x4.val.n),.imm (x4.val.names.map AVal.str),.imm (x4.val.kids.map Ty.enc),.imm (x4.names.map AVal.str)]] ?_ ?_
 refine qV 4 ?_ ?_
 refine qy (o_minI (a:=(x4.lv)) (b:=(x1.lv)) (ats:=[3,3]) kq) ?_ ?_ ?_
 refine qR 2 [(0,.ptr 0 0),(1,.int .i64 (n)),(5,.ptr 2 0),(7,.ptr 3 0),(10,.int .i64 (((visN [] r).getD k 0))),(11,.ptr 4 0),(25,.imm ((visN [] r).map (AVal.int .i64))),(26,nI ((visN [] r).length)),(27,nI k)] [.box [.int .i64 ((lv)),.map 1],mS (lowL x1.lv ((visN [] r).take k) m),t.bx,.box [.bool (x1.row),.int .i64 (x1.lv),.bool (x1.bd),.int .i64 (x1.val.kind),.str x1.val.name,.int .i64 (x1.val.n),.imm (x1.val.names.map AVal.str),.imm (x1.val.kids.map Ty.enc),.imm (x1.names.map AVal.str)],.box [.bool (x4.row),.int .i64 (min (x4.lv) (x1.lv)),.bool (x4.bd),.int .i64 (x4.val.kind),.str x4.val.name,.int .i64 (x4.val.n),.imm (x4.val.names.map AVal.str),.imm (x4.val.kids.map Ty.enc),.imm (x4.names.map AVal.str)]] ?_ ?_
 refine wDrw cxM kq (extIn extThen) (dstart ?_)
 refine qu 6 ?_ ?_
 refine qD (o_mset (o:=1) (ek:=(AVal.int .i64)) (ev:=Vr.v) (l:=(lowL x1.lv ((visN [] r).take k) m)) (k:=(((visN [] r).getD k 0))) (x:=(Vr.mk (x4.row) (min (x4.lv) (x1.lv)) (x4.bd) x4.val x4.names)) keyI kq ty88 ty3 rfl kq kq) ?_ ?_ ?_ ?_
 refine dend kq ⟨kq,?_⟩
 refine AIn_normal ?_
 refine AThen_normal ?_
 refine qZ [(0,.ptr 0 0),(1,.int .i64 (n)),(5,.ptr 2 0),(7,.ptr 3 0),(25,.imm ((visN [] r).map (AVal.int .i64))),(26,nI ((visN [] r).length)),(27,nI k)] [.box [.int .i64 ((lv)),.map 1],mS (mset (((visN [] r).getD k 0)) (Vr.mk (x4.row) (min (x4.lv) (x1.lv)) (x4.bd) x4.val x4.names) (lowL x1.lv ((visN [] r).take k) m)),t.bx,.box [.bool (x1.row),.int .i64 (x1.lv),.bool (x1.bd),.int .i64 (x1.val.kind),.str x1.val.name,.int .i64 (x1.val.n),.imm (x1.val.names.map AVal.str),.imm (x1.val.kids.map Ty.enc),.imm (x1.names.map AVal.str)],.box [.bool (x4.row),.int .i64 (min (x4.lv) (x1.lv)),.bool (x4.bd),.int .i64 (x4.val.kind),.str x4.val.name,.int .i64 (x4.val.n),.imm (x4.val.names.map AVal.str),.imm (x4.val.kids.map Ty.enc),.imm (x4.names.map AVal.str)]] ?_ ?_
 refine qo ?_ ?_
 refine qy (o_add (a:=((k:Nat):Int)) (b:=1) kq oq oq) ?_ ?_ ?_
 refine qr 1 ?_ ?_
 refine qe ?_ ?_
 refine AThen_normal ⟨k+1,?_,?_,⟨⟨kq,kq,kq,kq,kq,kq,kq,trivial⟩,by simp [BelL,AVal.bel],by simp,(Eq.trans (b:=[.box [.int .i64 ((lv)),.map 1],mS (mset (((visN [] r).getD k 0)) (Vr.mk (x4.row) (min (x4.lv) (x1.lv)) (x4.bd) x4.val x4.names) (lowL x1.lv ((visN [] r).take k) m)),t.bx,.box [.bool (x1.row),.int .i64 (x1.lv),.bool (x1.bd),.int .i64 (x1.val.kind),.str x1.val.name,.int .i64 (x1.val.n),.imm (x1.val.names.map AVal.str),.imm (x1.val.kids.map Ty.enc),.imm (x1.names.map AVal.str)]]) kq (by rw [lowL_succ oq aq])),by simp [AObj.belO]⟩⟩
 · omega
 · omega
 iterate 28 kernel_rfl
 refine qf (decide_eq_false hb3) ?_ ?_
 refine wExit 0 kq kq ?_
 refine AThen_exit ?_
 refine AThen_exit ?_
 refine AIn_exit ?_
 refine AThen_normal ?_
 refine qz [(0,.ptr 0 0),(1,.int .i64 (n)),(5,.ptr 2 0),(7,.ptr 3 0)] ?_ ?_
 refine qSeq ?_ ?_
 refine wDrw cxM kq extThen (dstart ?_)
 refine qu 5 ?_ ?_
 refine dend kq ⟨kq,?_⟩
 refine AThen_normal ?_
 refine qZ [(0,.ptr 0 0),(1,.int .i64 (n)),(7,.ptr 3 0)] [.box [.int .i64 ((lv)),.map 1],mS (lowL x1.lv ((visN [] r).take k) m),t.bx,.box [.bool (x1.row),.int .i64 (x1.lv),.bool true,.int .i64 (t.kind),.str t.name,.int .i64 (t.n),.imm (t.names.map AVal.str),.imm (t.kids.map Ty.enc),.imm (x1.names.map AVal.str)]] ?_ ?_
 refine qSeq ?_ ?_
 refine wDrw cxM kq extThen (dstart ?_)
 refine qu 6 ?_ ?_
 refine qD (o_mset (o:=1) (ek:=(AVal.int .i64)) (ev:=Vr.v) (l:=(lowL x1.lv ((visN [] r).take k) m)) (k:=(n)) (x:=(Vr.mk (x1.row) (x1.lv) true t x1.names)) keyI kq ty88 ty3 rfl kq kq) ?_ ?_ ?_ ?_
 refine dend kq ⟨kq,?_⟩
 refine AThen_normal ?_
 refine qZ [] [.box [.int .i64 ((lv)),.map 1],mS (mset (n) (Vr.mk (x1.row) (x1.lv) true t x1.names) (lowL x1.lv ((visN [] r).take k) m)),t.bx,.box [.bool (x1.row),.int .i64 (x1.lv),.bool true,.int .i64 (t.kind),.str t.name,.int .i64 (t.n),.imm (t.names.map AVal.str),.imm (t.kids.map Ty.enc),.imm (x1.names.map AVal.str)]] ?_ ?_
 refine qU 1 [(6,.bool true)] ?_ ?_
 refine wRet kq ?_
 refine leafA (l:=[.bool true]) (.inr rfl) kq (by obtain ⟨h1,h2⟩:=(hx _ aq).2 aq;subst h1;rfl) (by simp [awrap]) (by simp [awrap]) ?_ ?_
 refine Eq.trans (b:=[.box [.int .i64 ((lv)),.map 1],mS (mset (n) (Vr.mk (x1.row) (x1.lv) true t x1.names) (lowL x1.lv ((visN [] r).take k) m))]) kq ?_
 rotate_left
 · simp [AObj.belO,hpS,Ty.v,Vr.v]
 iterate 35 kernel_rfl
 all_goals
  first|(obtain ⟨h1,h2⟩:=(hx _ aq).1 aq;rw [← h2];rfl)|(obtain ⟨h1,h2⟩:=(hx _ aq).2 aq;rw [← h2,← lowL_end (l:=visN [] r) (k:=k) oq];rfl)
end Go.Proofs.YtdikgijfekfaoaaGreatDoor
namespace Go.Proofs.YtdikgijfekfaoaaGreatDoor
open Go.Proofs.YtdikgijfekfaoaaGreatDoor.Abs
set_option maxRecDepth 20000
set_option maxHeartbeats 4000000
@[simp] theorem encM_dn (k:Nat) (l:Dn):((encM AVal.str AVal.bool l).all fun e=>e.1.bel k && e.2.bel k)=true:=by
  simp [encM,List.all_eq_true]
theorem refs_dnm (l:Dn):(encM AVal.str AVal.bool l).flatMap (fun e=>e.1.refs++e.2.refs)=[]:=by
  rw [List.flatMap_eq_nil_iff]
  intro e he
  obtain ⟨p,_,rfl⟩:=List.mem_map.1 he
  simp [AVal.refs]
theorem renE_dnm (r:Nat→Nat) (l:Dn):renE r (encM AVal.str AVal.bool l)=encM AVal.str AVal.bool l:=renE_id (k:=0) (fun i hi=>by omega) _ (encM_dn 0 l)
def uniK (l:List (List UInt8)) (k:Nat):Dn:=(l.take k).foldl (fun m x=>mset x true m) []
theorem uniK_succ {l:List (List UInt8)} {k:Nat} (hk:k<l.length):mset (l.getD (0+k) []) true (uniK l k)=uniK l (k+1):=by
  unfold uniK
  rw [take_at l k [] hk,List.foldl_append,Nat.zero_add];rfl
theorem uniK_end {l:List (List UInt8)} {k:Nat} (hk:l.length≤k):uniK l k=uniF l:=by unfold uniK uniF;rw [List.take_of_length_le hk]
noncomputable def c124:Code:=bodyOf Tryz.f124
theorem union_raw (a b:Ty) (ha:a.sz<100000000) (hb:b.sz<100000000):CallsA cx 124 [Ty.v a,Ty.v b] [] (fun v h=>v=.map 0∧h=[.map (encM AVal.str AVal.bool (uniF (a.names++b.names)))]):=by
 have hz1:=sz_names a
 have hz2:=sz_names b
 have hal:(a.names++b.names).length=a.names.length+b.names.length:=List.length_append
 refine func_raw (cx:=cx) 24 0 [(ResultVar.tmp 4)] Tryz.func124 rfl rfl rfl rfl rfl zq ?_
 show wpA cx 24 0 (at_ c124 []) _ _ _
 refine qZ [(0,Ty.v a),(1,Ty.v b)] [] ?_ ?_
 refine qW 3 [(2,.ptr 0 0),(3,.ptr 1 0)] [a.bx,b.bx] ?_ ?_
 refine qW 2 [(2,.ptr 0 0),(3,.ptr 1 0),(5,.map 2)] [a.bx,b.bx,.map (encM AVal.str AVal.bool ([]:List (List UInt8×Bool)))] ?_ ?_
 refine qSeq ?_ ?_
 refine qSeq ?_ ?_
 refine wDrw cxM kq extThen (dstart ?_)
 refine qu 2 ?_ ?_
 refine dgrow1 (args:=[.imm (a.names.map AVal.str)]) (args':=[.imm (a.names.map AVal.str)]) (V':=.own 3 0 a.names.length) (F:=[a.bx,b.bx,.map (encM AVal.str AVal.bool ([]:List (List UInt8×Bool)))]) (G':=[.arr 1 (a.names.map AVal.str) 0]) (L:=[3]) kq kq kq kq kq (cloneS a.names oq) [a.bx,b.bx,.map (encM AVal.str AVal.bool ([]:List (List UInt8×Bool)))] kq (by simp [AVal.frz,frzL,AVal.ren,renL,renH,AObj.ren,lendR,frzH,ownsL,AVal.owns]) (by simp [AVal.frz,frzL,AVal.ren,renL,renH,AObj.ren,lendR,frzH,ownsL,AVal.owns]) zq (by simp [AVal.frz,frzL,AVal.ren,renL,renH,AObj.ren,lendR,frzH,ownsL,AVal.owns]) (by simp [AVal.frz,frzL,AVal.ren,renL,renH,AObj.ren,lendR,frzH,ownsL,AVal.owns]) (by simp [AVal.frz,frzL,AVal.ren,renL,renH,AObj.ren,lendR,frzH,ownsL,AVal.owns]) (by simp [growL,ownsL,AVal.owns]) ?_
 refine qu 2 ?_ ?_
 refine qD (o_appmap (o:=3) (len:=a.names.length) (l:=a.names) (xs:=b.names) (enc:=AVal.str) (sz:=1) (fr:=0) (x:=(.imm (b.names.map AVal.str))) kq ty22 ty9 ty22 rfl kq rfl rfl kq ⟨by decide,by kernel_rfl⟩ (fun _=>rfl) oq oq) ?_ ?_ ?_ ?_
 refine qd (o_lenown (o:=3) (off:=0) (len:=((a.names++b.names).length)) (sz:=1) (es:=((a.names++b.names).map AVal.str)) (fr:=0) kq ty22 kq zq) ?_ ?_ ?_ ?_
 refine qu 1 ?_ ?_
 refine dend kq ⟨kq,?_⟩
 refine AThen_normal ?_
 refine qZ [(5,.map 2),(14,.own 3 0 (a.names++b.names).length),(15,nI ((a.names++b.names).length)),(16,.int .i64 0)] [a.bx,b.bx,.map (encM AVal.str AVal.bool ([]:List (List UInt8×Bool))),.arr 1 ((a.names++b.names).map AVal.str) 0] ?_ ?_
 refine qB 0 ?_ ?_ ?_
 refine wLoop (σ:=Nat) (fun k=>[(5,.map 2),(14,.own 3 0 (a.names++b.names).length),(15,.int .i64 (((a.names++b.names).length:Nat):Int)),(16,.int .i64 ((k:Nat):Int))]) (fun k=>[a.bx,b.bx,.map (encM AVal.str AVal.bool (uniK (a.names++b.names) k)),.arr 1 ((a.names++b.names).map AVal.str) 0]) (fun k=>k≤(a.names++b.names).length) (fun k=>(a.names++b.names).length - k) 0 kq (by exact Nat.zero_le _) ⟨⟨kq,kq,kq,kq,trivial⟩,by simp [BelL,AVal.bel],by simp,(Eq.trans (b:=[a.bx,b.bx,.map (encM AVal.str AVal.bool ([]:List (List UInt8×Bool))),.arr 1 ((a.names++b.names).map AVal.str) 0]) kq (by rfl)),by simp [AObj.belO,belL_app]⟩ ?_
 rintro k hk
 refine qW 1 [(5,.map 2),(14,.own 3 0 (a.names++b.names).length),(15,nI ((a.names++b.names).length)),(16,nI k),(17,.bool (decide (((k:Nat):Int)<(((a.names++b.names).length:Nat):Int))))] [a.bx,b.bx,.map (encM AVal.str AVal.bool (uniK (a.names++b.names) k)),.arr 1 ((a.names++b.names).map AVal.str) 0] ?_ ?_
 refine qSeq ?_ ?_
 by_cases hb1:((k:Nat):Int)<(((a.names++b.names).length:Nat):Int)
 refine qt (decide_eq_true hb1) ?_ ?_
 refine qK ?_ ?_
 refine qz [(5,.map 2),(14,.own 3 0 (a.names++b.names).length),(15,nI ((a.names++b.names).length)),(16,nI k)] ?_ ?_
 refine qSeq ?_ ?_
 refine qB 1 ?_ ?_ ?_
 refine qO ?_ ?_
 refine qy (o_ixown (k:=.i64) (i:=((k:Nat):Int)) (o:=3) (off:=0) (len:=((a.names++b.names).length)) (sz:=1) (fr:=0) (es:=((a.names++b.names).map AVal.str)) kq ty22 ty9 kq rfl zq oq oq) ?_ ?_ ?_
 refine qy (o_ldown (t:=9) (o:=3) (idx:=(0+k)) (off:=0) (k:=(((a.names++b.names).map AVal.str).length)) (sz:=1) (fr:=0) (es:=((a.names++b.names).map AVal.str)) (x:=AVal.str ((a.names++b.names).getD (0+k) [])) (v:=.str ((a.names++b.names).getD (0+k) [])) kq kq zq (get_map _ _ _ _ oq) kq) ?_ ?_ ?_
 refine qR 1 [(5,.map 2),(7,.str ((a.names++b.names).getD (0+k) [])),(14,.own 3 0 (a.names++b.names).length),(15,nI ((a.names++b.names).length)),(16,nI k)] [a.bx,b.bx,.map (encM AVal.str AVal.bool (uniK (a.names++b.names) k)),.arr 1 ((a.names++b.names).map AVal.str) 0] ?_ ?_
 refine qo ?_ ?_
 refine qr 2 ?_ ?_
 refine qY (o_mset (o:=2) (ek:=AVal.str) (ev:=AVal.bool) (l:=(uniK (a.names++b.names) k)) (k:=((a.names++b.names).getD (0+k) [])) (x:=true) keyS kq ty137 ty9 rfl kq kq) ?_ ?_ ?_
 refine qe ?_ ?_
 refine AIn_normal ?_
 refine AThen_normal ?_
 refine qZ [(5,.map 2),(14,.own 3 0 (a.names++b.names).length),(15,nI ((a.names++b.names).length)),(16,nI k)] [a.bx,b.bx,.map (encM AVal.str AVal.bool (mset ((a.names++b.names).getD (0+k) []) true (uniK (a.names++b.names) k))),.arr 1 ((a.names++b.names).map AVal.str) 0] ?_ ?_
 refine qo ?_ ?_
 refine qy (o_add (a:=((k:Nat):Int)) (b:=1) kq oq oq) ?_ ?_ ?_
 refine qr 1 ?_ ?_
 refine qe ?_ ?_
 refine AThen_normal ⟨k+1,?_,?_,⟨⟨kq,kq,kq,kq,trivial⟩,by simp [BelL,AVal.bel],by simp,(Eq.trans (b:=[a.bx,b.bx,.map (encM AVal.str AVal.bool (mset ((a.names++b.names).getD (0+k) []) true (uniK (a.names++b.names) k))),.arr 1 ((a.names++b.names).map AVal.str) 0]) kq (by rw [uniK_succ oq])),by simp [AObj.belO,belL_app]⟩⟩
 · omega
 · omega
 iterate 23 kernel_rfl
 refine qf (decide_eq_false hb1) ?_ ?_
 refine wExit 0 kq kq ?_
 refine AThen_exit ?_
 refine AThen_exit ?_
 refine AIn_exit ?_
 refine AThen_normal ?_
 refine qz [(5,.map 2)] ?_ ?_
 refine qU 2 [(4,.map 2)] ?_ ?_
 refine wRen [2] [(4,.map 0)] [.map (encM AVal.str AVal.bool (uniK (a.names++b.names) k))] dq (by simp [-List.map_append,-List.map_take,-List.map_drop,-List.append_assoc,AVal.refs,refsL,AObj.refs,AObj.isIter,objOk,Abs.renT,keepH,renO,AObj.ren,AVal.ren,renL,List.idxOf_cons,refs_dnm,renE_dnm]) (by simp [-List.map_append,-List.map_take,-List.map_drop,-List.append_assoc,AVal.refs,refsL,AObj.refs,AObj.isIter,objOk,Abs.renT,keepH,renO,AObj.ren,AVal.ren,renL,List.idxOf_cons,refs_dnm,renE_dnm]) (by simp [-List.map_append,-List.map_take,-List.map_drop,-List.append_assoc,AVal.refs,refsL,AObj.refs,AObj.isIter,objOk,Abs.renT,keepH,renO,AObj.ren,AVal.ren,renL,List.idxOf_cons,refs_dnm,renE_dnm]) (by simp [-List.map_append,-List.map_take,-List.map_drop,-List.append_assoc,AVal.refs,refsL,AObj.refs,AObj.isIter,objOk,Abs.renT,keepH,renO,AObj.ren,AVal.ren,renL,List.idxOf_cons,refs_dnm,renE_dnm]) ?_
 refine qZ [(4,.map 0)] [.map (encM AVal.str AVal.bool (uniK (a.names++b.names) k))] ?_ ?_
 refine wRet kq ?_
 refine leafR (l:=[.map 0]) 1 [.map (encM AVal.str AVal.bool (uniK (a.names++b.names) k))] (.inr rfl) kq (Nat.zero_le _) kq (by simp [awrap,-List.map_append,-List.map_take,-List.map_drop,-List.append_assoc]) (by simp [AObj.belO,-List.map_append,-List.map_take,-List.map_drop,-List.append_assoc]) ?_
 · exact ⟨rfl,by rw [uniK_end oq]⟩
 iterate 23 kernel_rfl
noncomputable def c123:Code:=bodyOf Tryz.f123
theorem keysB_raw (l:Dn) :CallsA cx 123 [.map 0] [.map (encM AVal.str AVal.bool l)] (fun v h=>v=.fn (.func 138) [] [.ptr 1 0]∧h=[.map (encM AVal.str AVal.bool l),.box [.map 0]]):=by
 refine func_raw (cx:=cx) 4 1 [(ResultVar.tmp 2)] Tryz.func123 rfl rfl rfl rfl rfl zq ?_
 show wpA cx 4 1 (at_ c123 []) _ _ _
 refine qZ [(0,.map 0)] [.map (encM AVal.str AVal.bool l)] ?_ ?_
 refine qW 2 [(1,.ptr 1 0)] [.map (encM AVal.str AVal.bool l),.box [.map 0]] ?_ ?_
 refine qU 2 [(2,.fn (.func 138) [] [.ptr 1 0])] ?_ ?_
 refine wRet kq ?_
 refine leafR (l:=[.fn (.func 138) [] [.ptr 1 0]]) 2 [.map (encM AVal.str AVal.bool l),.box [.map 0]] (.inr rfl) kq dq kq (by simp [awrap,-List.map_append,-List.map_take,-List.map_drop,-List.append_assoc]) (by simp [AObj.belO,-List.map_append,-List.map_take,-List.map_drop,-List.append_assoc]) ?_
 · exact ⟨rfl,rfl⟩
 iterate 3 kernel_rfl
end Go.Proofs.YtdikgijfekfaoaaGreatDoor
namespace Go.Proofs.YtdikgijfekfaoaaGreatDoor
open Go.Proofs.YtdikgijfekfaoaaGreatDoor.Abs
set_option maxRecDepth 20000
set_option maxHeartbeats 4000000
theorem rows_split {f:Nat} {U:UF} {S S':St} {a b:Ty} {ok:Bool} (h:rowsF f U S a b=some (ok,S')):∃ R:Bool×St×Ty×Ty,loopF f U f S a b []=some R∧(R.1=true→finF f R.2.1 R.2.2.1 R.2.2.2=some (ok,S'))∧(R.1=false→false=ok∧R.2.1=S'):=by
  unfold rowsF at h
  split at h <;> try (cases h;done)
  · rename_i S1 a1 b1 hl;exact ⟨_,hl,fun _=>h,fun h=>(by cases h)⟩
  · rename_i S1 a1 b1 hl;cases h;exact ⟨_,hl,fun h=>(by cases h),fun _=>⟨rfl,rfl⟩⟩
theorem loop_go {f g:Nat} {U:UF} {S:St} {a b:Ty} {D:Dn} {R:Bool×St×Ty×Ty} (h:loopF f U g S a b D=some R):∃ (a' b':Ty) (P:Bool×St×Dn×Bool),headF f S a=some a'∧headF f S b=some b'∧rok a'∧rok b'∧passF U b' (a'.names.drop 0) (a'.kids.drop 0) S D false=some P∧g - 1<g ∧
    (∀ ag,P.1=true→P.2.2.2=ag→(ag=true→loopF f U (g - 1) P.2.1 a' b' P.2.2.1=some R)∧(ag=false→R=(true,P.2.1,a',b')))∧(P.1=false→R=(false,P.2.1,a',b')):=by
  cases g with
  | zero=>simp [loopF] at h
  | succ g =>
    rw [loopF] at h
    split at h <;> try (cases h;done)
    rename_i a' ha
    split at h <;> try (cases h;done)
    rename_i b' hb
    split at h <;> try (cases h;done)
    rename_i hr
    split at h <;> try (cases h;done)
    · rename_i S1 D1 hp
      exact ⟨a',b',_,ha,hb,hr.1,hr.2,hp,by omega,fun ag _ e=>⟨fun _=>h,fun e2=>(by rw [e2] at e;cases e)⟩,fun h=>(by cases h)⟩
    · rename_i S1 D1 hp
      cases h
      exact ⟨a',b',_,ha,hb,hr.1,hr.2,hp,by omega,fun ag _ e=>⟨fun e2=>(by rw [e2] at e;cases e),fun _=>rfl⟩,fun h=>(by cases h)⟩
    · rename_i S1 D1 ag1 hp
      cases h
      exact ⟨a',b',_,ha,hb,hr.1,hr.2,hp,by omega,fun ag h=>(by cases h),fun _=>rfl⟩
theorem pass_drop {U:UF} {b a:Ty} {S:St} {D:Dn} {ag:Bool} {k:Nat} (hk:k<a.names.length) (hl:a.names.length=a.kids.length):passF U b (a.names.drop k) (a.kids.drop k) S D ag =
    if idxS b.names (a.names.getD k [])<0∨isD D (a.names.getD k [])=true then passF U b (a.names.drop (k+1)) (a.kids.drop (k+1)) S D ag else (match U S (a.kids.getD k Ty.zero) (b.kids.getD (idxS b.names (a.names.getD k [])).toNat Ty.zero) with
    | some (true,S')=>passF U b (a.names.drop (k+1)) (a.kids.drop (k+1)) S' (mset (a.names.getD k []) true D) true
    | some (false,S')=>some (false,S',mset (a.names.getD k []) true D,true)
    | none=>none):=by
  rw [drop_at (l:=a.names) (d:=[]) hk,drop_at (l:=a.kids) (d:=Ty.zero) oq,passF]
  rfl
theorem pass_skip {U:UF} {b a:Ty} {S:St} {D:Dn} {ag:Bool} {k:Nat} {P:Bool×St×Dn×Bool} (h:passF U b (a.names.drop k) (a.kids.drop k) S D ag=some P) (hk:k<a.names.length) (hl:a.names.length=a.kids.length) (hc:idxS b.names (a.names.getD k [])<0∨isD D (a.names.getD k [])=true):passF U b (a.names.drop (k+1)) (a.kids.drop (k+1)) S D ag=some P:=by
  rw [pass_drop hk hl,if_pos hc] at h;exact h
theorem pass_call {U:UF} {b a:Ty} {S:St} {D:Dn} {ag:Bool} {k:Nat} {P:Bool×St×Dn×Bool} (h:passF U b (a.names.drop k) (a.kids.drop k) S D ag=some P) (hk:k<a.names.length) (hl:a.names.length=a.kids.length) (hi:¬ idxS b.names (a.names.getD k [])<0) (hd:isD D (a.names.getD k [])=false) :
    ∃ okU SU,U S (a.kids.getD k Ty.zero) (b.kids.getD (idxS b.names (a.names.getD k [])).toNat Ty.zero)=some (okU,SU)∧(okU=true→passF U b (a.names.drop (k+1)) (a.kids.drop (k+1)) SU (mset (a.names.getD k []) true D) true=some P)∧(¬ okU=true→P=(false,SU,mset (a.names.getD k []) true D,true)):=by
  rw [pass_drop hk hl,if_neg (by rintro (h|h);exact hi h;rw [hd] at h;cases h)] at h
  split at h <;> try (cases h;done)
  · rename_i S1 hu;exact ⟨_,_,hu,fun _=>h,fun h=>absurd rfl h⟩
  · rename_i S1 hu;cases h;exact ⟨_,_,hu,fun h=>(by cases h),fun _=>rfl⟩
theorem pass_end {U:UF} {b a:Ty} {S:St} {D:Dn} {ag:Bool} {k:Nat} {P:Bool×St×Dn×Bool} (h:passF U b (a.names.drop k) (a.kids.drop k) S D ag=some P) (hk:a.names.length≤k):P=(true,S,D,ag):=by
  rw [List.drop_of_length_le hk] at h
  unfold passF at h
  cases h;rfl
theorem isD_n {D:Dn} {s:List UInt8} (h:mget s D=none):isD D s=false:=by unfold isD;rw [h]
theorem isD_f {D:Dn} {s:List UInt8} {b:Bool} (h:mget s D=some b) (hb:¬ b=true):isD D s=false:=by unfold isD;rw [h];simpa using hb
theorem isD_t {D:Dn} {s:List UInt8} {b:Bool} (h:mget s D=some b) (hb:b=true):isD D s=true:=by unfold isD;rw [h];exact hb
theorem fin_o {f:Nat} {S S':St} {a b:Ty} {ok:Bool} (h:finF f S a b=some (ok,S')):(∀ n,(onT a b n).sz<100000000)∧(∀ n,(onT b a n).sz<100000000) ∧
    (a.n=b.n→decide ((onT a b b.n).names.length+(onT b a a.n).names.length=0)=ok∧S=S') ∧
    (¬ a.n=b.n→(0<(onT a b b.n).names.length∧b.n=0)∨(0<(onT b a a.n).names.length∧a.n=0)→false=ok∧S=S') ∧
    (¬ a.n=b.n→¬ ((0<(onT a b b.n).names.length∧b.n=0)∨(0<(onT b a a.n).names.length∧a.n=0)) →
      ((onT a b b.n).names.length=0∧¬ a.n=0→bindF f S a.n (onT b a b.n)=some (ok,S')) ∧
      (¬ ((onT a b b.n).names.length=0∧¬ a.n=0)→((onT b a a.n).names.length=0→bindF f S b.n (onT a b a.n)=some (ok,S')) ∧
        (¬ (onT b a a.n).names.length=0→(S.length<100000000∧¬ mget a.n S=none∧¬ mget b.n S=none)∧∃ ok1 S2,bindF f (newV S a b) a.n (onT b a ((S.length+1:Nat):Int))=some (ok1,S2)∧(ok1=true→bindF f S2 b.n (onT a b ((S.length+1:Nat):Int))=some (ok,S'))∧(¬ ok1=true→false=ok∧S2=S')))):=by
  unfold finF at h
  split at h <;> try (cases h;done)
  rename_i hg
  have sN0:∀ (l:Fd) (n n':Int),(recT l n).sz=(recT l n').sz:=fun l n n'=>by simp only [recT,Ty.sz]
  refine ⟨fun n=>(by unfold onT at hg ⊢;rw [sN0 _ n b.n];exact hg.1),fun n=>(by unfold onT at hg ⊢;rw [sN0 _ n a.n];exact hg.2),fun e=>?_,fun e hz=>?_,fun e hz=>⟨fun hl=>?_,fun hl=>⟨fun hr=>?_,fun hr=>?_⟩⟩⟩
  · rw [if_pos e] at h;cases h;exact ⟨rfl,rfl⟩
  · rw [if_neg e,if_pos hz] at h;cases h;exact ⟨rfl,rfl⟩
  · rw [if_neg e,if_neg hz,if_pos hl] at h;exact h
  · rw [if_neg e,if_neg hz,if_neg hl,if_pos hr] at h;exact h
  · rw [if_neg e,if_neg hz,if_neg hl,if_neg hr] at h
    split at h <;> try (cases h;done)
    rename_i hs
    refine ⟨⟨hs.1,fun e=>(by rw [e] at hs;exact absurd hs.2.1 dq),fun e=>(by rw [e] at hs;exact absurd hs.2.2 dq)⟩,?_⟩
    split at h <;> try (cases h;done)
    · rename_i S2 hb;exact ⟨_,_,hb,fun _=>h,fun h=>absurd rfl h⟩
    · rename_i S2 hb;cases h;exact ⟨_,_,hb,fun h=>(by cases h),fun _=>⟨rfl,rfl⟩⟩
theorem fin_g {f:Nat} {S S':St} {a b:Ty} {ok:Bool} (h:finF f S a b=some (ok,S')):(∀ n,(recT (onL a b a.names.length) n).sz<100000000)∧(∀ n,(recT (onL b a b.names.length) n).sz<100000000) ∧
    (a.n=b.n→decide ((recT (onL a b a.names.length) b.n).names.length+(recT (onL b a b.names.length) a.n).names.length=0)=ok∧S=S') ∧
    (¬ a.n=b.n→(0<(recT (onL a b a.names.length) b.n).names.length∧b.n=0)∨(0<(recT (onL b a b.names.length) a.n).names.length∧a.n=0)→false=ok∧S=S') ∧
    (¬ a.n=b.n→¬ ((0<(recT (onL a b a.names.length) b.n).names.length∧b.n=0)∨(0<(recT (onL b a b.names.length) a.n).names.length∧a.n=0)) →
      ((recT (onL a b a.names.length) b.n).names.length=0∧¬ a.n=0→bindF f S a.n (recT (onL b a b.names.length) b.n)=some (ok,S')) ∧
      (¬ ((recT (onL a b a.names.length) b.n).names.length=0∧¬ a.n=0)→((recT (onL b a b.names.length) a.n).names.length=0→bindF f S b.n (recT (onL a b a.names.length) a.n)=some (ok,S')) ∧
        (¬ (recT (onL b a b.names.length) a.n).names.length=0→(S.length<100000000∧¬ mget a.n S=none∧¬ mget b.n S=none)∧∃ ok1 S2,bindF f (newV S a b) a.n (recT (onL b a b.names.length) ((S.length+1:Nat):Int))=some (ok1,S2)∧(ok1=true→bindF f S2 b.n (recT (onL a b a.names.length) ((S.length+1:Nat):Int))=some (ok,S'))∧(¬ ok1=true→false=ok∧S2=S')))):=fin_o h
theorem lvOf_s {S:St} {n:Int} {x:Vr} (h:mget n S=some x):lvOf S n=x.lv:=by unfold lvOf;rw [h]
theorem make_row (lv lx:Int) (ns:List (List UInt8)) (m:St) (hml:m.length<100000000):CallsA cx 80 [.ptr 0 0,.agg [.bool true,.int .i64 (lx),.bool false,.int .i64 0,.str [],.int .i64 0,.full [],.full [],.imm (ns.map AVal.str)]] [bS lv,mS m] (fun v h=>v=(.int .i64 ((((m.length+1):Nat)):Int))∧h=[bS lv,mS (mset ((((m.length+1):Nat):Int)) ⟨true,lx,false,Ty.zero,ns⟩ m)]):=by
  refine CallsA_frz ?_
  have:=make_spec ⟨true,lx,false,Ty.zero,ns⟩ lv m hml
  simpa [frzL,frzH,ownsL,AVal.frz,AVal.owns,Vr.v,Ty.zero] using this
theorem names_fd (a b:Ty) (ha:a.sz<100000000) (hb:b.sz<100000000):((uniF (a.names++b.names)).map Prod.fst).Nodup∧(∀ p∈uniF (a.names++b.names),p.1.length≤1000000000)∧(uniF (a.names++b.names)).length≤1000000000:=by
  obtain ⟨h1,h2⟩:=uni_keys (a.names++b.names) [] zq
  have hz1:=sz_names a
  have hz2:=sz_names b
  refine ⟨h1,fun p hp=>?_,?_⟩
  · have hm:=(h2 p.1).1 (List.mem_map_of_mem hp)
    simp only [List.map_nil,List.not_mem_nil,false_or,List.mem_append] at hm
    have key:∀ t:Ty,t.sz<100000000→p.1∈t.names→p.1.length≤1000000000:=fun t ht hm=>by
      obtain ⟨i,hi,e⟩:=List.getElem_of_mem hm
      have:=sz_names_at t i
      rw [List.getD_eq_getElem?_getD,List.getElem?_eq_getElem hi] at this
      have:(t.names[i]).length<t.sz:=this
      rw [← e];omega
    exact hm.elim (key a ha) (key b hb)
  · have:=nd_len (m:=a.names++b.names) h1 (fun s hs=>by
      have:=(h2 s).1 hs
      simpa using this)
    rw [List.length_map,List.length_append] at this
    have h3:(uniF (a.names++b.names)).length≤a.names.length+b.names.length:=this
    omega
end Go.Proofs.YtdikgijfekfaoaaGreatDoor
namespace Go.Proofs.YtdikgijfekfaoaaGreatDoor
open Go.Proofs.YtdikgijfekfaoaaGreatDoor.Abs
set_option maxRecDepth 20000
set_option maxHeartbeats 4000000
theorem sorted_dn {a b:Ty} {h:AHeap} (m o:Nat) (ho:h[o]?=some (.box [.map m])) (hm:h[m]?=some (.map (encM AVal.str AVal.bool (uniF (a.names++b.names))))) (hf:((uniF (a.names++b.names)).map Prod.fst).Nodup∧(∀ p∈uniF (a.names++b.names),p.1.length≤1000000000)∧(uniF (a.names++b.names)).length≤1000000000) :
    CallsA cx 113 [.fn (.func 138) [] [.ptr o 0]] h (fun v h'=>v=.imm ((uniN a b).map .str)∧h'=h):=by
  have e:((uniF (a.names++b.names)).map fun p=>(p.1,AVal.bool p.2)).map (·.1)=(uniF (a.names++b.names)).map Prod.fst:=by simp [Function.comp_def]
  have:=sorted_spec keys138 (h:=h) (m:=m) (o:=o) (kv:=(uniF (a.names++b.names)).map fun p=>(p.1,AVal.bool p.2)) ho (by rw [hm];simp [encM,encKV,Function.comp_def]) (by rw [e];exact hf.1)
    (fun p hp=>by obtain ⟨q,hq,rfl⟩:=List.mem_map.1 hp;exact hf.2.1 q hq) (by rw [List.length_map];exact hf.2.2)
  rw [e] at this
  exact this
noncomputable def c108:Code:=bodyOf Tryz.f108
theorem rows_S (f:Nat) (p q:Ty) (lv:Int) (m m':St) (ok:Bool) (hp:p.sz<100000000) (hq:q.sz<100000000) (hb:rowsF f (unifyF f) m p q=some (ok,m'))
    (ihU:∀ (S:St) (x y:Ty) (okU:Bool) (SU:St),x.sz<100000000→y.sz<100000000→unifyF f S x y=some (okU,SU)→CallsA cx 66 [.ptr 0 0,Ty.v x,Ty.v y] (hpS lv S) (fun v h=>v=.bool okU∧h=hpS lv SU)):CallsA cx 108 [.ptr 0 0,Ty.v p,Ty.v q] (hpS lv m) (fun v h=>v=(.bool (ok))∧h=hpS lv m'):=by
 obtain ⟨RR,hRR,hRt,hRf⟩:=rows_split hb
 refine func_intro (cx:=cx) 177 2 [(ResultVar.tmp 6)] Tryz.func108 rfl rfl rfl rfl rfl zq ?_
 show wpA cx 177 2 (at_ c108 []) _ _ _
 refine qZ [(0,.ptr 0 0),(1,Ty.v p),(2,Ty.v q)] [bS lv,mS m] ?_ ?_
 refine qW 3 [(0,.ptr 0 0),(4,.ptr 2 0),(5,.ptr 3 0)] [bS lv,mS m,p.bx,q.bx] ?_ ?_
 refine qW 2 [(0,.ptr 0 0),(4,.ptr 2 0),(5,.ptr 3 0),(7,.map 4)] [bS lv,mS m,p.bx,q.bx,.map (encM AVal.str AVal.bool ([]:List (List UInt8×Bool)))] ?_ ?_
 refine qSeq ?_ ?_
 refine qU 1 [(0,.ptr 0 0),(4,.ptr 2 0),(5,.ptr 3 0),(7,.map 4),(8,.bool true)] ?_ ?_
 refine qB 0 ?_ ?_ ?_
 refine wLoop (σ:=(Nat×St×Ty×Ty×Dn×Bool)) (fun ⟨g,S,a,b,D,ag⟩=>[(0,.ptr 0 0),(4,.ptr 2 0),(5,.ptr 3 0),(7,.map 4),(8,.bool (ag))]) (fun ⟨g,S,a,b,D,ag⟩=>[bS lv,mS S,a.bx,b.bx,.map (encM AVal.str AVal.bool D)]) (fun ⟨g,S,a,b,D,ag⟩=>a.sz<100000000∧b.sz<100000000∧(ag=true→loopF f (unifyF f) g S a b D=some RR)∧(ag=false→RR=(true,S,a,b)∧rok a∧rok b)) (fun ⟨g,S,a,b,D,ag⟩=>g) (f,m,p,q,([]:Dn),true) kq (by exact ⟨hp,hq,fun _=>hRR,fun h=>by cases h⟩) ⟨⟨kq,kq,kq,kq,kq,trivial⟩,by simp [BelL,AVal.bel],by simp,kq,by simp [AObj.belO]⟩ ?_
 rintro ⟨g,S,a,b,D,ag⟩ ⟨has,hbs,hO,hE⟩
 refine qZ [(0,.ptr 0 0),(4,.ptr 2 0),(5,.ptr 3 0),(7,.map 4),(8,.bool (ag))] [bS lv,mS S,a.bx,b.bx,.map (encM AVal.str AVal.bool D)] ?_ ?_
 refine qSeq ?_ ?_
 refine qU 1 [(0,.ptr 0 0),(4,.ptr 2 0),(5,.ptr 3 0),(7,.map 4),(17,.bool (ag))] ?_ ?_
 by_cases hb1:(ag)=true
 refine qt (hb1) ?_ ?_
 refine qK ?_ ?_
 refine qz [(0,.ptr 0 0),(4,.ptr 2 0),(5,.ptr 3 0),(7,.map 4)] ?_ ?_
 obtain ⟨a1,b1,P,hha,hhb,hra,hrb,hP0,hg0,hPt,hPf⟩:=loop_go (hO aq)
 have hz1:=sz_names a1;have hz2:=sz_names b1;have hz3:=sz_kids b1;have hz4:=sz_kids a1;have hsa1:a1.sz<100000000:=hra.1;have hla1:=hra.2;have hsb1:b1.sz<100000000:=hrb.1;have hlb1:=hrb.2
 refine qz [(0,.ptr 0 0),(4,.ptr 2 0),(5,.ptr 3 0),(7,.map 4)] ?_ ?_
 refine qB 1 ?_ ?_ ?_
 refine qSeq ?_ ?_
 refine wDrw cxM kq extThen (dstart ?_)
 refine qu 2 ?_ ?_
 refine dcallA (args:=[.ptr 0 0,.agg [.int .i64 (a.kind),.str a.name,.int .i64 (a.n),.imm (a.names.map AVal.str),.imm (a.kids.map Ty.enc)]]) (hs:=[bS lv,mS S]) (hs':=[.box [.int .i64 ((lv)),.map 1],mS S]) (rest:=[a.bx,b.bx,.map (encM AVal.str AVal.bool D)]) (L:=[0,1]) kq kq kq kq kq kq (head_S f a a1 (lv) S oq hha) (by simp [AObj.belO,hpS,Ty.v,Vr.v]) (by simp [AObj.belO,hpS,Ty.v,Vr.v]) rfl (by simp [AObj.belO,hpS,Ty.v,Vr.v]) (by simp [AObj.belO,hpS,Ty.v,Vr.v]) kq rfl rfl ?_
 refine qu 2 ?_ ?_
 refine dcallA (args:=[.ptr 0 0,.agg [.int .i64 (b.kind),.str b.name,.int .i64 (b.n),.imm (b.names.map AVal.str),.imm (b.kids.map Ty.enc)]]) (hs:=[.box [.int .i64 ((lv)),.map 1],mS S]) (hs':=[.box [.int .i64 (((lv))),.map 1],mS S]) (rest:=[a.bx,b.bx,.map (encM AVal.str AVal.bool D)]) (L:=[0,1]) kq kq kq kq kq kq (head_S f b b1 ((lv)) S oq hhb) (by simp [AObj.belO,hpS,Ty.v,Vr.v]) (by simp [AObj.belO,hpS,Ty.v,Vr.v]) rfl (by simp [AObj.belO,hpS,Ty.v,Vr.v]) (by simp [AObj.belO,hpS,Ty.v,Vr.v]) kq rfl rfl ?_
 refine qu 2 ?_ ?_
 refine dend kq ⟨kq,?_⟩
 refine AThen_normal ?_
 refine qZ [(0,.ptr 0 0),(4,.ptr 2 0),(5,.ptr 3 0),(7,.map 4)] [.box [.int .i64 (((lv))),.map 1],mS S,a1.bx,b1.bx,.map (encM AVal.str AVal.bool D)] ?_ ?_
 refine qU 1 [(0,.ptr 0 0),(4,.ptr 2 0),(5,.ptr 3 0),(7,.map 4),(8,.bool false)] ?_ ?_
 refine qV 2 ?_ ?_
 refine qy (o_lenmap (l:=a1.names) (enc:=AVal.str) kq ty22) ?_ ?_ ?_
 refine qR 1 [(0,.ptr 0 0),(4,.ptr 2 0),(5,.ptr 3 0),(7,.map 4),(8,.bool false),(25,.imm (a1.names.map AVal.str)),(26,nI a1.names.length),(27,.int .i64 0)] [.box [.int .i64 (((lv))),.map 1],mS S,a1.bx,b1.bx,.map (encM AVal.str AVal.bool D)] ?_ ?_
 refine qB 2 ?_ ?_ ?_
 refine wLoop (σ:=(Nat×St×Dn×Bool)) (fun ⟨k,T,E,ah⟩=>[(0,.ptr 0 0),(4,.ptr 2 0),(5,.ptr 3 0),(7,.map 4),(8,.bool (ah)),(25,.imm (a1.names.map AVal.str)),(26,.int .i64 ((a1.names.length:Nat):Int)),(27,.int .i64 ((k:Nat):Int))]) (fun ⟨k,T,E,ah⟩=>[bS lv,mS T,a1.bx,b1.bx,.map (encM AVal.str AVal.bool E)]) (fun ⟨k,T,E,ah⟩=>k≤a1.names.length∧passF (unifyF f) b1 (a1.names.drop k) (a1.kids.drop k) T E ah=some P) (fun ⟨k,T,E,ah⟩=>a1.names.length - k) (0,S,D,false) kq (by exact ⟨Nat.zero_le _,hP0⟩) ⟨⟨kq,kq,kq,kq,kq,kq,kq,kq,trivial⟩,by simp [BelL,AVal.bel],by simp,kq,by simp [AObj.belO]⟩ ?_
 rintro ⟨k,T,E,ah⟩ ⟨hk,hP⟩
 have hix:=idxS_le b1.names (a1.names.getD k [])
 refine qZ [(0,.ptr 0 0),(4,.ptr 2 0),(5,.ptr 3 0),(7,.map 4),(8,.bool (ah)),(25,.imm (a1.names.map AVal.str)),(26,nI a1.names.length),(27,nI k)] [bS lv,mS T,a1.bx,b1.bx,.map (encM AVal.str AVal.bool E)] ?_ ?_
 refine qU 1 [(0,.ptr 0 0),(4,.ptr 2 0),(5,.ptr 3 0),(7,.map 4),(8,.bool (ah)),(25,.imm (a1.names.map AVal.str)),(26,nI a1.names.length),(27,nI k),(28,.bool (decide (((k:Nat):Int)<((a1.names.length:Nat):Int))))] ?_ ?_
 refine qSeq ?_ ?_
 by_cases hb2:((k:Nat):Int)<((a1.names.length:Nat):Int)
 refine qt (decide_eq_true hb2) ?_ ?_
 refine qK ?_ ?_
 refine qz [(0,.ptr 0 0),(4,.ptr 2 0),(5,.ptr 3 0),(7,.map 4),(8,.bool (ah)),(25,.imm (a1.names.map AVal.str)),(26,nI a1.names.length),(27,nI k)] ?_ ?_
 refine qSeq ?_ ?_
 refine qB 3 ?_ ?_ ?_
 refine qV 1 ?_ ?_
 refine qy (o_ixmap (k:=.i64) (l:=a1.names) (enc:=AVal.str) (i:=((k:Nat):Int)) [] kq ty22 ty9 (fun _=>rfl) oq oq) ?_ ?_ ?_
 refine qR 3 [(0,.ptr 0 0),(4,.ptr 2 0),(5,.ptr 3 0),(7,.map 4),(8,.bool (ah)),(9,nI k),(10,.str (a1.names.getD k [])),(25,.imm (a1.names.map AVal.str)),(26,nI a1.names.length),(27,nI k)] [bS lv,mS T,a1.bx,b1.bx,.map (encM AVal.str AVal.bool E)] ?_ ?_
 refine qV 3 ?_ ?_
 refine vcallP (args:=[.imm (b1.names.map AVal.str),.str (a1.names.getD k [])]) kq kq kq kq (slIndex_spec b1.names (a1.names.getD k []) oq) (by simp [Ty.v,frzL_app,Occ.v]) (by simp [Ty.v]) (by simp [Ty.v,ownsL_app]) ?_
 refine qR 1 [(0,.ptr 0 0),(4,.ptr 2 0),(5,.ptr 3 0),(7,.map 4),(8,.bool (ah)),(9,nI k),(10,.str (a1.names.getD k [])),(11,.int .i64 (idxS b1.names (a1.names.getD k []))),(25,.imm (a1.names.map AVal.str)),(26,nI a1.names.length),(27,nI k)] [bS lv,mS T,a1.bx,b1.bx,.map (encM AVal.str AVal.bool E)] ?_ ?_
 refine qSeq ?_ ?_
 refine qV 3 ?_ ?_
 by_cases hb3:(idxS b1.names (a1.names.getD k []))<0
 refine qm [37,38] (decide_eq_true hb3) ?_ ?_
 refine qR 4 [(0,.ptr 0 0),(4,.ptr 2 0),(5,.ptr 3 0),(7,.map 4),(8,.bool (ah)),(9,nI k),(10,.str (a1.names.getD k [])),(11,.int .i64 (idxS b1.names (a1.names.getD k []))),(25,.imm (a1.names.map AVal.str)),(26,nI a1.names.length),(27,nI k),(39,.tup []),(40,.tup []),(41,.tup []),(42,.bool true)] [bS lv,mS T,a1.bx,b1.bx,.map (encM AVal.str AVal.bool E)] ?_ ?_
 refine wIfT kq kq ?_
 refine wExit 3 kq kq ?_
 refine AThen_exit ?_
 refine AIn_exit ?_
 refine AThen_normal ?_
 refine qz [(0,.ptr 0 0),(4,.ptr 2 0),(5,.ptr 3 0),(7,.map 4),(8,.bool (ah)),(25,.imm (a1.names.map AVal.str)),(26,nI a1.names.length),(27,nI k),(39,.tup []),(40,.tup []),(41,.tup [])] ?_ ?_
 refine qo ?_ ?_
 refine qy (o_add (a:=((k:Nat):Int)) (b:=1) kq oq oq) ?_ ?_ ?_
 refine qr 1 ?_ ?_
 refine qe ?_ ?_
 refine AThen_normal ⟨(k+1,T,E,(ah)),?_,?_,⟨⟨kq,kq,kq,kq,kq,kq,kq,kq,trivial⟩,by simp [BelL,AVal.bel],by simp,kq,by simp [AObj.belO]⟩⟩
 · try dsimp only
   omega
 rotate_left
 iterate 8 kernel_rfl
 refine qm [37,38] (decide_eq_false hb3) ?_ ?_
 refine qr 2 ?_ ?_
 rcases hm4:mget (a1.names.getD k []) E with _|x4
 refine qy (o_lookN (ok:=false) (o:=4) (ek:=AVal.str) (ev:=AVal.bool) (l:=E) (k:=(a1.names.getD k [])) keyS hm4 kq ty137 ty9 rfl ty4 kq) ?_ ?_ ?_
 refine qR 1 [(0,.ptr 0 0),(4,.ptr 2 0),(5,.ptr 3 0),(7,.map 4),(8,.bool (ah)),(9,nI k),(10,.str (a1.names.getD k [])),(11,.int .i64 (idxS b1.names (a1.names.getD k []))),(25,.imm (a1.names.map AVal.str)),(26,nI a1.names.length),(27,nI k),(39,.map 4),(40,.str (a1.names.getD k [])),(41,.bool false),(42,.bool false)] [bS lv,mS T,a1.bx,b1.bx,.map (encM AVal.str AVal.bool E)] ?_ ?_
 refine wIfF kq kq ?_
 refine qK ?_ ?_
 refine qz [(0,.ptr 0 0),(4,.ptr 2 0),(5,.ptr 3 0),(7,.map 4),(9,nI k),(10,.str (a1.names.getD k [])),(11,.int .i64 (idxS b1.names (a1.names.getD k []))),(25,.imm (a1.names.map AVal.str)),(26,nI a1.names.length),(27,nI k),(39,.map 4),(40,.str (a1.names.getD k [])),(41,.bool false)] ?_ ?_
 refine qV 2 ?_ ?_
 refine qY (o_mset (o:=4) (ek:=AVal.str) (ev:=AVal.bool) (l:=E) (k:=(a1.names.getD k [])) (x:=true) keyS kq ty137 ty9 rfl kq kq) ?_ ?_ ?_
 refine qR 1 [(0,.ptr 0 0),(4,.ptr 2 0),(5,.ptr 3 0),(7,.map 4),(8,.bool true),(9,nI k),(11,.int .i64 (idxS b1.names (a1.names.getD k []))),(25,.imm (a1.names.map AVal.str)),(26,nI a1.names.length),(27,nI k),(39,.map 4),(40,.str (a1.names.getD k [])),(41,.bool false)] [bS lv,mS T,a1.bx,b1.bx,.map (encM AVal.str AVal.bool (mset (a1.names.getD k []) true E))] ?_ ?_
 obtain ⟨okU,SU,hU,hUt,hUf⟩:=pass_call hP oq hra.2 oq (isD_n aq)
 refine qz [(0,.ptr 0 0),(4,.ptr 2 0),(5,.ptr 3 0),(7,.map 4),(8,.bool true),(9,nI k),(11,.int .i64 (idxS b1.names (a1.names.getD k []))),(25,.imm (a1.names.map AVal.str)),(26,nI a1.names.length),(27,nI k),(39,.map 4),(40,.str (a1.names.getD k [])),(41,.bool false)] ?_ ?_
 refine qSeq ?_ ?_
 refine wDrw cxM kq extThen (dstart ?_)
 refine qu 4 ?_ ?_
 refine qd ((o_ixmap (k:=.i64) (l:=a1.kids) (enc:=Ty.enc) (i:=((k:Nat):Int)) Ty.zero kq ty23 ty25 ty_size oq oq).trans (congrArg (fun cs=>some (AVal.pimm cs 0,_)) (ty_cells (a1.kids.getD k Ty.zero)))) ?_ ?_ ?_ ?_
 refine qu 4 ?_ ?_
 refine qd ((o_ixmap (k:=.i64) (l:=b1.kids) (enc:=Ty.enc) (i:=(idxS b1.names (a1.names.getD k []))) Ty.zero kq ty23 ty25 ty_size oq oq).trans (congrArg (fun cs=>some (AVal.pimm cs 0,_)) (ty_cells (b1.kids.getD (((idxS b1.names (a1.names.getD k []))).toNat) Ty.zero)))) ?_ ?_ ?_ ?_
 refine qu 1 ?_ ?_
 refine dcallA (args:=[.ptr 0 0,.agg [.int .i64 ((a1.kids.getD k Ty.zero).kind),.str (a1.kids.getD k Ty.zero).name,.int .i64 ((a1.kids.getD k Ty.zero).n),.imm ((a1.kids.getD k Ty.zero).names.map AVal.str),.imm ((a1.kids.getD k Ty.zero).kids.map Ty.enc)],.agg [.int .i64 ((b1.kids.getD (((idxS b1.names (a1.names.getD k []))).toNat) Ty.zero).kind),.str (b1.kids.getD (((idxS b1.names (a1.names.getD k []))).toNat) Ty.zero).name,.int .i64 ((b1.kids.getD (((idxS b1.names (a1.names.getD k []))).toNat) Ty.zero).n),.imm ((b1.kids.getD (((idxS b1.names (a1.names.getD k []))).toNat) Ty.zero).names.map AVal.str),.imm ((b1.kids.getD (((idxS b1.names (a1.names.getD k []))).toNat) Ty.zero).kids.map Ty.enc)]]) (hs:=[bS lv,mS T]) (hs':=[.box [.int .i64 ((lv)),.map 1],mS SU]) (rest:=[a1.bx,b1.bx,.map (encM AVal.str AVal.bool (mset (a1.names.getD k []) true E))]) (L:=[0,1]) kq kq kq kq kq kq (ihU T (a1.kids.getD k Ty.zero) (b1.kids.getD (((idxS b1.names (a1.names.getD k []))).toNat) Ty.zero) okU SU (Nat.lt_trans (sz_kid a1 _ oq) hsa1) (Nat.lt_trans (sz_kid b1 _ oq) hsb1) (hU)) (by simp [AObj.belO,hpS,Ty.v,Vr.v]) (by simp [AObj.belO,hpS,Ty.v,Vr.v]) rfl (by simp [AObj.belO,hpS,Ty.v,Vr.v]) (by simp [AObj.belO,hpS,Ty.v,Vr.v]) kq rfl rfl ?_
 refine qu 1 ?_ ?_
 refine dend kq ⟨kq,?_⟩
 refine AThen_normal ?_
 refine qZ [(0,.ptr 0 0),(4,.ptr 2 0),(5,.ptr 3 0),(7,.map 4),(8,.bool true),(25,.imm (a1.names.map AVal.str)),(26,nI a1.names.length),(27,nI k),(39,.map 4),(40,.str (a1.names.getD k [])),(41,.bool false),(57,.bool (!(okU)))] [.box [.int .i64 ((lv)),.map 1],mS SU,a1.bx,b1.bx,.map (encM AVal.str AVal.bool (mset (a1.names.getD k []) true E))] ?_ ?_
 by_cases hb5:(okU)=true
 refine qf (x:=(!(okU))) (congrArg not (hb5)) ?_ ?_
 refine qk ?_ ?_
 refine AIn_normal ?_
 refine AThen_normal ?_
 refine qz [(0,.ptr 0 0),(4,.ptr 2 0),(5,.ptr 3 0),(7,.map 4),(8,.bool true),(25,.imm (a1.names.map AVal.str)),(26,nI a1.names.length),(27,nI k),(39,.map 4),(40,.str (a1.names.getD k [])),(41,.bool false)] ?_ ?_
 refine qo ?_ ?_
 refine qy (o_add (a:=((k:Nat):Int)) (b:=1) kq oq oq) ?_ ?_ ?_
 refine qr 1 ?_ ?_
 refine qe ?_ ?_
 refine AThen_normal ⟨(k+1,SU,(mset (a1.names.getD k []) true E),true),?_,?_,⟨⟨kq,kq,kq,kq,kq,kq,kq,kq,trivial⟩,by simp [BelL,AVal.bel],by simp,kq,by simp [AObj.belO]⟩⟩
 · try dsimp only
   omega
 rotate_left
 iterate 8 kernel_rfl
 refine qt (x:=(!(okU))) (congrArg not (Bool.eq_false_iff.2 hb5)) ?_ ?_
 refine qU 1 [(6,.bool false)] ?_ ?_
 refine wRet kq ?_
 apply iR
 apply aR
 apply aR
 apply iR
 apply iR
 apply aR
 apply iR
 apply aR
 refine leafA (l:=[.bool false]) (.inr rfl) kq (by have e:=hUf aq;have e2:=hPf (by rw [e]);have e3:=hRf (by rw [e2]);rw [← e3.1];rfl) (by simp [awrap]) (by simp [awrap]) ?_ ?_
 refine Eq.trans (b:=[.box [.int .i64 ((lv)),.map 1],mS SU]) kq ?_
 · have e:=hUf aq;have e2:=hPf (by rw [e]);have e3:=hRf (by rw [e2]);have e4:SU=m':=(by have:=e3.2;rw [e2,e] at this;exact this)
   rw [← e4];rfl
 · simp [AObj.belO,hpS,Ty.v,Vr.v]
 iterate 24 kernel_rfl
 refine qy (o_lookS (ok:=false) (o:=4) (ek:=AVal.str) (ev:=AVal.bool) (l:=E) (k:=(a1.names.getD k [])) (x:=x4) keyS hm4 kq ty137 ty9 rfl ty4 kq) ?_ ?_ ?_
 refine qR 1 [(0,.ptr 0 0),(4,.ptr 2 0),(5,.ptr 3 0),(7,.map 4),(8,.bool (ah)),(9,nI k),(10,.str (a1.names.getD k [])),(11,.int .i64 (idxS b1.names (a1.names.getD k []))),(25,.imm (a1.names.map AVal.str)),(26,nI a1.names.length),(27,nI k),(39,.map 4),(40,.str (a1.names.getD k [])),(41,.bool (x4)),(42,.bool (x4))] [bS lv,mS T,a1.bx,b1.bx,.map (encM AVal.str AVal.bool E)] ?_ ?_
 by_cases hb6:(x4)=true
 refine qt (hb6) ?_ ?_
 refine wExit 3 kq kq ?_
 refine AThen_exit ?_
 refine AIn_exit ?_
 refine AThen_normal ?_
 refine qz [(0,.ptr 0 0),(4,.ptr 2 0),(5,.ptr 3 0),(7,.map 4),(8,.bool (ah)),(25,.imm (a1.names.map AVal.str)),(26,nI a1.names.length),(27,nI k),(39,.map 4),(40,.str (a1.names.getD k [])),(41,.bool (x4))] ?_ ?_
 refine qo ?_ ?_
 refine qy (o_add (a:=((k:Nat):Int)) (b:=1) kq oq oq) ?_ ?_ ?_
 refine qr 1 ?_ ?_
 refine qe ?_ ?_
 refine AThen_normal ⟨(k+1,T,E,(ah)),?_,?_,⟨⟨kq,kq,kq,kq,kq,kq,kq,kq,trivial⟩,by simp [BelL,AVal.bel],by simp,kq,by simp [AObj.belO]⟩⟩
 · try dsimp only
   omega
 rotate_left
 iterate 7 kernel_rfl
 refine qf (Bool.eq_false_iff.2 hb6) ?_ ?_
 refine qK ?_ ?_
 refine qz [(0,.ptr 0 0),(4,.ptr 2 0),(5,.ptr 3 0),(7,.map 4),(9,nI k),(10,.str (a1.names.getD k [])),(11,.int .i64 (idxS b1.names (a1.names.getD k []))),(25,.imm (a1.names.map AVal.str)),(26,nI a1.names.length),(27,nI k),(39,.map 4),(40,.str (a1.names.getD k [])),(41,.bool (x4))] ?_ ?_
 refine qV 2 ?_ ?_
 refine qY (o_mset (o:=4) (ek:=AVal.str) (ev:=AVal.bool) (l:=E) (k:=(a1.names.getD k [])) (x:=true) keyS kq ty137 ty9 rfl kq kq) ?_ ?_ ?_
 refine qR 1 [(0,.ptr 0 0),(4,.ptr 2 0),(5,.ptr 3 0),(7,.map 4),(8,.bool true),(9,nI k),(11,.int .i64 (idxS b1.names (a1.names.getD k []))),(25,.imm (a1.names.map AVal.str)),(26,nI a1.names.length),(27,nI k),(39,.map 4),(40,.str (a1.names.getD k [])),(41,.bool (x4))] [bS lv,mS T,a1.bx,b1.bx,.map (encM AVal.str AVal.bool (mset (a1.names.getD k []) true E))] ?_ ?_
 obtain ⟨okU,SU,hU,hUt,hUf⟩:=pass_call hP oq hra.2 oq (isD_f aq aq)
 refine qz [(0,.ptr 0 0),(4,.ptr 2 0),(5,.ptr 3 0),(7,.map 4),(8,.bool true),(9,nI k),(11,.int .i64 (idxS b1.names (a1.names.getD k []))),(25,.imm (a1.names.map AVal.str)),(26,nI a1.names.length),(27,nI k),(39,.map 4),(40,.str (a1.names.getD k [])),(41,.bool (x4))] ?_ ?_
 refine qSeq ?_ ?_
 refine wDrw cxM kq extThen (dstart ?_)
 refine qu 4 ?_ ?_
 refine qd ((o_ixmap (k:=.i64) (l:=a1.kids) (enc:=Ty.enc) (i:=((k:Nat):Int)) Ty.zero kq ty23 ty25 ty_size oq oq).trans (congrArg (fun cs=>some (AVal.pimm cs 0,_)) (ty_cells (a1.kids.getD k Ty.zero)))) ?_ ?_ ?_ ?_
 refine qu 4 ?_ ?_
 refine qd ((o_ixmap (k:=.i64) (l:=b1.kids) (enc:=Ty.enc) (i:=(idxS b1.names (a1.names.getD k []))) Ty.zero kq ty23 ty25 ty_size oq oq).trans (congrArg (fun cs=>some (AVal.pimm cs 0,_)) (ty_cells (b1.kids.getD (((idxS b1.names (a1.names.getD k []))).toNat) Ty.zero)))) ?_ ?_ ?_ ?_
 refine qu 1 ?_ ?_
 refine dcallA (args:=[.ptr 0 0,.agg [.int .i64 ((a1.kids.getD k Ty.zero).kind),.str (a1.kids.getD k Ty.zero).name,.int .i64 ((a1.kids.getD k Ty.zero).n),.imm ((a1.kids.getD k Ty.zero).names.map AVal.str),.imm ((a1.kids.getD k Ty.zero).kids.map Ty.enc)],.agg [.int .i64 ((b1.kids.getD (((idxS b1.names (a1.names.getD k []))).toNat) Ty.zero).kind),.str (b1.kids.getD (((idxS b1.names (a1.names.getD k []))).toNat) Ty.zero).name,.int .i64 ((b1.kids.getD (((idxS b1.names (a1.names.getD k []))).toNat) Ty.zero).n),.imm ((b1.kids.getD (((idxS b1.names (a1.names.getD k []))).toNat) Ty.zero).names.map AVal.str),.imm ((b1.kids.getD (((idxS b1.names (a1.names.getD k []))).toNat) Ty.zero).kids.map Ty.enc)]]) (hs:=[bS lv,mS T]) (hs':=[.box [.int .i64 ((lv)),.map 1],mS SU]) (rest:=[a1.bx,b1.bx,.map (encM AVal.str AVal.bool (mset (a1.names.getD k []) true E))]) (L:=[0,1]) kq kq kq kq kq kq (ihU T (a1.kids.getD k Ty.zero) (b1.kids.getD (((idxS b1.names (a1.names.getD k []))).toNat) Ty.zero) okU SU (Nat.lt_trans (sz_kid a1 _ oq) hsa1) (Nat.lt_trans (sz_kid b1 _ oq) hsb1) (hU)) (by simp [AObj.belO,hpS,Ty.v,Vr.v]) (by simp [AObj.belO,hpS,Ty.v,Vr.v]) rfl (by simp [AObj.belO,hpS,Ty.v,Vr.v]) (by simp [AObj.belO,hpS,Ty.v,Vr.v]) kq rfl rfl ?_
 refine qu 1 ?_ ?_
 refine dend kq ⟨kq,?_⟩
 refine AThen_normal ?_
 refine qZ [(0,.ptr 0 0),(4,.ptr 2 0),(5,.ptr 3 0),(7,.map 4),(8,.bool true),(25,.imm (a1.names.map AVal.str)),(26,nI a1.names.length),(27,nI k),(39,.map 4),(40,.str (a1.names.getD k [])),(41,.bool (x4)),(57,.bool (!(okU)))] [.box [.int .i64 ((lv)),.map 1],mS SU,a1.bx,b1.bx,.map (encM AVal.str AVal.bool (mset (a1.names.getD k []) true E))] ?_ ?_
 by_cases hb7:(okU)=true
 refine qf (x:=(!(okU))) (congrArg not (hb7)) ?_ ?_
 refine qk ?_ ?_
 refine AIn_normal ?_
 refine AThen_normal ?_
 refine qz [(0,.ptr 0 0),(4,.ptr 2 0),(5,.ptr 3 0),(7,.map 4),(8,.bool true),(25,.imm (a1.names.map AVal.str)),(26,nI a1.names.length),(27,nI k),(39,.map 4),(40,.str (a1.names.getD k [])),(41,.bool (x4))] ?_ ?_
 refine qo ?_ ?_
 refine qy (o_add (a:=((k:Nat):Int)) (b:=1) kq oq oq) ?_ ?_ ?_
 refine qr 1 ?_ ?_
 refine qe ?_ ?_
 refine AThen_normal ⟨(k+1,SU,(mset (a1.names.getD k []) true E),true),?_,?_,⟨⟨kq,kq,kq,kq,kq,kq,kq,kq,trivial⟩,by simp [BelL,AVal.bel],by simp,kq,by simp [AObj.belO]⟩⟩
 · try dsimp only
   omega
 rotate_left
 iterate 8 kernel_rfl
 refine qt (x:=(!(okU))) (congrArg not (Bool.eq_false_iff.2 hb7)) ?_ ?_
 refine qU 1 [(6,.bool false)] ?_ ?_
 refine wRet kq ?_
 apply iR
 apply aR
 apply aR
 apply iR
 apply iR
 apply aR
 apply iR
 apply aR
 refine leafA (l:=[.bool false]) (.inr rfl) kq (by have e:=hUf aq;have e2:=hPf (by rw [e]);have e3:=hRf (by rw [e2]);rw [← e3.1];rfl) (by simp [awrap]) (by simp [awrap]) ?_ ?_
 refine Eq.trans (b:=[.box [.int .i64 ((lv)),.map 1],mS SU]) kq ?_
 · have e:=hUf aq;have e2:=hPf (by rw [e]);have e3:=hRf (by rw [e2]);have e4:SU=m':=(by have:=e3.2;rw [e2,e] at this;exact this)
   rw [← e4];rfl
 · simp [AObj.belO,hpS,Ty.v,Vr.v]
 iterate 41 kernel_rfl
 refine qf (decide_eq_false hb2) ?_ ?_
 refine wExit 2 kq kq ?_
 refine AThen_exit ?_
 refine AThen_exit ?_
 refine AIn_exit ?_
 refine AIn_normal ?_
 refine AThen_normal ⟨(g - 1,T,a1,b1,E,(ah)),?_,?_,⟨⟨kq,kq,kq,kq,kq,trivial⟩,by simp [BelL,AVal.bel],by simp,kq,by simp [AObj.belO]⟩⟩
 · try dsimp only
   exact hg0
 · try dsimp only
   obtain rfl:=pass_end hP oq
   exact ⟨hra.1,hrb.1,(hPt _ rfl rfl).1,fun e=>⟨(hPt _ rfl rfl).2 e,hra,hrb⟩⟩
 iterate 22 kernel_rfl
 refine qf (Bool.eq_false_iff.2 hb1) ?_ ?_
 refine wExit 0 kq kq ?_
 refine AThen_exit ?_
 refine AThen_exit ?_
 refine AIn_exit ?_
 refine AThen_normal ?_
 refine qz [(0,.ptr 0 0),(4,.ptr 2 0),(5,.ptr 3 0)] ?_ ?_
 obtain ⟨hRe,hra,hrb⟩:=hE (Bool.eq_false_iff.2 aq)
 have hfin:finF f S a b=some (ok,m'):=by have:=hRt (by rw [hRe]);rw [hRe] at this;exact this
 obtain ⟨hg1,hg2,f1,f2,f3⟩:=fin_g hfin
 have hra2:=hra.2;have hrb2:=hrb.2;have hz5:=sz_names (recT (onL a b a.names.length) b.n);have hz6:=sz_names (recT (onL b a b.names.length) a.n);have hg5:=hg1 b.n;have hg6:=hg2 a.n
 refine qz [(0,.ptr 0 0),(4,.ptr 2 0),(5,.ptr 3 0)] ?_ ?_
 refine qSeq ?_ ?_
 refine wDrw cxM kq extThen (dstart ?_)
 refine qu 4 ?_ ?_
 refine dcallP (args:=[.agg [.int .i64 (a.kind),.str a.name,.int .i64 (a.n),.imm (a.names.map AVal.str),.imm (a.kids.map Ty.enc)],.agg [.int .i64 (b.kind),.str b.name,.int .i64 (b.n),.imm (b.names.map AVal.str),.imm (b.kids.map Ty.enc)],.int .i64 (b.n)]) kq kq kq kq kq (only_spec a b (b.n) oq oq oq) (by intro _;simp [Ty.v,frzL_app,Occ.v]) (by simp [Ty.v]) (by simp [Ty.v,ownsL_app]) ?_
 refine qu 4 ?_ ?_
 refine dcallP (args:=[.agg [.int .i64 (b.kind),.str b.name,.int .i64 (b.n),.imm (b.names.map AVal.str),.imm (b.kids.map Ty.enc)],.agg [.int .i64 (a.kind),.str a.name,.int .i64 (a.n),.imm (a.names.map AVal.str),.imm (a.kids.map Ty.enc)],.int .i64 (a.n)]) kq kq kq kq kq (only_spec b a (a.n) oq oq oq) (by intro _;simp [Ty.v,frzL_app,Occ.v]) (by simp [Ty.v]) (by simp [Ty.v,ownsL_app]) ?_
 refine qu 4 ?_ ?_
 refine dend kq ⟨kq,?_⟩
 refine AThen_normal ?_
 refine qZ [(0,.ptr 0 0),(4,.ptr 2 0),(5,.ptr 3 0),(12,.ptr 5 0),(13,.ptr 6 0)] [bS lv,mS S,a.bx,b.bx,.map (encM AVal.str AVal.bool D),(recT (onL a b a.names.length) (b.n)).bx,(recT (onL b a b.names.length) (a.n)).bx] ?_ ?_
 refine qSeq ?_ ?_
 refine qB 4 ?_ ?_ ?_
 refine qU 6 [(0,.ptr 0 0),(4,.ptr 2 0),(5,.ptr 3 0),(12,.ptr 5 0),(13,.ptr 6 0),(69,.bool ((a.n)==(b.n)))] ?_ ?_
 by_cases hb8:(a.n)=(b.n)
 refine qt (beq_iff_eq.2 hb8) ?_ ?_
 refine qV 2 ?_ ?_
 refine qy (o_lenmap (l:=(recT (onL a b a.names.length) (b.n)).names) (enc:=AVal.str) kq ty22) ?_ ?_ ?_
 refine qr 2 ?_ ?_
 refine qy (o_lenmap (l:=(recT (onL b a b.names.length) (a.n)).names) (enc:=AVal.str) kq ty22) ?_ ?_ ?_
 refine qy (o_add (a:=(((recT (onL a b a.names.length) (b.n)).names.length:Nat):Int)) (b:=(((recT (onL b a b.names.length) (a.n)).names.length:Nat):Int)) kq oq oq) ?_ ?_ ?_
 refine qR 2 [(6,.bool (((((recT (onL a b a.names.length) (b.n)).names.length+(recT (onL b a b.names.length) (a.n)).names.length):Nat):Int)==0))] [bS lv,mS S,a.bx,b.bx,.map (encM AVal.str AVal.bool D),(recT (onL a b a.names.length) (b.n)).bx,(recT (onL b a b.names.length) (a.n)).bx] ?_ ?_
 refine wRet kq ?_
 apply iR
 apply aR
 refine leafA (l:=[.bool (((((recT (onL a b a.names.length) (b.n)).names.length+(recT (onL b a b.names.length) (a.n)).names.length):Nat):Int)==0)]) (.inr rfl) kq (by have e:=f1 aq;rw [← e.1];refine congrArg AVal.bool ?_;rw [Bool.eq_iff_iff,beq_iff_eq,decide_eq_true_eq];omega) (by simp [awrap]) (by simp [awrap]) ?_ ?_
 refine Eq.trans (b:=[bS lv,mS S]) kq ?_
 · have e:=f1 aq
   rw [← e.2];rfl
 · simp [AObj.belO,hpS,Ty.v,Vr.v]
 iterate 10 kernel_rfl
 refine qf (beq_eq_false_iff_ne.2 hb8) ?_ ?_
 refine qV 2 ?_ ?_
 refine qy (o_lenmap (l:=(recT (onL a b a.names.length) (b.n)).names) (enc:=AVal.str) kq ty22) ?_ ?_ ?_
 refine qr 2 ?_ ?_
 by_cases hb9:(((recT (onL a b a.names.length) (b.n)).names.length:Nat):Int) > 0
 refine qm [87,88] (decide_eq_true hb9) ?_ ?_
 refine qr 5 ?_ ?_
 by_cases hb10:(b.n)=0
 refine qm [91,92,93] (beq_iff_eq.2 hb10) ?_ ?_
 refine qR 11 [(0,.ptr 0 0),(4,.ptr 2 0),(5,.ptr 3 0),(12,.ptr 5 0),(13,.ptr 6 0),(83,.bool true)] [bS lv,mS S,a.bx,b.bx,.map (encM AVal.str AVal.bool D),(recT (onL a b a.names.length) (b.n)).bx,(recT (onL b a b.names.length) (a.n)).bx] ?_ ?_
 refine wIfT kq kq ?_
 refine qU 1 [(6,.bool false)] ?_ ?_
 refine wRet kq ?_
 apply iR
 apply aR
 refine leafA (l:=[.bool false]) (.inr rfl) kq (by have e:=f2 aq oq;rw [← e.1];rfl) (by simp [awrap]) (by simp [awrap]) ?_ ?_
 refine Eq.trans (b:=[bS lv,mS S]) kq ?_
 · have e:=f2 aq oq
   rw [← e.2];rfl
 · simp [AObj.belO,hpS,Ty.v,Vr.v]
 iterate 3 kernel_rfl
 refine qm [91,92,93] (beq_eq_false_iff_ne.2 hb10) ?_ ?_
 refine qr 2 ?_ ?_
 refine qy (o_lenmap (l:=(recT (onL b a b.names.length) (a.n)).names) (enc:=AVal.str) kq ty22) ?_ ?_ ?_
 refine qr 2 ?_ ?_
 by_cases hb11:(((recT (onL b a b.names.length) (a.n)).names.length:Nat):Int) > 0
 refine qm [97,98] (decide_eq_true hb11) ?_ ?_
 refine qR 6 [(0,.ptr 0 0),(4,.ptr 2 0),(5,.ptr 3 0),(12,.ptr 5 0),(13,.ptr 6 0),(83,.bool ((a.n)==0))] [bS lv,mS S,a.bx,b.bx,.map (encM AVal.str AVal.bool D),(recT (onL a b a.names.length) (b.n)).bx,(recT (onL b a b.names.length) (a.n)).bx] ?_ ?_
 by_cases hb12:(a.n)=0
 refine qt (beq_iff_eq.2 hb12) ?_ ?_
 refine qU 1 [(6,.bool false)] ?_ ?_
 refine wRet kq ?_
 apply iR
 apply aR
 refine leafA (l:=[.bool false]) (.inr rfl) kq (by have e:=f2 aq oq;rw [← e.1];rfl) (by simp [awrap]) (by simp [awrap]) ?_ ?_
 refine Eq.trans (b:=[bS lv,mS S]) kq ?_
 · have e:=f2 aq oq
   rw [← e.2];rfl
 · simp [AObj.belO,hpS,Ty.v,Vr.v]
 iterate 2 kernel_rfl
 refine qf (beq_eq_false_iff_ne.2 hb12) ?_ ?_
 refine qV 2 ?_ ?_
 refine qy (o_lenmap (l:=(recT (onL a b a.names.length) (b.n)).names) (enc:=AVal.str) kq ty22) ?_ ?_ ?_
 refine qr 2 ?_ ?_
 by_cases hb13:(((recT (onL a b a.names.length) (b.n)).names.length:Nat):Int)=0
 · exfalso;omega
 refine qm [108,109] (beq_eq_false_iff_ne.2 hb13) ?_ ?_
 refine qR 5 [(0,.ptr 0 0),(4,.ptr 2 0),(5,.ptr 3 0),(12,.ptr 5 0),(13,.ptr 6 0),(104,.bool false)] [bS lv,mS S,a.bx,b.bx,.map (encM AVal.str AVal.bool D),(recT (onL a b a.names.length) (b.n)).bx,(recT (onL b a b.names.length) (a.n)).bx] ?_ ?_
 refine wIfF kq kq ?_
 refine qV 2 ?_ ?_
 refine qy (o_lenmap (l:=(recT (onL b a b.names.length) (a.n)).names) (enc:=AVal.str) kq ty22) ?_ ?_ ?_
 refine qR 2 [(0,.ptr 0 0),(4,.ptr 2 0),(5,.ptr 3 0),(12,.ptr 5 0),(13,.ptr 6 0),(122,.bool ((((recT (onL b a b.names.length) (a.n)).names.length:Nat):Int)==0))] [bS lv,mS S,a.bx,b.bx,.map (encM AVal.str AVal.bool D),(recT (onL a b a.names.length) (b.n)).bx,(recT (onL b a b.names.length) (a.n)).bx] ?_ ?_
 by_cases hb14:(((recT (onL b a b.names.length) (a.n)).names.length:Nat):Int)=0
 · exfalso;omega
 refine qf (beq_eq_false_iff_ne.2 hb14) ?_ ?_
 refine qk ?_ ?_
 refine AIn_normal ?_
 refine AThen_normal ?_
 refine qz [(0,.ptr 0 0),(4,.ptr 2 0),(5,.ptr 3 0),(12,.ptr 5 0),(13,.ptr 6 0)] ?_ ?_
 obtain ⟨⟨hsl,hna,hnb⟩,ok1,S2,hb1,hb2,hb3⟩:=((f3 aq oq).2 oq).2 oq
 refine qz [(0,.ptr 0 0),(4,.ptr 2 0),(5,.ptr 3 0),(12,.ptr 5 0),(13,.ptr 6 0)] ?_ ?_
 refine qV 2 ?_ ?_
 refine vgrow1 (args:=[.agg [.int .i64 (a.kind),.str a.name,.int .i64 (a.n),.imm (a.names.map AVal.str),.imm (a.kids.map Ty.enc)],.agg [.int .i64 (b.kind),.str b.name,.int .i64 (b.n),.imm (b.names.map AVal.str),.imm (b.kids.map Ty.enc)]]) (args':=[Ty.v a,Ty.v b]) (V':=.map 7) (F:=[bS lv,mS S,a.bx,b.bx,.map (encM AVal.str AVal.bool D),(recT (onL a b a.names.length) (b.n)).bx,(recT (onL b a b.names.length) (a.n)).bx]) (G':=[.map (encM AVal.str AVal.bool (uniF (a.names++b.names)))]) kq kq kq kq (union_raw a b has hbs) [bS lv,mS S,a.bx,b.bx,.map (encM AVal.str AVal.bool D),(recT (onL a b a.names.length) (b.n)).bx,(recT (onL b a b.names.length) (a.n)).bx] kq (by simp [AVal.frz,frzL,AVal.ren,renL,renH,AObj.ren,lendR,frzH,ownsL,AVal.owns,Ty.v,renE_dnm]) (by simp [AVal.frz,frzL,AVal.ren,renL,renH,AObj.ren,lendR,frzH,ownsL,AVal.owns,Ty.v,renE_dnm]) (by simp [AVal.frz,frzL,AVal.ren,renL,renH,AObj.ren,lendR,frzH,ownsL,AVal.owns,Ty.v,renE_dnm]) (by simp [AVal.frz,frzL,AVal.ren,renL,renH,AObj.ren,lendR,frzH,ownsL,AVal.owns,Ty.v,renE_dnm]) (by simp [AVal.frz,frzL,AVal.ren,renL,renH,AObj.ren,lendR,frzH,ownsL,AVal.owns,Ty.v,renE_dnm]) ?_
 refine vcallH (args:=[.map 7]) (v:=.fn (.func 138) [] [.ptr 8 0]) (h':=[bS lv,mS S,a.bx,b.bx,.map (encM AVal.str AVal.bool D),(recT (onL a b a.names.length) (b.n)).bx,(recT (onL b a b.names.length) (a.n)).bx,.map (encM AVal.str AVal.bool (uniF (a.names++b.names))),.box [.map 7]]) [bS lv,mS S,a.bx,b.bx,.map (encM AVal.str AVal.bool D),(recT (onL a b a.names.length) (b.n)).bx,(recT (onL b a b.names.length) (a.n)).bx,.map (encM AVal.str AVal.bool (uniF (a.names++b.names)))] kq kq kq kq kq (CallsA_at [7] (keysB_raw (uniF (a.names++b.names))) rfl dq zq (by simp [AObj.belO]) (by simp [renH,AObj.ren,lendR,renE_dnm]) rfl (by simp [renL,AVal.ren,lendR]) (by simp [AVal.ren,renL,lendR]) (by simp [lendH,setAll,renH,AObj.ren,renL,AVal.ren,lendR,renE_dnm])) ?_
 refine vcallH (args:=[.fn (.func 138) [] [.ptr 8 0]]) (v:=.imm ((uniN a b).map AVal.str)) (h':=[bS lv,mS S,a.bx,b.bx,.map (encM AVal.str AVal.bool D),(recT (onL a b a.names.length) (b.n)).bx,(recT (onL b a b.names.length) (a.n)).bx,.map (encM AVal.str AVal.bool (uniF (a.names++b.names))),.box [.map 7]]) [bS lv,mS S,a.bx,b.bx,.map (encM AVal.str AVal.bool D),(recT (onL a b a.names.length) (b.n)).bx,(recT (onL b a b.names.length) (a.n)).bx,.map (encM AVal.str AVal.bool (uniF (a.names++b.names))),.box [.map 7]] kq kq kq kq kq (sorted_dn 7 8 rfl rfl (names_fd a b has hbs)) ?_
 refine qR 1 [(0,.ptr 0 0),(4,.ptr 2 0),(5,.ptr 3 0),(12,.ptr 5 0),(13,.ptr 6 0),(14,.imm ((uniN a b).map AVal.str))] [bS lv,mS S,a.bx,b.bx,.map (encM AVal.str AVal.bool D),(recT (onL a b a.names.length) (b.n)).bx,(recT (onL b a b.names.length) (a.n)).bx,.map (encM AVal.str AVal.bool (uniF (a.names++b.names))),.box [.map 7]] ?_ ?_
 refine qSeq ?_ ?_
 refine wDrw cxM kq extThen (dstart ?_)
 refine qu 7 ?_ ?_
 rcases hm15:mget (a.n) S with _|x15
 · exact absurd hm15 (aq)
 refine qd (o_lookS (ok:=false) (o:=1) (ek:=(AVal.int .i64)) (ev:=Vr.v) (l:=S) (k:=(a.n)) (x:=x15) keyI hm15 kq ty88 ty3 rfl ty93 kq) ?_ ?_ ?_ ?_
 refine qu 7 ?_ ?_
 rcases hm16:mget (b.n) S with _|x16
 · exact absurd hm16 (aq)
 refine qd (o_lookS (ok:=false) (o:=1) (ek:=(AVal.int .i64)) (ev:=Vr.v) (l:=S) (k:=(b.n)) (x:=x16) keyI hm16 kq ty88 ty3 rfl ty93 kq) ?_ ?_ ?_ ?_
 refine qu 1 ?_ ?_
 refine qd (o_minI (a:=(x15.lv)) (b:=(x16.lv)) (ats:=[3,3]) kq) ?_ ?_ ?_ ?_
 refine qu 2 ?_ ?_
 refine dcallA (args:=[.ptr 0 0,.agg [.bool true,.int .i64 (min (x15.lv) (x16.lv)),.bool false,.int .i64 0,.str [],.int .i64 0,.full [],.full [],.imm ((uniN a b).map AVal.str)]]) (hs:=[bS lv,mS S]) (hs':=[.box [.int .i64 ((lv)),.map 1],mS (mset ((((S.length+1):Nat):Int)) ⟨true,(min (x15.lv) (x16.lv)),false,Ty.zero,(uniN a b)⟩ S)]) (rest:=[a.bx,b.bx,.map (encM AVal.str AVal.bool D),(recT (onL a b a.names.length) (b.n)).bx,(recT (onL b a b.names.length) (a.n)).bx,.map (encM AVal.str AVal.bool (uniF (a.names++b.names))),.box [.map 7]]) (L:=[0,1]) kq kq kq kq kq kq (make_row (lv) (min (x15.lv) (x16.lv)) (uniN a b) S oq) (by simp [AObj.belO,hpS,Ty.v,Vr.v]) (by simp [AObj.belO,hpS,Ty.v,Vr.v]) rfl (by simp [AObj.belO,hpS,Ty.v,Vr.v]) (by simp [AObj.belO,hpS,Ty.v,Vr.v]) kq rfl rfl ?_
 refine qu 1 ?_ ?_
 refine dend kq ⟨kq,?_⟩
 refine AThen_normal ?_
 refine qZ [(0,.ptr 0 0),(4,.ptr 2 0),(5,.ptr 3 0),(12,.ptr 5 0),(13,.ptr 6 0),(15,nI (S.length+1))] [.box [.int .i64 ((lv)),.map 1],mS (mset ((((S.length+1):Nat):Int)) ⟨true,(min (x15.lv) (x16.lv)),false,Ty.zero,(uniN a b)⟩ S),a.bx,b.bx,.map (encM AVal.str AVal.bool D),(recT (onL a b a.names.length) (b.n)).bx,(recT (onL b a b.names.length) (a.n)).bx,.map (encM AVal.str AVal.bool (uniF (a.names++b.names))),.box [.map 7]] ?_ ?_
 have hnv:newV S a b=(mset ((((S.length+1):Nat):Int)) ⟨true,(min (x15.lv) (x16.lv)),false,Ty.zero,(uniN a b)⟩ S):=by unfold newV;rw [lvOf_s (S:=S) (n:=a.n) aq,lvOf_s (S:=S) (n:=b.n) aq]
 rw [hnv] at hb1
 refine qz [(0,.ptr 0 0),(4,.ptr 2 0),(5,.ptr 3 0),(12,.ptr 5 0),(13,.ptr 6 0),(15,nI (S.length+1))] ?_ ?_
 refine qW 6 [(0,.ptr 0 0),(4,.ptr 2 0),(5,.ptr 3 0),(12,.ptr 5 0),(13,.ptr 6 0)] [.box [.int .i64 ((lv)),.map 1],mS (mset ((((S.length+1):Nat):Int)) ⟨true,(min (x15.lv) (x16.lv)),false,Ty.zero,(uniN a b)⟩ S),a.bx,b.bx,.map (encM AVal.str AVal.bool D),.box [.int .i64 ((recT (onL a b a.names.length) (b.n)).kind),.str (recT (onL a b a.names.length) (b.n)).name,nI (S.length+1),.imm ((recT (onL a b a.names.length) (b.n)).names.map AVal.str),.imm ((recT (onL a b a.names.length) (b.n)).kids.map Ty.enc)],.box [.int .i64 ((recT (onL b a b.names.length) (a.n)).kind),.str (recT (onL b a b.names.length) (a.n)).name,nI (S.length+1),.imm ((recT (onL b a b.names.length) (a.n)).names.map AVal.str),.imm ((recT (onL b a b.names.length) (a.n)).kids.map Ty.enc)],.map (encM AVal.str AVal.bool (uniF (a.names++b.names))),.box [.map 7]] ?_ ?_
 refine qV 4 ?_ ?_
 refine vcallA (args:=[.ptr 0 0,.int .i64 (a.n),.agg [.int .i64 ((recT (onL b a b.names.length) (a.n)).kind),.str (recT (onL b a b.names.length) (a.n)).name,.int .i64 (((S.length+1):Nat):Int),.imm ((recT (onL b a b.names.length) (a.n)).names.map AVal.str),.imm ((recT (onL b a b.names.length) (a.n)).kids.map Ty.enc)]]) (hs:=[.box [.int .i64 ((lv)),.map 1],mS (mset ((((S.length+1):Nat):Int)) ⟨true,(min (x15.lv) (x16.lv)),false,Ty.zero,(uniN a b)⟩ S)]) (hs':=[.box [.int .i64 (((lv))),.map 1],mS S2]) (rest:=[a.bx,b.bx,.map (encM AVal.str AVal.bool D),.box [.int .i64 ((recT (onL a b a.names.length) (b.n)).kind),.str (recT (onL a b a.names.length) (b.n)).name,.int .i64 (((S.length+1):Nat):Int),.imm ((recT (onL a b a.names.length) (b.n)).names.map AVal.str),.imm ((recT (onL a b a.names.length) (b.n)).kids.map Ty.enc)],.box [.int .i64 ((recT (onL b a b.names.length) (a.n)).kind),.str (recT (onL b a b.names.length) (a.n)).name,.int .i64 (((S.length+1):Nat):Int),.imm ((recT (onL b a b.names.length) (a.n)).names.map AVal.str),.imm ((recT (onL b a b.names.length) (a.n)).kids.map Ty.enc)],.map (encM AVal.str AVal.bool (uniF (a.names++b.names))),.box [.map 7]]) kq kq kq kq kq (bind_S f (a.n) (Ty.mk ((recT (onL b a b.names.length) (a.n)).kind) ((recT (onL b a b.names.length) (a.n)).name) (((S.length+1):Nat):Int) ((recT (onL b a b.names.length) (a.n)).names) ((recT (onL b a b.names.length) (a.n)).kids)) ((lv)) (mset ((((S.length+1):Nat):Int)) ⟨true,(min (x15.lv) (x16.lv)),false,Ty.zero,(uniN a b)⟩ S) S2 ok1 (hg2 _) hb1) (by simp [AObj.belO,hpS,Ty.v,Vr.v]) (by simp [AObj.belO,hpS,Ty.v,Vr.v]) rfl (by simp [AObj.belO,hpS,Ty.v,Vr.v]) (by simp [AObj.belO,hpS,Ty.v,Vr.v]) kq ?_
 refine qr 1 ?_ ?_
 by_cases hb17:(ok1)=true
 refine qm [169,170] (hb17) ?_ ?_
 refine qr 4 ?_ ?_
 refine vcallA (args:=[.ptr 0 0,.int .i64 (b.n),.agg [.int .i64 ((recT (onL a b a.names.length) (b.n)).kind),.str (recT (onL a b a.names.length) (b.n)).name,.int .i64 (((S.length+1):Nat):Int),.imm ((recT (onL a b a.names.length) (b.n)).names.map AVal.str),.imm ((recT (onL a b a.names.length) (b.n)).kids.map Ty.enc)]]) (hs:=[.box [.int .i64 (((lv))),.map 1],mS S2]) (hs':=[.box [.int .i64 ((((lv)))),.map 1],mS m']) (rest:=[a.bx,b.bx,.map (encM AVal.str AVal.bool D),.box [.int .i64 ((recT (onL a b a.names.length) (b.n)).kind),.str (recT (onL a b a.names.length) (b.n)).name,.int .i64 (((S.length+1):Nat):Int),.imm ((recT (onL a b a.names.length) (b.n)).names.map AVal.str),.imm ((recT (onL a b a.names.length) (b.n)).kids.map Ty.enc)],.box [.int .i64 ((recT (onL b a b.names.length) (a.n)).kind),.str (recT (onL b a b.names.length) (a.n)).name,.int .i64 (((S.length+1):Nat):Int),.imm ((recT (onL b a b.names.length) (a.n)).names.map AVal.str),.imm ((recT (onL b a b.names.length) (a.n)).kids.map Ty.enc)],.map (encM AVal.str AVal.bool (uniF (a.names++b.names))),.box [.map 7]]) kq kq kq kq kq (bind_S f (b.n) (Ty.mk ((recT (onL a b a.names.length) (b.n)).kind) ((recT (onL a b a.names.length) (b.n)).name) (((S.length+1):Nat):Int) ((recT (onL a b a.names.length) (b.n)).names) ((recT (onL a b a.names.length) (b.n)).kids)) (((lv))) S2 m' ok (hg1 _) (hb2 aq)) (by simp [AObj.belO,hpS,Ty.v,Vr.v]) (by simp [AObj.belO,hpS,Ty.v,Vr.v]) rfl (by simp [AObj.belO,hpS,Ty.v,Vr.v]) (by simp [AObj.belO,hpS,Ty.v,Vr.v]) kq ?_
 refine qR 2 [(6,.bool (ok))] [.box [.int .i64 ((((lv)))),.map 1],mS m',a.bx,b.bx,.map (encM AVal.str AVal.bool D),.box [.int .i64 ((recT (onL a b a.names.length) (b.n)).kind),.str (recT (onL a b a.names.length) (b.n)).name,nI (S.length+1),.imm ((recT (onL a b a.names.length) (b.n)).names.map AVal.str),.imm ((recT (onL a b a.names.length) (b.n)).kids.map Ty.enc)],.box [.int .i64 ((recT (onL b a b.names.length) (a.n)).kind),.str (recT (onL b a b.names.length) (a.n)).name,nI (S.length+1),.imm ((recT (onL b a b.names.length) (a.n)).names.map AVal.str),.imm ((recT (onL b a b.names.length) (a.n)).kids.map Ty.enc)],.map (encM AVal.str AVal.bool (uniF (a.names++b.names))),.box [.map 7]] ?_ ?_
 refine wRet kq ?_
 refine leafA (l:=[.bool (ok)]) (.inr rfl) kq (by rfl) (by simp [awrap]) (by simp [awrap]) ?_ ?_
 refine Eq.trans (b:=[.box [.int .i64 ((((lv)))),.map 1],mS m']) kq ?_
 · rfl
 · simp [AObj.belO,hpS,Ty.v,Vr.v]
 iterate 3 kernel_rfl
 refine qm [169,170] (Bool.eq_false_iff.2 hb17) ?_ ?_
 refine qR 7 [(6,.bool false)] [.box [.int .i64 (((lv))),.map 1],mS S2,a.bx,b.bx,.map (encM AVal.str AVal.bool D),.box [.int .i64 ((recT (onL a b a.names.length) (b.n)).kind),.str (recT (onL a b a.names.length) (b.n)).name,nI (S.length+1),.imm ((recT (onL a b a.names.length) (b.n)).names.map AVal.str),.imm ((recT (onL a b a.names.length) (b.n)).kids.map Ty.enc)],.box [.int .i64 ((recT (onL b a b.names.length) (a.n)).kind),.str (recT (onL b a b.names.length) (a.n)).name,nI (S.length+1),.imm ((recT (onL b a b.names.length) (a.n)).names.map AVal.str),.imm ((recT (onL b a b.names.length) (a.n)).kids.map Ty.enc)],.map (encM AVal.str AVal.bool (uniF (a.names++b.names))),.box [.map 7]] ?_ ?_
 refine wRet kq ?_
 refine leafA (l:=[.bool false]) (.inr rfl) kq (by have e:=hb3 aq;rw [← e.1];rfl) (by simp [awrap]) (by simp [awrap]) ?_ ?_
 refine Eq.trans (b:=[.box [.int .i64 (((lv))),.map 1],mS S2]) kq ?_
 · have e:=hb3 aq
   rw [← e.2];rfl
 · simp [AObj.belO,hpS,Ty.v,Vr.v]
 iterate 41 kernel_rfl
 refine qm [97,98] (decide_eq_false hb11) ?_ ?_
 refine qR 6 [(0,.ptr 0 0),(4,.ptr 2 0),(5,.ptr 3 0),(12,.ptr 5 0),(13,.ptr 6 0),(83,.bool false)] [bS lv,mS S,a.bx,b.bx,.map (encM AVal.str AVal.bool D),(recT (onL a b a.names.length) (b.n)).bx,(recT (onL b a b.names.length) (a.n)).bx] ?_ ?_
 refine wIfF kq kq ?_
 refine qV 2 ?_ ?_
 refine qy (o_lenmap (l:=(recT (onL a b a.names.length) (b.n)).names) (enc:=AVal.str) kq ty22) ?_ ?_ ?_
 refine qr 2 ?_ ?_
 by_cases hb18:(((recT (onL a b a.names.length) (b.n)).names.length:Nat):Int)=0
 · exfalso;omega
 refine qm [108,109] (beq_eq_false_iff_ne.2 hb18) ?_ ?_
 refine qR 5 [(0,.ptr 0 0),(4,.ptr 2 0),(5,.ptr 3 0),(12,.ptr 5 0),(13,.ptr 6 0),(104,.bool false)] [bS lv,mS S,a.bx,b.bx,.map (encM AVal.str AVal.bool D),(recT (onL a b a.names.length) (b.n)).bx,(recT (onL b a b.names.length) (a.n)).bx] ?_ ?_
 refine wIfF kq kq ?_
 refine qV 2 ?_ ?_
 refine qy (o_lenmap (l:=(recT (onL b a b.names.length) (a.n)).names) (enc:=AVal.str) kq ty22) ?_ ?_ ?_
 refine qR 2 [(0,.ptr 0 0),(4,.ptr 2 0),(5,.ptr 3 0),(12,.ptr 5 0),(13,.ptr 6 0),(122,.bool ((((recT (onL b a b.names.length) (a.n)).names.length:Nat):Int)==0))] [bS lv,mS S,a.bx,b.bx,.map (encM AVal.str AVal.bool D),(recT (onL a b a.names.length) (b.n)).bx,(recT (onL b a b.names.length) (a.n)).bx] ?_ ?_
 by_cases hb19:(((recT (onL b a b.names.length) (a.n)).names.length:Nat):Int)=0
 refine qt (beq_iff_eq.2 hb19) ?_ ?_
 refine qW 4 [(0,.ptr 0 0),(5,.ptr 3 0),(12,.ptr 5 0)] [bS lv,mS S,a.bx,b.bx,.map (encM AVal.str AVal.bool D),.box [.int .i64 ((recT (onL a b a.names.length) (b.n)).kind),.str (recT (onL a b a.names.length) (b.n)).name,.int .i64 (a.n),.imm ((recT (onL a b a.names.length) (b.n)).names.map AVal.str),.imm ((recT (onL a b a.names.length) (b.n)).kids.map Ty.enc)],(recT (onL b a b.names.length) (a.n)).bx] ?_ ?_
 refine qV 4 ?_ ?_
 refine vcallA (args:=[.ptr 0 0,.int .i64 (b.n),.agg [.int .i64 ((recT (onL a b a.names.length) (b.n)).kind),.str (recT (onL a b a.names.length) (b.n)).name,.int .i64 (a.n),.imm ((recT (onL a b a.names.length) (b.n)).names.map AVal.str),.imm ((recT (onL a b a.names.length) (b.n)).kids.map Ty.enc)]]) (hs:=[bS lv,mS S]) (hs':=[.box [.int .i64 ((lv)),.map 1],mS m']) (rest:=[a.bx,b.bx,.map (encM AVal.str AVal.bool D),.box [.int .i64 ((recT (onL a b a.names.length) (b.n)).kind),.str (recT (onL a b a.names.length) (b.n)).name,.int .i64 (a.n),.imm ((recT (onL a b a.names.length) (b.n)).names.map AVal.str),.imm ((recT (onL a b a.names.length) (b.n)).kids.map Ty.enc)],(recT (onL b a b.names.length) (a.n)).bx]) kq kq kq kq kq (bind_S f (b.n) (Ty.mk ((recT (onL a b a.names.length) (b.n)).kind) ((recT (onL a b a.names.length) (b.n)).name) (a.n) ((recT (onL a b a.names.length) (b.n)).names) ((recT (onL a b a.names.length) (b.n)).kids)) (lv) S m' ok (hg1 _) (((f3 aq oq).2 oq).1 oq)) (by simp [AObj.belO,hpS,Ty.v,Vr.v]) (by simp [AObj.belO,hpS,Ty.v,Vr.v]) rfl (by simp [AObj.belO,hpS,Ty.v,Vr.v]) (by simp [AObj.belO,hpS,Ty.v,Vr.v]) kq ?_
 refine qR 1 [(6,.bool (ok))] [.box [.int .i64 ((lv)),.map 1],mS m',a.bx,b.bx,.map (encM AVal.str AVal.bool D),.box [.int .i64 ((recT (onL a b a.names.length) (b.n)).kind),.str (recT (onL a b a.names.length) (b.n)).name,.int .i64 (a.n),.imm ((recT (onL a b a.names.length) (b.n)).names.map AVal.str),.imm ((recT (onL a b a.names.length) (b.n)).kids.map Ty.enc)],(recT (onL b a b.names.length) (a.n)).bx] ?_ ?_
 refine wRet kq ?_
 apply iR
 apply aR
 refine leafA (l:=[.bool (ok)]) (.inr rfl) kq (by rfl) (by simp [awrap]) (by simp [awrap]) ?_ ?_
 refine Eq.trans (b:=[.box [.int .i64 ((lv)),.map 1],mS m']) kq ?_
 · rfl
 · simp [AObj.belO,hpS,Ty.v,Vr.v]
 iterate 4 kernel_rfl
 · exfalso;omega
 iterate 19 kernel_rfl
 refine qm [87,88] (decide_eq_false hb9) ?_ ?_
 refine qr 7 ?_ ?_
 refine qy (o_lenmap (l:=(recT (onL b a b.names.length) (a.n)).names) (enc:=AVal.str) kq ty22) ?_ ?_ ?_
 refine qr 2 ?_ ?_
 by_cases hb20:(((recT (onL b a b.names.length) (a.n)).names.length:Nat):Int) > 0
 refine qm [97,98] (decide_eq_true hb20) ?_ ?_
 refine qR 6 [(0,.ptr 0 0),(4,.ptr 2 0),(5,.ptr 3 0),(12,.ptr 5 0),(13,.ptr 6 0),(83,.bool ((a.n)==0))] [bS lv,mS S,a.bx,b.bx,.map (encM AVal.str AVal.bool D),(recT (onL a b a.names.length) (b.n)).bx,(recT (onL b a b.names.length) (a.n)).bx] ?_ ?_
 by_cases hb21:(a.n)=0
 refine qt (beq_iff_eq.2 hb21) ?_ ?_
 refine qU 1 [(6,.bool false)] ?_ ?_
 refine wRet kq ?_
 apply iR
 apply aR
 refine leafA (l:=[.bool false]) (.inr rfl) kq (by have e:=f2 aq oq;rw [← e.1];rfl) (by simp [awrap]) (by simp [awrap]) ?_ ?_
 refine Eq.trans (b:=[bS lv,mS S]) kq ?_
 · have e:=f2 aq oq
   rw [← e.2];rfl
 · simp [AObj.belO,hpS,Ty.v,Vr.v]
 iterate 2 kernel_rfl
 refine qf (beq_eq_false_iff_ne.2 hb21) ?_ ?_
 refine qV 2 ?_ ?_
 refine qy (o_lenmap (l:=(recT (onL a b a.names.length) (b.n)).names) (enc:=AVal.str) kq ty22) ?_ ?_ ?_
 refine qr 2 ?_ ?_
 by_cases hb22:(((recT (onL a b a.names.length) (b.n)).names.length:Nat):Int)=0
 refine qm [108,109] (beq_iff_eq.2 hb22) ?_ ?_
 refine qR 5 [(0,.ptr 0 0),(4,.ptr 2 0),(5,.ptr 3 0),(12,.ptr 5 0),(13,.ptr 6 0),(104,.bool ((a.n) != 0))] [bS lv,mS S,a.bx,b.bx,.map (encM AVal.str AVal.bool D),(recT (onL a b a.names.length) (b.n)).bx,(recT (onL b a b.names.length) (a.n)).bx] ?_ ?_
 refine qt (x:=((a.n) != 0)) (bne_iff_ne.2 hb21) ?_ ?_
 refine qW 4 [(0,.ptr 0 0),(4,.ptr 2 0),(13,.ptr 6 0)] [bS lv,mS S,a.bx,b.bx,.map (encM AVal.str AVal.bool D),(recT (onL a b a.names.length) (b.n)).bx,.box [.int .i64 ((recT (onL b a b.names.length) (a.n)).kind),.str (recT (onL b a b.names.length) (a.n)).name,.int .i64 (b.n),.imm ((recT (onL b a b.names.length) (a.n)).names.map AVal.str),.imm ((recT (onL b a b.names.length) (a.n)).kids.map Ty.enc)]] ?_ ?_
 refine qV 4 ?_ ?_
 refine vcallA (args:=[.ptr 0 0,.int .i64 (a.n),.agg [.int .i64 ((recT (onL b a b.names.length) (a.n)).kind),.str (recT (onL b a b.names.length) (a.n)).name,.int .i64 (b.n),.imm ((recT (onL b a b.names.length) (a.n)).names.map AVal.str),.imm ((recT (onL b a b.names.length) (a.n)).kids.map Ty.enc)]]) (hs:=[bS lv,mS S]) (hs':=[.box [.int .i64 ((lv)),.map 1],mS m']) (rest:=[a.bx,b.bx,.map (encM AVal.str AVal.bool D),(recT (onL a b a.names.length) (b.n)).bx,.box [.int .i64 ((recT (onL b a b.names.length) (a.n)).kind),.str (recT (onL b a b.names.length) (a.n)).name,.int .i64 (b.n),.imm ((recT (onL b a b.names.length) (a.n)).names.map AVal.str),.imm ((recT (onL b a b.names.length) (a.n)).kids.map Ty.enc)]]) kq kq kq kq kq (bind_S f (a.n) (Ty.mk ((recT (onL b a b.names.length) (a.n)).kind) ((recT (onL b a b.names.length) (a.n)).name) (b.n) ((recT (onL b a b.names.length) (a.n)).names) ((recT (onL b a b.names.length) (a.n)).kids)) (lv) S m' ok (hg2 _) ((f3 aq oq).1 oq)) (by simp [AObj.belO,hpS,Ty.v,Vr.v]) (by simp [AObj.belO,hpS,Ty.v,Vr.v]) rfl (by simp [AObj.belO,hpS,Ty.v,Vr.v]) (by simp [AObj.belO,hpS,Ty.v,Vr.v]) kq ?_
 refine qR 1 [(6,.bool (ok))] [.box [.int .i64 ((lv)),.map 1],mS m',a.bx,b.bx,.map (encM AVal.str AVal.bool D),(recT (onL a b a.names.length) (b.n)).bx,.box [.int .i64 ((recT (onL b a b.names.length) (a.n)).kind),.str (recT (onL b a b.names.length) (a.n)).name,.int .i64 (b.n),.imm ((recT (onL b a b.names.length) (a.n)).names.map AVal.str),.imm ((recT (onL b a b.names.length) (a.n)).kids.map Ty.enc)]] ?_ ?_
 refine wRet kq ?_
 apply iR
 apply aR
 refine leafA (l:=[.bool (ok)]) (.inr rfl) kq (by rfl) (by simp [awrap]) (by simp [awrap]) ?_ ?_
 refine Eq.trans (b:=[.box [.int .i64 ((lv)),.map 1],mS m']) kq ?_
 · rfl
 · simp [AObj.belO,hpS,Ty.v,Vr.v]
 iterate 6 kernel_rfl
 · exfalso;omega
 iterate 7 kernel_rfl
 refine qm [97,98] (decide_eq_false hb20) ?_ ?_
 refine qR 6 [(0,.ptr 0 0),(4,.ptr 2 0),(5,.ptr 3 0),(12,.ptr 5 0),(13,.ptr 6 0),(83,.bool false)] [bS lv,mS S,a.bx,b.bx,.map (encM AVal.str AVal.bool D),(recT (onL a b a.names.length) (b.n)).bx,(recT (onL b a b.names.length) (a.n)).bx] ?_ ?_
 refine wIfF kq kq ?_
 refine qV 2 ?_ ?_
 refine qy (o_lenmap (l:=(recT (onL a b a.names.length) (b.n)).names) (enc:=AVal.str) kq ty22) ?_ ?_ ?_
 refine qr 2 ?_ ?_
 by_cases hb24:(((recT (onL a b a.names.length) (b.n)).names.length:Nat):Int)=0
 refine qm [108,109] (beq_iff_eq.2 hb24) ?_ ?_
 refine qR 5 [(0,.ptr 0 0),(4,.ptr 2 0),(5,.ptr 3 0),(12,.ptr 5 0),(13,.ptr 6 0),(104,.bool ((a.n) != 0))] [bS lv,mS S,a.bx,b.bx,.map (encM AVal.str AVal.bool D),(recT (onL a b a.names.length) (b.n)).bx,(recT (onL b a b.names.length) (a.n)).bx] ?_ ?_
 by_cases hb25:(a.n)=0
 refine qf (x:=((a.n) != 0)) (bne_eq_false_iff_eq.2 hb25) ?_ ?_
 refine qV 2 ?_ ?_
 refine qy (o_lenmap (l:=(recT (onL b a b.names.length) (a.n)).names) (enc:=AVal.str) kq ty22) ?_ ?_ ?_
 refine qR 2 [(0,.ptr 0 0),(4,.ptr 2 0),(5,.ptr 3 0),(12,.ptr 5 0),(13,.ptr 6 0),(122,.bool ((((recT (onL b a b.names.length) (a.n)).names.length:Nat):Int)==0))] [bS lv,mS S,a.bx,b.bx,.map (encM AVal.str AVal.bool D),(recT (onL a b a.names.length) (b.n)).bx,(recT (onL b a b.names.length) (a.n)).bx] ?_ ?_
 by_cases hb26:(((recT (onL b a b.names.length) (a.n)).names.length:Nat):Int)=0
 refine qt (beq_iff_eq.2 hb26) ?_ ?_
 refine qW 4 [(0,.ptr 0 0),(5,.ptr 3 0),(12,.ptr 5 0)] [bS lv,mS S,a.bx,b.bx,.map (encM AVal.str AVal.bool D),.box [.int .i64 ((recT (onL a b a.names.length) (b.n)).kind),.str (recT (onL a b a.names.length) (b.n)).name,.int .i64 (a.n),.imm ((recT (onL a b a.names.length) (b.n)).names.map AVal.str),.imm ((recT (onL a b a.names.length) (b.n)).kids.map Ty.enc)],(recT (onL b a b.names.length) (a.n)).bx] ?_ ?_
 refine qV 4 ?_ ?_
 refine vcallA (args:=[.ptr 0 0,.int .i64 (b.n),.agg [.int .i64 ((recT (onL a b a.names.length) (b.n)).kind),.str (recT (onL a b a.names.length) (b.n)).name,.int .i64 (a.n),.imm ((recT (onL a b a.names.length) (b.n)).names.map AVal.str),.imm ((recT (onL a b a.names.length) (b.n)).kids.map Ty.enc)]]) (hs:=[bS lv,mS S]) (hs':=[.box [.int .i64 ((lv)),.map 1],mS m']) (rest:=[a.bx,b.bx,.map (encM AVal.str AVal.bool D),.box [.int .i64 ((recT (onL a b a.names.length) (b.n)).kind),.str (recT (onL a b a.names.length) (b.n)).name,.int .i64 (a.n),.imm ((recT (onL a b a.names.length) (b.n)).names.map AVal.str),.imm ((recT (onL a b a.names.length) (b.n)).kids.map Ty.enc)],(recT (onL b a b.names.length) (a.n)).bx]) kq kq kq kq kq (bind_S f (b.n) (Ty.mk ((recT (onL a b a.names.length) (b.n)).kind) ((recT (onL a b a.names.length) (b.n)).name) (a.n) ((recT (onL a b a.names.length) (b.n)).names) ((recT (onL a b a.names.length) (b.n)).kids)) (lv) S m' ok (hg1 _) (((f3 aq oq).2 oq).1 oq)) (by simp [AObj.belO,hpS,Ty.v,Vr.v]) (by simp [AObj.belO,hpS,Ty.v,Vr.v]) rfl (by simp [AObj.belO,hpS,Ty.v,Vr.v]) (by simp [AObj.belO,hpS,Ty.v,Vr.v]) kq ?_
 refine qR 1 [(6,.bool (ok))] [.box [.int .i64 ((lv)),.map 1],mS m',a.bx,b.bx,.map (encM AVal.str AVal.bool D),.box [.int .i64 ((recT (onL a b a.names.length) (b.n)).kind),.str (recT (onL a b a.names.length) (b.n)).name,.int .i64 (a.n),.imm ((recT (onL a b a.names.length) (b.n)).names.map AVal.str),.imm ((recT (onL a b a.names.length) (b.n)).kids.map Ty.enc)],(recT (onL b a b.names.length) (a.n)).bx] ?_ ?_
 refine wRet kq ?_
 apply iR
 apply aR
 refine leafA (l:=[.bool (ok)]) (.inr rfl) kq (by rfl) (by simp [awrap]) (by simp [awrap]) ?_ ?_
 refine Eq.trans (b:=[.box [.int .i64 ((lv)),.map 1],mS m']) kq ?_
 · rfl
 · simp [AObj.belO,hpS,Ty.v,Vr.v]
 iterate 4 kernel_rfl
 · exfalso;omega
 iterate 5 kernel_rfl
 refine qt (x:=((a.n) != 0)) (bne_iff_ne.2 hb25) ?_ ?_
 refine qW 4 [(0,.ptr 0 0),(4,.ptr 2 0),(13,.ptr 6 0)] [bS lv,mS S,a.bx,b.bx,.map (encM AVal.str AVal.bool D),(recT (onL a b a.names.length) (b.n)).bx,.box [.int .i64 ((recT (onL b a b.names.length) (a.n)).kind),.str (recT (onL b a b.names.length) (a.n)).name,.int .i64 (b.n),.imm ((recT (onL b a b.names.length) (a.n)).names.map AVal.str),.imm ((recT (onL b a b.names.length) (a.n)).kids.map Ty.enc)]] ?_ ?_
 refine qV 4 ?_ ?_
 refine vcallA (args:=[.ptr 0 0,.int .i64 (a.n),.agg [.int .i64 ((recT (onL b a b.names.length) (a.n)).kind),.str (recT (onL b a b.names.length) (a.n)).name,.int .i64 (b.n),.imm ((recT (onL b a b.names.length) (a.n)).names.map AVal.str),.imm ((recT (onL b a b.names.length) (a.n)).kids.map Ty.enc)]]) (hs:=[bS lv,mS S]) (hs':=[.box [.int .i64 ((lv)),.map 1],mS m']) (rest:=[a.bx,b.bx,.map (encM AVal.str AVal.bool D),(recT (onL a b a.names.length) (b.n)).bx,.box [.int .i64 ((recT (onL b a b.names.length) (a.n)).kind),.str (recT (onL b a b.names.length) (a.n)).name,.int .i64 (b.n),.imm ((recT (onL b a b.names.length) (a.n)).names.map AVal.str),.imm ((recT (onL b a b.names.length) (a.n)).kids.map Ty.enc)]]) kq kq kq kq kq (bind_S f (a.n) (Ty.mk ((recT (onL b a b.names.length) (a.n)).kind) ((recT (onL b a b.names.length) (a.n)).name) (b.n) ((recT (onL b a b.names.length) (a.n)).names) ((recT (onL b a b.names.length) (a.n)).kids)) (lv) S m' ok (hg2 _) ((f3 aq oq).1 oq)) (by simp [AObj.belO,hpS,Ty.v,Vr.v]) (by simp [AObj.belO,hpS,Ty.v,Vr.v]) rfl (by simp [AObj.belO,hpS,Ty.v,Vr.v]) (by simp [AObj.belO,hpS,Ty.v,Vr.v]) kq ?_
 refine qR 1 [(6,.bool (ok))] [.box [.int .i64 ((lv)),.map 1],mS m',a.bx,b.bx,.map (encM AVal.str AVal.bool D),(recT (onL a b a.names.length) (b.n)).bx,.box [.int .i64 ((recT (onL b a b.names.length) (a.n)).kind),.str (recT (onL b a b.names.length) (a.n)).name,.int .i64 (b.n),.imm ((recT (onL b a b.names.length) (a.n)).names.map AVal.str),.imm ((recT (onL b a b.names.length) (a.n)).kids.map Ty.enc)]] ?_ ?_
 refine wRet kq ?_
 apply iR
 apply aR
 refine leafA (l:=[.bool (ok)]) (.inr rfl) kq (by rfl) (by simp [awrap]) (by simp [awrap]) ?_ ?_
 refine Eq.trans (b:=[.box [.int .i64 ((lv)),.map 1],mS m']) kq ?_
 · rfl
 · simp [AObj.belO,hpS,Ty.v,Vr.v]
 iterate 6 kernel_rfl
 · exfalso;omega
 iterate 38 kernel_rfl
 all_goals
  try dsimp only
  refine ⟨by omega,?_⟩
  first|exact pass_skip hP oq hra.2 (.inl oq)|exact pass_skip hP oq hra.2 (.inr (isD_t aq aq))|exact hUt aq
end Go.Proofs.YtdikgijfekfaoaaGreatDoor
namespace Go.Proofs.YtdikgijfekfaoaaGreatDoor
open Go.Proofs.YtdikgijfekfaoaaGreatDoor.Abs
set_option maxRecDepth 20000
set_option maxHeartbeats 4000000
theorem uni_split {f:Nat} {S S':St} {p q:Ty} {ok:Bool} (h:unifyF f S p q=some (ok,S')):∃ g a b,f=g+1∧headF g S p=some a∧headF g S q=some b∧a.sz<100000000∧b.sz<100000000 ∧
    (a.kind=6∧b.kind=6∧a.n=b.n→true=ok∧S=S')∧(¬ (a.kind=6∧b.kind=6∧a.n=b.n)→(a.kind=6→bindF g S a.n b=some (ok,S'))∧(¬ a.kind=6→(b.kind=6→bindF g S b.n a=some (ok,S'))∧(¬ b.kind=6 →
      (a.kind≠b.kind∨a.name≠b.name→false=ok∧S=S')∧(¬ (a.kind≠b.kind∨a.name≠b.name)→(a.kind=5→rowsF g (unifyF g) S a b=some (ok,S'))∧(¬ a.kind=5→(a.kind=4→(0<a.kids.length∧0<b.kids.length)∧unifyF g S (a.kids.getD 0 Ty.zero) (b.kids.getD 0 Ty.zero)=some (ok,S'))∧(¬ a.kind=4→true=ok∧S=S')))))):=by
  cases f with
  | zero=>simp [unifyF] at h
  | succ g =>
    rw [unifyF] at h
    split at h <;> try (cases h;done)
    rename_i a ha
    split at h <;> try (cases h;done)
    rename_i b hb
    split at h <;> try (cases h;done)
    rename_i hs
    refine ⟨g,a,b,rfl,ha,hb,hs.1,hs.2,fun h1=>?_,fun h1=>⟨fun h2=>?_,fun h2=>⟨fun h3=>?_,fun h3=>⟨fun h4=>?_,fun h4=>⟨fun h5=>?_,fun h5=>⟨fun h6=>?_,fun h6=>?_⟩⟩⟩⟩⟩⟩
    · rw [if_pos h1] at h;cases h;exact ⟨rfl,rfl⟩
    · rw [if_neg h1,if_pos h2] at h;exact h
    · rw [if_neg h1,if_neg h2,if_pos h3] at h;exact h
    · rw [if_neg h1,if_neg h2,if_neg h3,if_pos h4] at h;cases h;exact ⟨rfl,rfl⟩
    · rw [if_neg h1,if_neg h2,if_neg h3,if_neg h4,if_pos h5] at h;exact h
    · rw [if_neg h1,if_neg h2,if_neg h3,if_neg h4,if_neg h5,if_pos h6] at h
      split at h <;> try (cases h;done)
      rename_i hk;exact ⟨hk,h⟩
    · rw [if_neg h1,if_neg h2,if_neg h3,if_neg h4,if_neg h5,if_neg h6] at h;cases h;exact ⟨rfl,rfl⟩
theorem kid0 {t:Ty} (h4:0<t.kids.length) (hs:t.sz<100000000):(t.kids.getD 0 Ty.zero).sz<100000000:=Nat.lt_trans (sz_kid t 0 h4) hs
theorem ne_no {a b:Int} {x y:List UInt8} (h1:a=b) (h2:x=y):¬ (a≠b∨x≠y):=fun h=>h.elim (fun h=>h h1) (fun h=>h h2)
noncomputable def c66:Code:=bodyOf Tryz.f66
theorem unify_S (f:Nat) (p q:Ty) (lv:Int) (m m':St) (ok:Bool) (hp:p.sz<100000000) (hq:q.sz<100000000) (hb:unifyF f m p q=some (ok,m')):CallsA cx 66 [.ptr 0 0,Ty.v p,Ty.v q] (hpS lv m) (fun v h=>v=(.bool (ok))∧h=hpS lv m'):=by
 induction f generalizing p q m m' ok with
 | zero=>simp [unifyF] at hb
 | succ f ih =>
 have ihU:∀ (S:St) (x y:Ty) (okU:Bool) (SU:St),x.sz<100000000→y.sz<100000000→unifyF f S x y=some (okU,SU)→CallsA cx 66 [.ptr 0 0,Ty.v x,Ty.v y] (hpS lv S) (fun v h=>v=.bool okU∧h=hpS lv SU):=fun S x y okU SU h1 h2 h3=>ih x y S SU okU h1 h2 h3
 obtain ⟨g,a,b,e,hha,hhb,hsa,hsb,u1,u2⟩:=uni_split hb
 obtain rfl:f=g:=by omega
 have hz3:=sz_kids a
 have hz4:=sz_kids b
 refine func_intro (cx:=cx) 83 2 [(ResultVar.tmp 6)] Tryz.func66 rfl rfl rfl rfl rfl zq ?_
 show wpA cx 83 2 (at_ c66 []) _ _ _
 refine qZ [(0,.ptr 0 0),(1,Ty.v p),(2,Ty.v q)] [bS lv,mS m] ?_ ?_
 refine qW 3 [(0,.ptr 0 0),(4,.ptr 2 0),(5,.ptr 3 0)] [bS lv,mS m,p.bx,q.bx] ?_ ?_
 refine qSeq ?_ ?_
 refine wDrw cxM kq extThen (dstart ?_)
 refine qu 2 ?_ ?_
 refine dcallA (args:=[.ptr 0 0,.agg [.int .i64 (p.kind),.str p.name,.int .i64 (p.n),.imm (p.names.map AVal.str),.imm (p.kids.map Ty.enc)]]) (hs:=[bS lv,mS m]) (hs':=[.box [.int .i64 ((lv)),.map 1],mS m]) (rest:=[p.bx,q.bx]) (L:=[0,1]) kq kq kq kq kq kq (head_S f p a (lv) m hp hha) (by simp [AObj.belO,hpS,Ty.v,Vr.v]) (by simp [AObj.belO,hpS,Ty.v,Vr.v]) rfl (by simp [AObj.belO,hpS,Ty.v,Vr.v]) (by simp [AObj.belO,hpS,Ty.v,Vr.v]) kq rfl rfl ?_
 refine qu 2 ?_ ?_
 refine dcallA (args:=[.ptr 0 0,.agg [.int .i64 (q.kind),.str q.name,.int .i64 (q.n),.imm (q.names.map AVal.str),.imm (q.kids.map Ty.enc)]]) (hs:=[.box [.int .i64 ((lv)),.map 1],mS m]) (hs':=[.box [.int .i64 (((lv))),.map 1],mS m]) (rest:=[p.bx,q.bx]) (L:=[0,1]) kq kq kq kq kq kq (head_S f q b ((lv)) m hq hhb) (by simp [AObj.belO,hpS,Ty.v,Vr.v]) (by simp [AObj.belO,hpS,Ty.v,Vr.v]) rfl (by simp [AObj.belO,hpS,Ty.v,Vr.v]) (by simp [AObj.belO,hpS,Ty.v,Vr.v]) kq rfl rfl ?_
 refine qu 2 ?_ ?_
 refine dend kq ⟨kq,?_⟩
 refine AThen_normal ?_
 refine qZ [(0,.ptr 0 0),(4,.ptr 2 0),(5,.ptr 3 0)] [.box [.int .i64 (((lv))),.map 1],mS m,a.bx,b.bx] ?_ ?_
 refine qSeq ?_ ?_
 refine qB 0 ?_ ?_ ?_
 refine qV 4 ?_ ?_
 by_cases hb1:(a.kind)=6
 refine qm [16,17] (beq_iff_eq.2 hb1) ?_ ?_
 refine qr 5 ?_ ?_
 by_cases hb2:(b.kind)=6
 refine qm [20,21,22] (beq_iff_eq.2 hb2) ?_ ?_
 refine qR 7 [(0,.ptr 0 0),(4,.ptr 2 0),(5,.ptr 3 0),(13,.bool ((a.n)==(b.n)))] [.box [.int .i64 (((lv))),.map 1],mS m,a.bx,b.bx] ?_ ?_
 by_cases hb3:(a.n)=(b.n)
 refine qt (beq_iff_eq.2 hb3) ?_ ?_
 refine qU 1 [(6,.bool true)] ?_ ?_
 refine wRet kq ?_
 apply iR
 apply aR
 refine leafA (l:=[.bool true]) (.inr rfl) kq (by have e:=u1 oq;rw [← e.1];rfl) (by simp [awrap]) (by simp [awrap]) ?_ ?_
 refine Eq.trans (b:=[.box [.int .i64 (((lv))),.map 1],mS m]) kq ?_
 · have e:=u1 oq
   rw [← e.2];rfl
 rotate_left
 iterate 2 kernel_rfl
 refine qf (beq_eq_false_iff_ne.2 hb3) ?_ ?_
 refine qU 4 [(0,.ptr 0 0),(4,.ptr 2 0),(5,.ptr 3 0),(29,.bool ((a.kind)==6))] ?_ ?_
 refine qt (beq_iff_eq.2 hb1) ?_ ?_
 refine qV 4 ?_ ?_
 refine vcallA (args:=[.ptr 0 0,.int .i64 (a.n),.agg [.int .i64 (b.kind),.str b.name,.int .i64 (b.n),.imm (b.names.map AVal.str),.imm (b.kids.map Ty.enc)]]) (hs:=[.box [.int .i64 (((lv))),.map 1],mS m]) (hs':=[.box [.int .i64 ((((lv)))),.map 1],mS m']) (rest:=[a.bx,b.bx]) kq kq kq kq kq (bind_S f (a.n) b (((lv))) m m' ok hsb ((u2 oq).1 oq)) (by simp [AObj.belO,hpS,Ty.v,Vr.v]) (by simp [AObj.belO,hpS,Ty.v,Vr.v]) rfl (by simp [AObj.belO,hpS,Ty.v,Vr.v]) (by simp [AObj.belO,hpS,Ty.v,Vr.v]) kq ?_
 refine qR 1 [(6,.bool (ok))] [.box [.int .i64 ((((lv)))),.map 1],mS m',a.bx,b.bx] ?_ ?_
 refine wRet kq ?_
 apply iR
 apply aR
 refine leafA (l:=[.bool (ok)]) (.inr rfl) kq (by rfl) (by simp [awrap]) (by simp [awrap]) ?_ ?_
 refine Eq.trans (b:=[.box [.int .i64 ((((lv)))),.map 1],mS m']) kq ?_
 · rfl
 rotate_left
 iterate 7 kernel_rfl
 refine qm [20,21,22] (beq_eq_false_iff_ne.2 hb2) ?_ ?_
 refine qR 7 [(0,.ptr 0 0),(4,.ptr 2 0),(5,.ptr 3 0),(13,.bool false)] [.box [.int .i64 (((lv))),.map 1],mS m,a.bx,b.bx] ?_ ?_
 refine wIfF kq kq ?_
 refine qU 4 [(0,.ptr 0 0),(4,.ptr 2 0),(5,.ptr 3 0),(29,.bool ((a.kind)==6))] ?_ ?_
 refine qt (beq_iff_eq.2 hb1) ?_ ?_
 refine qV 4 ?_ ?_
 refine vcallA (args:=[.ptr 0 0,.int .i64 (a.n),.agg [.int .i64 (b.kind),.str b.name,.int .i64 (b.n),.imm (b.names.map AVal.str),.imm (b.kids.map Ty.enc)]]) (hs:=[.box [.int .i64 (((lv))),.map 1],mS m]) (hs':=[.box [.int .i64 ((((lv)))),.map 1],mS m']) (rest:=[a.bx,b.bx]) kq kq kq kq kq (bind_S f (a.n) b (((lv))) m m' ok hsb ((u2 oq).1 oq)) (by simp [AObj.belO,hpS,Ty.v,Vr.v]) (by simp [AObj.belO,hpS,Ty.v,Vr.v]) rfl (by simp [AObj.belO,hpS,Ty.v,Vr.v]) (by simp [AObj.belO,hpS,Ty.v,Vr.v]) kq ?_
 refine qR 1 [(6,.bool (ok))] [.box [.int .i64 ((((lv)))),.map 1],mS m',a.bx,b.bx] ?_ ?_
 refine wRet kq ?_
 apply iR
 apply aR
 refine leafA (l:=[.bool (ok)]) (.inr rfl) kq (by rfl) (by simp [awrap]) (by simp [awrap]) ?_ ?_
 refine Eq.trans (b:=[.box [.int .i64 ((((lv)))),.map 1],mS m']) kq ?_
 · rfl
 rotate_left
 iterate 8 kernel_rfl
 refine qm [16,17] (beq_eq_false_iff_ne.2 hb1) ?_ ?_
 refine qR 12 [(0,.ptr 0 0),(4,.ptr 2 0),(5,.ptr 3 0),(13,.bool false)] [.box [.int .i64 (((lv))),.map 1],mS m,a.bx,b.bx] ?_ ?_
 refine wIfF kq kq ?_
 refine qU 4 [(0,.ptr 0 0),(4,.ptr 2 0),(5,.ptr 3 0),(29,.bool ((a.kind)==6))] ?_ ?_
 refine qf (beq_eq_false_iff_ne.2 hb1) ?_ ?_
 refine qU 4 [(0,.ptr 0 0),(4,.ptr 2 0),(5,.ptr 3 0),(38,.bool ((b.kind)==6))] ?_ ?_
 by_cases hb7:(b.kind)=6
 refine qt (beq_iff_eq.2 hb7) ?_ ?_
 refine qV 4 ?_ ?_
 refine vcallA (args:=[.ptr 0 0,.int .i64 (b.n),.agg [.int .i64 (a.kind),.str a.name,.int .i64 (a.n),.imm (a.names.map AVal.str),.imm (a.kids.map Ty.enc)]]) (hs:=[.box [.int .i64 (((lv))),.map 1],mS m]) (hs':=[.box [.int .i64 ((((lv)))),.map 1],mS m']) (rest:=[a.bx,b.bx]) kq kq kq kq kq (bind_S f (b.n) a (((lv))) m m' ok hsa (((u2 oq).2 oq).1 oq)) (by simp [AObj.belO,hpS,Ty.v,Vr.v]) (by simp [AObj.belO,hpS,Ty.v,Vr.v]) rfl (by simp [AObj.belO,hpS,Ty.v,Vr.v]) (by simp [AObj.belO,hpS,Ty.v,Vr.v]) kq ?_
 refine qR 1 [(6,.bool (ok))] [.box [.int .i64 ((((lv)))),.map 1],mS m',a.bx,b.bx] ?_ ?_
 refine wRet kq ?_
 apply iR
 apply aR
 refine leafA (l:=[.bool (ok)]) (.inr rfl) kq (by rfl) (by simp [awrap]) (by simp [awrap]) ?_ ?_
 refine Eq.trans (b:=[.box [.int .i64 ((((lv)))),.map 1],mS m']) kq ?_
 · rfl
 rotate_left
 iterate 3 kernel_rfl
 refine qf (beq_eq_false_iff_ne.2 hb7) ?_ ?_
 refine qV 6 ?_ ?_
 by_cases hb8:(a.kind)=(b.kind)
 refine qm [52,53] (x:=((a.kind) != (b.kind))) (bne_eq_false_iff_eq.2 hb8) ?_ ?_
 refine qR 7 [(0,.ptr 0 0),(4,.ptr 2 0),(5,.ptr 3 0),(47,.bool (!(a.name==b.name)))] [.box [.int .i64 (((lv))),.map 1],mS m,a.bx,b.bx] ?_ ?_
 by_cases hb9:a.name=b.name
 refine qf (x:=(!(a.name==b.name))) (congrArg not (beq_iff_eq.2 hb9)) ?_ ?_
 refine qU 4 [(0,.ptr 0 0),(4,.ptr 2 0),(5,.ptr 3 0),(60,.bool ((a.kind)==5))] ?_ ?_
 by_cases hb10:(a.kind)=5
 refine qt (beq_iff_eq.2 hb10) ?_ ?_
 refine qV 3 ?_ ?_
 refine vcallA (args:=[.ptr 0 0,.agg [.int .i64 (a.kind),.str a.name,.int .i64 (a.n),.imm (a.names.map AVal.str),.imm (a.kids.map Ty.enc)],.agg [.int .i64 (b.kind),.str b.name,.int .i64 (b.n),.imm (b.names.map AVal.str),.imm (b.kids.map Ty.enc)]]) (hs:=[.box [.int .i64 (((lv))),.map 1],mS m]) (hs':=[.box [.int .i64 ((((lv)))),.map 1],mS m']) (rest:=[a.bx,b.bx]) kq kq kq kq kq (rows_S f a b (((lv))) m m' ok hsa hsb (((((u2 oq).2 oq).2 oq).2 (ne_no aq aq)).1 oq) ihU) (by simp [AObj.belO,hpS,Ty.v,Vr.v]) (by simp [AObj.belO,hpS,Ty.v,Vr.v]) rfl (by simp [AObj.belO,hpS,Ty.v,Vr.v]) (by simp [AObj.belO,hpS,Ty.v,Vr.v]) kq ?_
 refine qR 1 [(6,.bool (ok))] [.box [.int .i64 ((((lv)))),.map 1],mS m',a.bx,b.bx] ?_ ?_
 refine wRet kq ?_
 apply iR
 apply aR
 refine leafA (l:=[.bool (ok)]) (.inr rfl) kq (by rfl) (by simp [awrap]) (by simp [awrap]) ?_ ?_
 refine Eq.trans (b:=[.box [.int .i64 ((((lv)))),.map 1],mS m']) kq ?_
 · rfl
 rotate_left
 iterate 3 kernel_rfl
 refine qf (beq_eq_false_iff_ne.2 hb10) ?_ ?_
 refine qk ?_ ?_
 refine AIn_normal ?_
 refine AThen_normal ?_
 refine qz [(0,.ptr 0 0),(4,.ptr 2 0),(5,.ptr 3 0)] ?_ ?_
 refine qSeq ?_ ?_
 refine wDrw cxM kq extThen (dstart ?_)
 refine qu 4 ?_ ?_
 by_cases hb11:(a.kind)=4
 refine dset 70 (.bool ((a.kind) != 4)) (.bool false) (extD extThen) kq (congrArg AVal.bool (bne_eq_false_iff_eq.2 hb11)) ?_
 refine dset 71 (.bool ((a.kind) != 4)) (.bool false) (extD extThen) kq (congrArg AVal.bool (bne_eq_false_iff_eq.2 hb11)) ?_
 refine qu 3 ?_ ?_
 refine qd ((o_ixmap (k:=.i64) (l:=a.kids) (enc:=Ty.enc) (i:=0) Ty.zero kq ty23 ty25 ty_size oq (by have hk4:=((((((u2 oq).2 oq).2 oq).2 (ne_no aq aq)).2 oq).1 oq).1;omega)).trans (congrArg (fun cs=>some (AVal.pimm cs 0,_)) (ty_cells (a.kids.getD 0 Ty.zero)))) ?_ ?_ ?_ ?_
 refine qu 3 ?_ ?_
 refine qd ((o_ixmap (k:=.i64) (l:=b.kids) (enc:=Ty.enc) (i:=0) Ty.zero kq ty23 ty25 ty_size oq (by have hk4:=((((((u2 oq).2 oq).2 oq).2 (ne_no aq aq)).2 oq).1 oq).1;omega)).trans (congrArg (fun cs=>some (AVal.pimm cs 0,_)) (ty_cells (b.kids.getD 0 Ty.zero)))) ?_ ?_ ?_ ?_
 refine qu 1 ?_ ?_
 refine dcallA (args:=[.ptr 0 0,.agg [.int .i64 ((a.kids.getD 0 Ty.zero).kind),.str (a.kids.getD 0 Ty.zero).name,.int .i64 ((a.kids.getD 0 Ty.zero).n),.imm ((a.kids.getD 0 Ty.zero).names.map AVal.str),.imm ((a.kids.getD 0 Ty.zero).kids.map Ty.enc)],.agg [.int .i64 ((b.kids.getD 0 Ty.zero).kind),.str (b.kids.getD 0 Ty.zero).name,.int .i64 ((b.kids.getD 0 Ty.zero).n),.imm ((b.kids.getD 0 Ty.zero).names.map AVal.str),.imm ((b.kids.getD 0 Ty.zero).kids.map Ty.enc)]]) (hs:=[.box [.int .i64 (((lv))),.map 1],mS m]) (hs':=[.box [.int .i64 ((((lv)))),.map 1],mS m']) (rest:=[a.bx,b.bx]) (L:=[0,1]) kq kq kq kq kq kq (ihU m (a.kids.getD 0 Ty.zero) (b.kids.getD 0 Ty.zero) ok m' (kid0 ((((((u2 oq).2 oq).2 oq).2 (ne_no aq aq)).2 oq).1 oq).1.1 hsa) (kid0 ((((((u2 oq).2 oq).2 oq).2 (ne_no aq aq)).2 oq).1 oq).1.2 hsb) ((((((u2 oq).2 oq).2 oq).2 (ne_no aq aq)).2 oq).1 oq).2) (by simp [AObj.belO,hpS,Ty.v,Vr.v]) (by simp [AObj.belO,hpS,Ty.v,Vr.v]) rfl (by simp [AObj.belO,hpS,Ty.v,Vr.v]) (by simp [AObj.belO,hpS,Ty.v,Vr.v]) kq rfl rfl ?_
 refine qu 2 ?_ ?_
 refine dend kq ⟨kq,?_⟩
 refine AThen_normal ?_
 refine qZ [(6,.bool (ok))] [.box [.int .i64 ((((lv)))),.map 1],mS m',a.bx,b.bx] ?_ ?_
 refine wRet kq ?_
 refine leafA (l:=[.bool (ok)]) (.inr rfl) kq (by rfl) (by simp [awrap]) (by simp [awrap]) ?_ ?_
 refine Eq.trans (b:=[.box [.int .i64 ((((lv)))),.map 1],mS m']) kq ?_
 · rfl
 rotate_left
 iterate 11 kernel_rfl
 refine dset 70 (.bool ((a.kind) != 4)) (.bool true) (extD extThen) kq (congrArg AVal.bool (bne_iff_ne.2 hb11)) ?_
 refine dset 71 (.bool ((a.kind) != 4)) (.bool true) (extD extThen) kq (congrArg AVal.bool (bne_iff_ne.2 hb11)) ?_
 refine qu 12 ?_ ?_
 refine dend kq ⟨kq,?_⟩
 refine AThen_normal ?_
 refine qZ [(6,.bool true)] [.box [.int .i64 (((lv))),.map 1],mS m,a.bx,b.bx] ?_ ?_
 refine wRet kq ?_
 refine leafA (l:=[.bool true]) (.inr rfl) kq (by have e:=(((((u2 oq).2 oq).2 oq).2 (ne_no aq aq)).2 oq).2 oq;rw [← e.1];rfl) (by simp [awrap]) (by simp [awrap]) ?_ ?_
 refine Eq.trans (b:=[.box [.int .i64 (((lv))),.map 1],mS m]) kq ?_
 · have e:=(((((u2 oq).2 oq).2 oq).2 (ne_no aq aq)).2 oq).2 oq
   rw [← e.2];rfl
 rotate_left
 iterate 9 kernel_rfl
 refine qt (x:=(!(a.name==b.name))) (congrArg not (beq_eq_false_iff_ne.2 hb9)) ?_ ?_
 refine qU 1 [(6,.bool false)] ?_ ?_
 refine wRet kq ?_
 apply iR
 apply aR
 refine leafA (l:=[.bool false]) (.inr rfl) kq (by have e:=(((u2 oq).2 oq).2 oq).1 (.inr aq);rw [← e.1];rfl) (by simp [awrap]) (by simp [awrap]) ?_ ?_
 refine Eq.trans (b:=[.box [.int .i64 (((lv))),.map 1],mS m]) kq ?_
 · have e:=(((u2 oq).2 oq).2 oq).1 (.inr aq)
   rw [← e.2];rfl
 rotate_left
 iterate 4 kernel_rfl
 refine qm [52,53] (x:=((a.kind) != (b.kind))) (bne_iff_ne.2 hb8) ?_ ?_
 refine qR 7 [(0,.ptr 0 0),(4,.ptr 2 0),(5,.ptr 3 0),(47,.bool true)] [.box [.int .i64 (((lv))),.map 1],mS m,a.bx,b.bx] ?_ ?_
 refine wIfT kq kq ?_
 refine qU 1 [(6,.bool false)] ?_ ?_
 refine wRet kq ?_
 apply iR
 apply aR
 refine leafA (l:=[.bool false]) (.inr rfl) kq (by have e:=(((u2 oq).2 oq).2 oq).1 (.inl aq);rw [← e.1];rfl) (by simp [awrap]) (by simp [awrap]) ?_ ?_
 refine Eq.trans (b:=[.box [.int .i64 (((lv))),.map 1],mS m]) kq ?_
 · have e:=(((u2 oq).2 oq).2 oq).1 (.inl aq)
   rw [← e.2];rfl
 rotate_left
 iterate 21 kernel_rfl
 all_goals
  simp [AObj.belO,hpS,Ty.v,Vr.v]
end Go.Proofs.YtdikgijfekfaoaaGreatDoor
namespace Go.Proofs.YtdikgijfekfaoaaGreatDoor
open Go.Proofs.YtdikgijfekfaoaaGreatDoor.Abs
set_option maxRecDepth 20000
set_option maxHeartbeats 4000000
theorem Unify_ok (f:Nat) (p q:Ty) (lv:Int) (m m':St) (hp:p.sz<100000000) (hq:q.sz<100000000) (hm:stSm m) (hhp:hasB m p=true) (hhq:hasB m q=true) (hb:unifyF f m p q=some (true,m')):CallsA cx 23 [.ptr 0 0,Ty.v p,Ty.v q] (hpS lv m) (fun v h=>v=(.int .i64 0)∧h=hpS lv m'):=by
 refine func_intro (cx:=cx) 34 2 [(ResultVar.tmp 6)] Tryz.func23 rfl rfl rfl rfl rfl zq ?_
 show wpA cx 34 2 (at_ c23 []) _ _ _
 refine qZ [(0,.ptr 0 0),(1,Ty.v p),(2,Ty.v q)] [bS lv,mS m] ?_ ?_
 refine qW 3 [(0,.ptr 0 0),(4,.ptr 2 0),(5,.ptr 3 0)] [bS lv,mS m,p.bx,q.bx] ?_ ?_
 refine qSeq ?_ ?_
 refine qV 2 ?_ ?_
 refine vcallA (args:=[.ptr 0 0,.agg [.int .i64 (p.kind),.str p.name,.int .i64 (p.n),.imm (p.names.map AVal.str),.imm (p.kids.map Ty.enc)]]) (hs:=[bS lv,mS m]) (hs':=[.box [.int .i64 ((lv)),.map 1],mS m]) (rest:=[p.bx,q.bx]) kq kq kq kq kq (has_S p (lv) m oq oq) (by simp [AObj.belO,hpS,Ty.v,Vr.v]) (by simp [AObj.belO,hpS,Ty.v,Vr.v]) rfl (by simp [AObj.belO,hpS,Ty.v,Vr.v]) (by simp [AObj.belO,hpS,Ty.v,Vr.v]) kq ?_
 refine qr 2 ?_ ?_
 by_cases hb1:(hasB m p)=true
 refine qm [11,12] (x:=(!(hasB m p))) (congrArg not (hb1)) ?_ ?_
 refine qr 2 ?_ ?_
 refine vcallA (args:=[.ptr 0 0,.agg [.int .i64 (q.kind),.str q.name,.int .i64 (q.n),.imm (q.names.map AVal.str),.imm (q.kids.map Ty.enc)]]) (hs:=[.box [.int .i64 ((lv)),.map 1],mS m]) (hs':=[.box [.int .i64 (((lv))),.map 1],mS m]) (rest:=[p.bx,q.bx]) kq kq kq kq kq (has_S q ((lv)) m oq oq) (by simp [AObj.belO,hpS,Ty.v,Vr.v]) (by simp [AObj.belO,hpS,Ty.v,Vr.v]) rfl (by simp [AObj.belO,hpS,Ty.v,Vr.v]) (by simp [AObj.belO,hpS,Ty.v,Vr.v]) kq ?_
 refine qR 2 [(0,.ptr 0 0),(4,.ptr 2 0),(5,.ptr 3 0),(17,.bool (!(hasB m q)))] [.box [.int .i64 (((lv))),.map 1],mS m,p.bx,q.bx] ?_ ?_
 by_cases hb2:(hasB m q)=true
 refine qf (x:=(!(hasB m q))) (congrArg not (hb2)) ?_ ?_
 refine qK ?_ ?_
 refine qz [(0,.ptr 0 0),(4,.ptr 2 0),(5,.ptr 3 0)] ?_ ?_
 refine qV 4 ?_ ?_
 refine vcallH (args:=[.map 1]) (v:=.map 4) (h':=[.box [.int .i64 (((lv))),.map 1],mS m,p.bx,q.bx,mS m]) [.box [.int .i64 (((lv))),.map 1],mS m,p.bx,q.bx] kq kq kq kq kq (mclone65 rfl) ?_
 refine qR 1 [(0,.ptr 0 0),(4,.ptr 2 0),(5,.ptr 3 0),(7,.map 4)] [.box [.int .i64 (((lv))),.map 1],mS m,p.bx,q.bx,mS m] ?_ ?_
 refine qSeq ?_ ?_
 refine qSeq ?_ ?_
 refine wDrw cxM kq extThen (dstart ?_)
 refine qu 2 ?_ ?_
 refine dcallP (args:=[.agg [.int .i64 (p.kind),.str p.name,.int .i64 (p.n),.imm (p.names.map AVal.str),.imm (p.kids.map Ty.enc)]]) kq kq kq kq kq (clone_spec p oq) (by intro _;simp [Ty.v,frzL_app,Occ.v]) (by simp [Ty.v]) (by simp [Ty.v,ownsL_app]) ?_
 refine qu 1 ?_ ?_
 refine dcallP (args:=[.agg [.int .i64 (q.kind),.str q.name,.int .i64 (q.n),.imm (q.names.map AVal.str),.imm (q.kids.map Ty.enc)]]) kq kq kq kq kq (clone_spec q oq) (by intro _;simp [Ty.v,frzL_app,Occ.v]) (by simp [Ty.v]) (by simp [Ty.v,ownsL_app]) ?_
 refine dcallA (args:=[.ptr 0 0,Ty.v p,Ty.v q]) (hs:=[.box [.int .i64 (((lv))),.map 1],mS m]) (hs':=[.box [.int .i64 ((((lv)))),.map 1],mS m']) (rest:=[p.bx,q.bx,mS m]) (L:=[0,1]) kq kq kq kq kq kq (unify_S f p q (((lv))) m m' true oq oq hb) (by simp [AObj.belO,hpS,Ty.v,Vr.v]) (by simp [AObj.belO,hpS,Ty.v,Vr.v]) rfl (by simp [AObj.belO,hpS,Ty.v,Vr.v]) (by simp [AObj.belO,hpS,Ty.v,Vr.v]) kq rfl rfl ?_
 refine qu 1 ?_ ?_
 refine dend kq ⟨kq,?_⟩
 refine AThen_normal ?_
 refine qZ [(0,.ptr 0 0),(7,.map 4),(29,.bool false)] [.box [.int .i64 ((((lv)))),.map 1],mS m',p.bx,q.bx,mS m] ?_ ?_
 refine wIfF kq kq ?_
 refine qK ?_ ?_
 refine qz [] ?_ ?_
 refine qU 1 [(6,.int .i64 0)] ?_ ?_
 refine wRet kq ?_
 refine leafA (l:=[.int .i64 0]) (.inr rfl) kq (by rfl) (by simp [awrap]) (by simp [awrap]) ?_ ?_
 refine Eq.trans (b:=[.box [.int .i64 ((((lv)))),.map 1],mS m']) kq ?_
 · rfl
 · simp [AObj.belO,hpS,Ty.v,Vr.v]
 iterate 14 kernel_rfl
 · exfalso;exact hb2 hhq
 iterate 3 kernel_rfl
 · exfalso;exact hb1 hhp
 iterate 5 kernel_rfl
theorem Resolve_ok (f:Nat) (p r:Ty) (lv:Int) (m:St) (hp:p.sz<100000000) (hm:stSm m) (hhp:hasB m p=true) (hr:resF f m p=some r):CallsA cx 24 [.ptr 0 0,Ty.v p] (hpS lv m) (fun v h=>v=(Ty.v r)∧h=hpS lv m):=by
 refine func_intro (cx:=cx) 14 2 [(ResultVar.cell 4 25)] Tryz.func24 rfl rfl rfl rfl rfl zq ?_
 show wpA cx 14 2 (at_ c24 []) _ _ _
 refine qZ [(0,.ptr 0 0),(1,Ty.v p)] [bS lv,mS m] ?_ ?_
 refine qW 2 [(0,.ptr 0 0),(3,.ptr 2 0),(4,.ptr 3 0)] [bS lv,mS m,p.bx,.box zC] ?_ ?_
 refine qSeq ?_ ?_
 refine qV 2 ?_ ?_
 refine vcallA (args:=[.ptr 0 0,.agg [.int .i64 (p.kind),.str p.name,.int .i64 (p.n),.imm (p.names.map AVal.str),.imm (p.kids.map Ty.enc)]]) (hs:=[bS lv,mS m]) (hs':=[.box [.int .i64 ((lv)),.map 1],mS m]) (rest:=[p.bx,.box zC]) kq kq kq kq kq (has_S p (lv) m oq oq) (by simp [AObj.belO,hpS,Ty.v]) (by simp [AObj.belO,hpS,Ty.v]) rfl (by simp [AObj.belO,hpS,Ty.v]) (by simp [AObj.belO,hpS,Ty.v]) kq ?_
 refine qR 1 [(0,.ptr 0 0),(3,.ptr 2 0),(4,.ptr 3 0),(8,.bool (!(hasB m p)))] [.box [.int .i64 ((lv)),.map 1],mS m,p.bx,.box zC] ?_ ?_
 by_cases hb1:(hasB m p)=true
 refine qf (x:=(!(hasB m p))) (congrArg not (hb1)) ?_ ?_
 refine qK ?_ ?_
 refine qz [(0,.ptr 0 0),(3,.ptr 2 0),(4,.ptr 3 0)] ?_ ?_
 refine qV 2 ?_ ?_
 refine vcallA (args:=[.ptr 0 0,.agg [.int .i64 (p.kind),.str p.name,.int .i64 (p.n),.imm (p.names.map AVal.str),.imm (p.kids.map Ty.enc)]]) (hs:=[.box [.int .i64 ((lv)),.map 1],mS m]) (hs':=[.box [.int .i64 (((lv))),.map 1],mS m]) (rest:=[p.bx,.box zC]) kq kq kq kq kq (resolve_S f p r ((lv)) m oq hr) (by simp [AObj.belO,hpS,Ty.v]) (by simp [AObj.belO,hpS,Ty.v]) rfl (by simp [AObj.belO,hpS,Ty.v]) (by simp [AObj.belO,hpS,Ty.v]) kq ?_
 refine qR 1 [(4,.ptr 3 0)] [.box [.int .i64 (((lv))),.map 1],mS m,p.bx,r.bx] ?_ ?_
 refine wRet kq ?_
 refine leafA (l:=[.agg [.int .i64 (r.kind),.str r.name,.int .i64 (r.n),.imm (r.names.map AVal.str),.imm (r.kids.map Ty.enc)]]) (.inr rfl) kq (by simp [awrap,Ty.v,AVal.frz,frzL]) (by simp [awrap]) (by simp [awrap]) ?_ ?_
 refine Eq.trans (b:=[.box [.int .i64 (((lv))),.map 1],mS m]) kq ?_
 · rfl
 · simp [AObj.belO,hpS,Ty.v]
 iterate 5 kernel_rfl
 · exfalso;exact hb1 hhp
 iterate 5 kernel_rfl
theorem keysT_raw (l:Fd) :CallsA cx 114 [.map 0] [.map (encM AVal.str Ty.v l)] (fun v h=>v=.fn (.func 127) [] [.ptr 1 0]∧h=[.map (encM AVal.str Ty.v l),.box [.map 0]]):=by
 refine func_raw (cx:=cx) 4 1 [(ResultVar.tmp 2)] Tryz.func114 rfl rfl rfl rfl rfl zq ?_
 show wpA cx 4 1 (at_ c114 []) _ _ _
 refine qZ [(0,.map 0)] [.map (encM AVal.str Ty.v l)] ?_ ?_
 refine qW 2 [(1,.ptr 1 0)] [.map (encM AVal.str Ty.v l),.box [.map 0]] ?_ ?_
 refine qU 2 [(2,.fn (.func 127) [] [.ptr 1 0])] ?_ ?_
 refine wRet kq ?_
 refine leafR (l:=[.fn (.func 127) [] [.ptr 1 0]]) 2 [.map (encM AVal.str Ty.v l),.box [.map 0]] (.inr rfl) kq dq kq (by simp [awrap,-List.map_append,-List.map_take,-List.map_drop,-List.append_assoc]) (by simp [AObj.belO,-List.map_append,-List.map_take,-List.map_drop,-List.append_assoc]) ?_
 · exact ⟨rfl,rfl⟩
 iterate 3 kernel_rfl
theorem sorted_fdm {l:Fd} {h:AHeap} (m o:Nat) (ho:h[o]?=some (.box [.map m])) (hm:h[m]?=some (.map (encM AVal.str Ty.v l))) (hl:fdOk l) :
    CallsA cx 113 [.fn (.func 127) [] [.ptr o 0]] h (fun v h'=>v=.imm ((sSort (l.map Prod.fst)).map .str)∧h'=h):=by
  have e:(l.map fun p=>(p.1,p.2.v)).map (·.1)=l.map Prod.fst:=by simp [Function.comp_def]
  have:=sorted_spec keys127 (h:=h) (m:=m) (o:=o) (kv:=l.map fun p=>(p.1,p.2.v)) ho (by rw [hm];simp [encM,encKV,Function.comp_def]) (by rw [e];exact hl.1)
    (fun p hp=>by obtain ⟨q,hq,rfl⟩:=List.mem_map.1 hp;exact hl.2.1 q hq) (by rw [List.length_map];have:=hl.2.2;omega)
  rw [e] at this
  exact this
theorem cloneS_P (l:List (List UInt8)) (hl:l.length<1000000000):CallsP cx 84 [.imm (l.map .str)] (.imm (l.map .str)):=CallsP_post (cloneS l hl) (by rintro _ _ ⟨rfl,rfl⟩;simp [AVal.frz]) zq
theorem record_min (l:Fd) (n:Int) (hl:fdOk l):CallsA cx 83 [.map 0,.int .i64 (n)] [.map (encM AVal.str Ty.v l)] (fun v h=>v=(Ty.v (recT l n))∧h=[.map (encM AVal.str Ty.v l)]):=by
 have hsl:=fd_len hl
 refine func_intro (cx:=cx) 30 1 [(ResultVar.cell 4 25)] Tryz.func83 rfl rfl rfl rfl rfl zq ?_
 show wpA cx 30 1 (at_ c83 []) _ _ _
 refine qZ [(0,.map 0),(1,.int .i64 (n))] [.map (encM AVal.str Ty.v l)] ?_ ?_
 refine qW 1 [(0,.map 0),(1,.int .i64 (n)),(4,.ptr 1 0)] [.map (encM AVal.str Ty.v l),.box zC] ?_ ?_
 refine qV 2 ?_ ?_
 refine vcallH (args:=[.map 0]) (v:=.fn (.func 127) [] [.ptr 2 0]) (h':=[.map (encM AVal.str Ty.v l),.box zC,.box [.map 0]]) [.map (encM AVal.str Ty.v l),.box zC] kq kq kq kq kq (CallsA_at [0] (keysT_raw l) rfl dq zq (by simp [AObj.belO]) (by simp [renH,AObj.ren,lendR,renE_fdm]) rfl (by simp [renL,AVal.ren,lendR]) (by simp [AVal.ren,renL,lendR]) (by simp [lendH,setAll,renH,AObj.ren,renL,AVal.ren,lendR,renE_fdm])) ?_
 refine vcallH (args:=[.fn (.func 127) [] [.ptr 2 0]]) (v:=.imm ((sSort (l.map Prod.fst)).map AVal.str)) (h':=[.map (encM AVal.str Ty.v l),.box zC,.box [.map 0]]) [.map (encM AVal.str Ty.v l),.box zC,.box [.map 0]] kq kq kq kq kq (sorted_fdm 0 2 rfl rfl hl) ?_
 refine qR 3 [(0,.map 0),(4,.ptr 1 0),(5,.ptr 3 0)] [.map (encM AVal.str Ty.v l),.box zC,.box [.map 0],.box [.int .i64 5,.str [],.int .i64 (n),.imm ((sSort (l.map Prod.fst)).map AVal.str),.full []]] ?_ ?_
 refine wOwnB 3 4 5 (cs:=[.int .i64 5,.str [],.int .i64 (n),.imm ((sSort (l.map Prod.fst)).map AVal.str),.full []]) [.int .i64 5,.str [],.int .i64 (n),.imm ((sSort (l.map Prod.fst)).map AVal.str),.own 4 0 0] dq kq kq kq ?_
 refine qZ [(0,.map 0),(4,.ptr 1 0),(5,.ptr 3 0)] [.map (encM AVal.str Ty.v l),.box zC,.box [.map 0],.box [.int .i64 5,.str [],.int .i64 (n),.imm ((sSort (l.map Prod.fst)).map AVal.str),.own 4 0 0],.arr 5 (([]:List (Ty)).map Ty.enc) 0] ?_ ?_
 refine qSeq ?_ ?_
 refine qV 2 ?_ ?_
 refine qy (o_lenmap (l:=(sSort (l.map Prod.fst))) (enc:=AVal.str) kq ty22) ?_ ?_ ?_
 refine qR 1 [(0,.map 0),(4,.ptr 1 0),(5,.ptr 3 0),(14,.imm ((sSort (l.map Prod.fst)).map AVal.str)),(15,nI ((sSort (l.map Prod.fst)).length)),(16,.int .i64 0)] [.map (encM AVal.str Ty.v l),.box zC,.box [.map 0],.box [.int .i64 5,.str [],.int .i64 (n),.imm ((sSort (l.map Prod.fst)).map AVal.str),.own 4 0 0],.arr 5 (([]:List (Ty)).map Ty.enc) 0] ?_ ?_
 refine qB 0 ?_ ?_ ?_
 refine wLoop (σ:=Nat) (fun k=>[(0,.map 0),(4,.ptr 1 0),(5,.ptr 3 0),(14,.imm ((sSort (l.map Prod.fst)).map AVal.str)),(15,.int .i64 (((sSort (l.map Prod.fst)).length:Nat):Int)),(16,.int .i64 ((k:Nat):Int))]) (fun k=>[.map (encM AVal.str Ty.v l),.box zC,.box [.map 0],.box [.int .i64 5,.str [],.int .i64 (n),.imm ((sSort (l.map Prod.fst)).map AVal.str),.own 4 0 (recK l k).length],.arr 5 ((recK l k).map Ty.enc) 0]) (fun k=>k≤(sSort (l.map Prod.fst)).length) (fun k=>(sSort (l.map Prod.fst)).length - k) 0 kq (by exact Nat.zero_le _) ⟨⟨kq,kq,kq,kq,kq,kq,trivial⟩,by simp [BelL,AVal.bel],by simp,kq,by simp [AObj.belO,belL_app,Ty.enc_v]⟩ ?_
 rintro k hk
 have hrl:=recK_len l k hk
 refine qW 1 [(0,.map 0),(4,.ptr 1 0),(5,.ptr 3 0),(14,.imm ((sSort (l.map Prod.fst)).map AVal.str)),(15,nI ((sSort (l.map Prod.fst)).length)),(16,nI k),(17,.bool (decide (((k:Nat):Int)<(((sSort (l.map Prod.fst)).length:Nat):Int))))] [.map (encM AVal.str Ty.v l),.box zC,.box [.map 0],.box [.int .i64 5,.str [],.int .i64 (n),.imm ((sSort (l.map Prod.fst)).map AVal.str),.own 4 0 (recK l k).length],.arr 5 ((recK l k).map Ty.enc) 0] ?_ ?_
 refine qSeq ?_ ?_
 by_cases hb1:((k:Nat):Int)<(((sSort (l.map Prod.fst)).length:Nat):Int)
 refine qt (decide_eq_true hb1) ?_ ?_
 refine qK ?_ ?_
 refine qz [(0,.map 0),(4,.ptr 1 0),(5,.ptr 3 0),(14,.imm ((sSort (l.map Prod.fst)).map AVal.str)),(15,nI ((sSort (l.map Prod.fst)).length)),(16,nI k)] ?_ ?_
 refine qSeq ?_ ?_
 refine qB 1 ?_ ?_ ?_
 refine qO ?_ ?_
 refine qy (o_ixmap (k:=.i64) (l:=(sSort (l.map Prod.fst))) (enc:=AVal.str) (i:=((k:Nat):Int)) [] kq ty22 ty9 (fun _=>rfl) oq oq) ?_ ?_ ?_
 refine qR 2 [(0,.map 0),(4,.ptr 1 0),(5,.ptr 3 0),(7,.str ((sSort (l.map Prod.fst)).getD k [])),(14,.imm ((sSort (l.map Prod.fst)).map AVal.str)),(15,nI ((sSort (l.map Prod.fst)).length)),(16,nI k)] [.map (encM AVal.str Ty.v l),.box zC,.box [.map 0],.box [.int .i64 5,.str [],.int .i64 (n),.imm ((sSort (l.map Prod.fst)).map AVal.str),.own 4 0 (recK l k).length],.arr 5 ((recK l k).map Ty.enc) 0] ?_ ?_
 refine qo ?_ ?_
 refine qr 4 ?_ ?_
 rcases hm2:mget ((sSort (l.map Prod.fst)).getD k []) l with _|x2
 · exact absurd hm2 (sorted_no oq)
 refine qy (o_lookS (ok:=false) (o:=0) (ek:=AVal.str) (ev:=Ty.v) (l:=l) (k:=((sSort (l.map Prod.fst)).getD k [])) (x:=x2) keyS hm2 kq ty106 ty9 rfl ty25 kq) ?_ ?_ ?_
 refine qr 1 ?_ ?_
 refine qY (o_appmap (o:=4) (len:=((recK l k).length)) (l:=(recK l k)) (xs:=[x2]) (enc:=Ty.enc) (sz:=5) (fr:=0) (x:=(.full [Ty.v x2])) kq ty23 ty25 ty23 rfl kq rfl rfl (Eq.trans (b:=some [Ty.v x2]) kq (by simp [Ty.enc_v])) ⟨by decide,by kernel_rfl⟩ ty_ok (by simp only [List.length_append,List.length_cons,List.length_nil];omega) (by simp only [List.length_append,List.length_cons,List.length_nil];omega)) ?_ ?_ ?_
 refine qr 2 ?_ ?_
 refine qe ?_ ?_
 refine AIn_normal ?_
 refine AThen_normal ?_
 refine qZ [(0,.map 0),(4,.ptr 1 0),(5,.ptr 3 0),(14,.imm ((sSort (l.map Prod.fst)).map AVal.str)),(15,nI ((sSort (l.map Prod.fst)).length)),(16,nI k)] [.map (encM AVal.str Ty.v l),.box zC,.box [.map 0],.box [.int .i64 5,.str [],.int .i64 (n),.imm ((sSort (l.map Prod.fst)).map AVal.str),.own 4 0 ((recK l k)++[x2]).length],.arr 5 (((recK l k)++[x2]).map Ty.enc) 0] ?_ ?_
 refine qo ?_ ?_
 refine qy (o_add (a:=((k:Nat):Int)) (b:=1) kq oq oq) ?_ ?_ ?_
 refine qr 1 ?_ ?_
 refine qe ?_ ?_
 refine AThen_normal ⟨k+1,?_,?_,⟨⟨kq,kq,kq,kq,kq,kq,trivial⟩,by simp [BelL,AVal.bel],by simp,(Eq.trans (b:=[.map (encM AVal.str Ty.v l),.box zC,.box [.map 0],.box [.int .i64 5,.str [],.int .i64 (n),.imm ((sSort (l.map Prod.fst)).map AVal.str),.own 4 0 ((recK l k)++[x2]).length],.arr 5 (((recK l k)++[x2]).map Ty.enc) 0]) kq (by rw [recK_succ oq aq])),by simp [AObj.belO,belL_app,Ty.enc_v]⟩⟩
 · omega
 · omega
 iterate 25 kernel_rfl
 refine qf (decide_eq_false hb1) ?_ ?_
 refine wExit 0 kq kq ?_
 refine AThen_exit ?_
 refine AThen_exit ?_
 refine AIn_exit ?_
 refine AThen_normal ?_
 refine qz [(4,.ptr 1 0),(5,.ptr 3 0)] ?_ ?_
 refine wFrzC 3 4 4 (cs:=[.int .i64 5,.str [],.int .i64 (n),.imm ((sSort (l.map Prod.fst)).map AVal.str),.own 4 0 (recK l k).length]) (es:=((recK l k).map Ty.enc)) (off:=0) (len:=((recK l k).length)) (sz:=5) (fr:=0) [.int .i64 5,.str [],.int .i64 (n),.imm ((sSort (l.map Prod.fst)).map AVal.str),.imm ((recK l k).map Ty.enc)] ((recK l k).map Ty.enc) dq kq kq kq zq kq kq ?_
 refine qZ [(4,.ptr 1 0),(5,.ptr 3 0)] [.map (encM AVal.str Ty.v l),.box zC,.box [.map 0],.box [.int .i64 5,.str [],.int .i64 (n),.imm ((sSort (l.map Prod.fst)).map AVal.str),.imm ((recK l k).map Ty.enc)],.arr 5 ((recK l k).map Ty.enc) ((recK l k).map Ty.enc).length] ?_ ?_
 refine qW 2 [(4,.ptr 1 0)] [.map (encM AVal.str Ty.v l),.box [.int .i64 5,.str [],.int .i64 (n),.imm ((sSort (l.map Prod.fst)).map AVal.str),.imm ((recK l k).map Ty.enc)],.box [.map 0],.box [.int .i64 5,.str [],.int .i64 (n),.imm ((sSort (l.map Prod.fst)).map AVal.str),.imm ((recK l k).map Ty.enc)],.arr 5 ((recK l k).map Ty.enc) ((recK l k).map Ty.enc).length] ?_ ?_
 refine wRet kq ?_
 refine leafA (l:=[.agg [.int .i64 5,.str [],.int .i64 (n),.imm ((sSort (l.map Prod.fst)).map AVal.str),.imm ((recK l k).map Ty.enc)]]) (.inr rfl) kq (by have hkk:k=(sSort (l.map Prod.fst)).length:=oq;subst hkk;simp [Ty.v,AVal.frz,frzL,awrap,recT]) (by simp [awrap]) (by simp [awrap]) ?_ ?_
 refine Eq.trans (b:=[.map (encM AVal.str Ty.v l)]) kq ?_
 · rfl
 · simp [AObj.belO,hpV,Ty.v]
 iterate 18 kernel_rfl
end Go.Proofs.YtdikgijfekfaoaaGreatDoor
namespace Go.Proofs.YtdikgijfekfaoaaGreatDoor
open Go.Proofs.YtdikgijfekfaoaaGreatDoor.Abs
set_option maxRecDepth 20000
set_option maxHeartbeats 4000000
def fldT (ns:List (List UInt8)) (ks:List Ty):Ty:=.mk 5 [] 0 ns ks
def rowS (lv:Int) (m:St) (ns:List (List UInt8)):St:=mset ((((m.length+1):Nat):Int)) ⟨true,lv,false,Ty.zero,ns⟩ m
def varS (lv:Int) (m:St):St:=mset ((((m.length+1):Nat):Int)) ⟨false,lv,false,Ty.zero,[]⟩ m
structure recI (m:St) (ns:List (List UInt8)) (ks:List Ty):Prop where
  len:ns.length=ks.length
  low:∀ i,i<ns.length→fitsW 2 (ns.getD i [])=true
  has:∀ i,i<ns.length→hasB m (ks.getD i Ty.zero)=true
  nd:ns.Nodup
theorem addK_no {ns:List (List UInt8)} {ks:List Ty} {k:Nat} (hl:ns.length=ks.length) (hn:ns.Nodup) (hk:k<ns.length):mget (ns.getD k []) (addK [] (fldT ns ks) k)=none:=by
  cases hm:mget (ns.getD k []) (addK [] (fldT ns ks) k) with
  | none=>rfl
  | some x =>
    exfalso
    have key:∀ (z l:Fd) (q:List UInt8×Ty),q∈z.foldl (fun l p=>mset p.1 p.2 l) l→q∈z∨q∈l:=fun z l q=>foldS_mem z l
    rcases key _ _ _ (mg_mem hm) with h|h
    · obtain ⟨i,hi,e⟩:=List.getElem_of_mem h
      rw [List.length_take,List.length_zip] at hi
      rw [List.getElem_take,List.getElem_zip] at e
      have e1:=(Prod.mk.inj e).1
      have hi':i<ns.length:=by have h1:(fldT ns ks).names=ns:=rfl;have h2:(fldT ns ks).kids=ks:=rfl;rw [h1,h2] at hi;omega
      rw [List.getD_eq_getElem?_getD,List.getElem?_eq_getElem hk] at e1
      have:=(List.getElem_inj hn).1 (show ns[i]=ns[k] from e1)
      omega
    · simp at h
theorem addK_len {l:Fd} {t:Ty} (h:fdI l):∀ k,(addK l t k).length≤l.length+k
  | 0=>by unfold addK;simp
  | k+1=>by
    have ih:=addK_len (t:=t) h k
    by_cases hk:k<(t.names.zip t.kids).length
    · have e:addK l t (k+1)=mset (t.names.zip t.kids)[k].1 (t.names.zip t.kids)[k].2 (addK l t k):=by
        unfold addK
        rw [List.take_succ_eq_append_getElem hk,List.foldl_append];rfl
      rw [e]
      have h2:=mset_keys (t.names.zip t.kids)[k].1 (t.names.zip t.kids)[k].2 (addK l t k)
      have h3:=congrArg List.length h2
      rw [List.length_map] at h3
      rw [h3]
      split <;> simp <;> omega
    · have e:addK l t (k+1)=addK l t k:=by unfold addK;rw [List.take_of_length_le oq,List.take_of_length_le oq]
      rw [e];omega
theorem fldT_fd {ns:List (List UInt8)} {ks:List Ty} (hl:ns.length=ks.length) (hn:ns.length<100000000) (hb:∀ i,(ns.getD i []).length<100000000):fdOk (addF [] (fldT ns ks)):=by
  refine ⟨addF_keys _ zq,fun p hp=>?_,?_⟩
  · rcases addF_mem hp with h|h
    · obtain ⟨i,hi,e⟩:=List.getElem_of_mem h.1
      have:=hb i
      rw [List.getD_eq_getElem?_getD,List.getElem?_eq_getElem (show i<ns.length from hi)] at this
      rw [← e]
      exact Nat.le_trans (Nat.le_of_lt this) dq
    · simp at h
  · have:=addK_len (t:=fldT ns ks) fdI_nil ns.length
    rw [addK_end (show (fldT ns ks).names.length≤ns.length from Nat.le_refl _)] at this
    simp only [List.length_nil] at this
    omega
def recR (ns:List (List UInt8)) (ks:List Ty) (n:Int):Ty:=recT (addF [] (fldT ns ks)) n
theorem Record_ok (ns:List (List UInt8)) (ks:List Ty) (lv:Int) (m:St) (hn:ns.length<100000000) (hnl:∀ i,(ns.getD i []).length<100000000) (hks:∀ i,(ks.getD i Ty.zero).sz<100000000) (hm:stSm m) (hml:m.length<100000000) (hI:recI m ns ks):CallsA cx 36 [.ptr 0 0,.imm (ns.map AVal.str),.imm (ks.map Ty.enc)] (hpS lv m) (fun v h=>v=(.tup [Ty.v (recR ns ks (((m.length+1:Nat)):Int)),.int .i64 0])∧h=hpS lv (rowS lv m (recR ns ks 0).names)):=by
 have hfd:=fldT_fd hI.len hn hnl
 have hfl:(recR ns ks 0).names.length<100000000:=fd_len hfd
 have hil:=hI.len
 refine func_intro (cx:=cx) 76 2 [(ResultVar.cell 6 25),(ResultVar.tmp 7)] Tryz.func36 rfl rfl rfl rfl rfl zq ?_
 show wpA cx 76 2 (at_ c36 []) _ _ _
 refine qZ [(0,.ptr 0 0),(1,.imm (ns.map AVal.str)),(2,.imm (ks.map Ty.enc))] [bS lv,mS m] ?_ ?_
 refine qW 2 [(0,.ptr 0 0),(1,.imm (ns.map AVal.str)),(2,.imm (ks.map Ty.enc)),(6,.ptr 2 0)] [bS lv,mS m,.box zC] ?_ ?_
 refine qSeq ?_ ?_
 refine qV 1 ?_ ?_
 refine qy (o_lenmap (l:=ns) (enc:=AVal.str) kq ty22) ?_ ?_ ?_
 refine qr 1 ?_ ?_
 refine qy (o_lenmap (l:=ks) (enc:=Ty.enc) kq ty23) ?_ ?_ ?_
 refine qR 1 [(0,.ptr 0 0),(1,.imm (ns.map AVal.str)),(2,.imm (ks.map Ty.enc)),(6,.ptr 2 0),(19,.bool (((ns.length:Nat):Int) != ((ks.length:Nat):Int)))] [bS lv,mS m,.box zC] ?_ ?_
 by_cases hb1:((ns.length:Nat):Int)=((ks.length:Nat):Int)
 refine qf (x:=(((ns.length:Nat):Int) != ((ks.length:Nat):Int))) (bne_eq_false_iff_eq.2 hb1) ?_ ?_
 refine qK ?_ ?_
 refine qz [(0,.ptr 0 0),(1,.imm (ns.map AVal.str)),(2,.imm (ks.map Ty.enc)),(6,.ptr 2 0)] ?_ ?_
 refine qW 2 [(0,.ptr 0 0),(1,.imm (ns.map AVal.str)),(2,.imm (ks.map Ty.enc)),(6,.ptr 2 0),(8,.map 3)] [bS lv,mS m,.box zC,.map (encM AVal.str Ty.v ([]:List (List UInt8×Ty)))] ?_ ?_
 refine qU 1 [(0,.ptr 0 0),(1,.imm (ns.map AVal.str)),(2,.imm (ks.map Ty.enc)),(6,.ptr 2 0),(8,.map 3),(9,.bool false)] ?_ ?_
 refine qSeq ?_ ?_
 refine qV 1 ?_ ?_
 refine qy (o_lenmap (l:=ns) (enc:=AVal.str) kq ty22) ?_ ?_ ?_
 refine qR 1 [(0,.ptr 0 0),(2,.imm (ks.map Ty.enc)),(6,.ptr 2 0),(8,.map 3),(9,.bool false),(22,.imm (ns.map AVal.str)),(23,nI ns.length),(24,.int .i64 0)] [bS lv,mS m,.box zC,.map (encM AVal.str Ty.v ([]:List (List UInt8×Ty)))] ?_ ?_
 refine qB 0 ?_ ?_ ?_
 refine wLoop (σ:=Nat) (fun k=>[(0,.ptr 0 0),(2,.imm (ks.map Ty.enc)),(6,.ptr 2 0),(8,.map 3),(9,.bool false),(22,.imm (ns.map AVal.str)),(23,.int .i64 ((ns.length:Nat):Int)),(24,.int .i64 ((k:Nat):Int))]) (fun k=>[bS lv,mS m,.box zC,.map (encM AVal.str Ty.v (addK [] (fldT ns ks) k))]) (fun k=>k≤ns.length) (fun k=>ns.length - k) 0 kq (by exact Nat.zero_le _) ⟨⟨kq,kq,kq,kq,kq,kq,kq,kq,trivial⟩,by simp [BelL,AVal.bel],by simp,(Eq.trans (b:=[bS lv,mS m,.box zC,.map (encM AVal.str Ty.v ([]:List (List UInt8×Ty)))]) kq (by rfl)),by simp [AObj.belO]⟩ ?_
 rintro k hk
 refine qW 1 [(0,.ptr 0 0),(2,.imm (ks.map Ty.enc)),(6,.ptr 2 0),(8,.map 3),(9,.bool false),(22,.imm (ns.map AVal.str)),(23,nI ns.length),(24,nI k),(25,.bool (decide (((k:Nat):Int)<((ns.length:Nat):Int))))] [bS lv,mS m,.box zC,.map (encM AVal.str Ty.v (addK [] (fldT ns ks) k))] ?_ ?_
 refine qSeq ?_ ?_
 by_cases hb2:((k:Nat):Int)<((ns.length:Nat):Int)
 refine qt (decide_eq_true hb2) ?_ ?_
 refine qK ?_ ?_
 refine qz [(0,.ptr 0 0),(2,.imm (ks.map Ty.enc)),(6,.ptr 2 0),(8,.map 3),(9,.bool false),(22,.imm (ns.map AVal.str)),(23,nI ns.length),(24,nI k)] ?_ ?_
 refine qSeq ?_ ?_
 refine qB 1 ?_ ?_ ?_
 refine qV 1 ?_ ?_
 refine qy (o_ixmap (k:=.i64) (l:=ns) (enc:=AVal.str) (i:=((k:Nat):Int)) [] kq ty22 ty9 (fun _=>rfl) oq oq) ?_ ?_ ?_
 refine qR 3 [(0,.ptr 0 0),(2,.imm (ks.map Ty.enc)),(6,.ptr 2 0),(8,.map 3),(9,.bool false),(10,nI k),(11,.str (ns.getD k [])),(22,.imm (ns.map AVal.str)),(23,nI ns.length),(24,nI k)] [bS lv,mS m,.box zC,.map (encM AVal.str Ty.v (addK [] (fldT ns ks) k))] ?_ ?_
 refine qSeq ?_ ?_
 refine qV 1 ?_ ?_
 refine qc [.str (ns.getD k [])] (tlower_spec (ns.getD k []) (by have:=hnl k;omega)) ?_ ?_
 refine qr 2 ?_ ?_
 by_cases hb3:(fitsW 2 (ns.getD k []))=true
 refine qm [31,32] (x:=(!(fitsW 2 (ns.getD k [])))) (congrArg not (hb3)) ?_ ?_
 refine qr 3 ?_ ?_
 refine qy ((o_ixmap (k:=.i64) (l:=ks) (enc:=Ty.enc) (i:=((k:Nat):Int)) Ty.zero kq ty23 ty25 ty_size oq oq).trans (congrArg (fun cs=>some (AVal.pimm cs 0,_)) (ty_cells (ks.getD k Ty.zero)))) ?_ ?_ ?_
 refine qr 1 ?_ ?_
 refine vcallA (args:=[.ptr 0 0,.agg [.int .i64 ((ks.getD k Ty.zero).kind),.str (ks.getD k Ty.zero).name,.int .i64 ((ks.getD k Ty.zero).n),.imm ((ks.getD k Ty.zero).names.map AVal.str),.imm ((ks.getD k Ty.zero).kids.map Ty.enc)]]) (hs:=[bS lv,mS m]) (hs':=[.box [.int .i64 ((lv)),.map 1],mS m]) (rest:=[.box zC,.map (encM AVal.str Ty.v (addK [] (fldT ns ks) k))]) kq kq kq kq kq (has_S (ks.getD k Ty.zero) (lv) m (hks _) oq) (by simp [AObj.belO,Ty.v,hpS]) (by simp [AObj.belO,Ty.v,hpS]) rfl (by simp [AObj.belO,Ty.v,hpS]) (by simp [AObj.belO,Ty.v,hpS]) kq ?_
 refine qR 2 [(0,.ptr 0 0),(2,.imm (ks.map Ty.enc)),(6,.ptr 2 0),(8,.map 3),(9,.bool false),(10,nI k),(11,.str (ns.getD k [])),(22,.imm (ns.map AVal.str)),(23,nI ns.length),(24,nI k),(33,.ptr 0 0),(34,.imm (ks.map Ty.enc)),(35,nI k),(36,.pimm [.int .i64 ((ks.getD k Ty.zero).kind),.str (ks.getD k Ty.zero).name,.int .i64 ((ks.getD k Ty.zero).n),.imm ((ks.getD k Ty.zero).names.map AVal.str),.imm ((ks.getD k Ty.zero).kids.map Ty.enc)] 0),(37,.agg [.int .i64 ((ks.getD k Ty.zero).kind),.str (ks.getD k Ty.zero).name,.int .i64 ((ks.getD k Ty.zero).n),.imm ((ks.getD k Ty.zero).names.map AVal.str),.imm ((ks.getD k Ty.zero).kids.map Ty.enc)]),(38,.bool (hasB m (ks.getD k Ty.zero))),(39,.bool (!(hasB m (ks.getD k Ty.zero)))),(40,.bool (!(hasB m (ks.getD k Ty.zero))))] [.box [.int .i64 ((lv)),.map 1],mS m,.box zC,.map (encM AVal.str Ty.v (addK [] (fldT ns ks) k))] ?_ ?_
 by_cases hb4:(hasB m (ks.getD k Ty.zero))=true
 refine qf (x:=(!(hasB m (ks.getD k Ty.zero)))) (congrArg not (hb4)) ?_ ?_
 refine qK ?_ ?_
 refine qz [(0,.ptr 0 0),(2,.imm (ks.map Ty.enc)),(6,.ptr 2 0),(8,.map 3),(9,.bool false),(10,nI k),(11,.str (ns.getD k [])),(22,.imm (ns.map AVal.str)),(23,nI ns.length),(24,nI k),(33,.ptr 0 0),(34,.imm (ks.map Ty.enc)),(35,nI k),(36,.pimm [.int .i64 ((ks.getD k Ty.zero).kind),.str (ks.getD k Ty.zero).name,.int .i64 ((ks.getD k Ty.zero).n),.imm ((ks.getD k Ty.zero).names.map AVal.str),.imm ((ks.getD k Ty.zero).kids.map Ty.enc)] 0),(37,.agg [.int .i64 ((ks.getD k Ty.zero).kind),.str (ks.getD k Ty.zero).name,.int .i64 ((ks.getD k Ty.zero).n),.imm ((ks.getD k Ty.zero).names.map AVal.str),.imm ((ks.getD k Ty.zero).kids.map Ty.enc)]),(38,.bool (hasB m (ks.getD k Ty.zero))),(39,.bool (!(hasB m (ks.getD k Ty.zero))))] ?_ ?_
 refine qV 2 ?_ ?_
 rcases hm5:mget (ns.getD k []) (addK [] (fldT ns ks) k) with _|x5
 refine qy (o_lookN (ok:=true) (o:=3) (ek:=AVal.str) (ev:=Ty.v) (l:=(addK [] (fldT ns ks) k)) (k:=(ns.getD k [])) keyS hm5 kq ty106 ty9 rfl ty25 kq) ?_ ?_ ?_
 refine qR 6 [(0,.ptr 0 0),(2,.imm (ks.map Ty.enc)),(6,.ptr 2 0),(8,.map 3),(9,.bool false),(10,nI k),(11,.str (ns.getD k [])),(13,.bool false),(22,.imm (ns.map AVal.str)),(23,nI ns.length),(24,nI k),(33,.ptr 0 0),(34,.imm (ks.map Ty.enc)),(35,nI k),(36,.pimm [.int .i64 ((ks.getD k Ty.zero).kind),.str (ks.getD k Ty.zero).name,.int .i64 ((ks.getD k Ty.zero).n),.imm ((ks.getD k Ty.zero).names.map AVal.str),.imm ((ks.getD k Ty.zero).kids.map Ty.enc)] 0),(37,.agg [.int .i64 ((ks.getD k Ty.zero).kind),.str (ks.getD k Ty.zero).name,.int .i64 ((ks.getD k Ty.zero).n),.imm ((ks.getD k Ty.zero).names.map AVal.str),.imm ((ks.getD k Ty.zero).kids.map Ty.enc)]),(38,.bool (hasB m (ks.getD k Ty.zero))),(39,.bool (!(hasB m (ks.getD k Ty.zero))))] [.box [.int .i64 ((lv)),.map 1],mS m,.box zC,.map (encM AVal.str Ty.v (addK [] (fldT ns ks) k)),.box zC] ?_ ?_
 refine qU 5 [(0,.ptr 0 0),(2,.imm (ks.map Ty.enc)),(6,.ptr 2 0),(8,.map 3),(9,.bool false),(10,nI k),(11,.str (ns.getD k [])),(22,.imm (ns.map AVal.str)),(23,nI ns.length),(24,nI k),(33,.ptr 0 0),(34,.imm (ks.map Ty.enc)),(35,nI k),(36,.pimm [.int .i64 ((ks.getD k Ty.zero).kind),.str (ks.getD k Ty.zero).name,.int .i64 ((ks.getD k Ty.zero).n),.imm ((ks.getD k Ty.zero).names.map AVal.str),.imm ((ks.getD k Ty.zero).kids.map Ty.enc)] 0),(37,.agg [.int .i64 ((ks.getD k Ty.zero).kind),.str (ks.getD k Ty.zero).name,.int .i64 ((ks.getD k Ty.zero).n),.imm ((ks.getD k Ty.zero).names.map AVal.str),.imm ((ks.getD k Ty.zero).kids.map Ty.enc)]),(38,.bool (hasB m (ks.getD k Ty.zero))),(39,.bool (!(hasB m (ks.getD k Ty.zero)))),(50,.bool false)] ?_ ?_
 refine qo ?_ ?_
 refine qr 4 ?_ ?_
 refine qy ((o_ixmap (k:=.i64) (l:=ks) (enc:=Ty.enc) (i:=((k:Nat):Int)) Ty.zero kq ty23 ty25 ty_size oq oq).trans (congrArg (fun cs=>some (AVal.pimm cs 0,_)) (ty_cells (ks.getD k Ty.zero)))) ?_ ?_ ?_
 refine qr 1 ?_ ?_
 refine vcallP (args:=[.agg [.int .i64 ((ks.getD k Ty.zero).kind),.str (ks.getD k Ty.zero).name,.int .i64 ((ks.getD k Ty.zero).n),.imm ((ks.getD k Ty.zero).names.map AVal.str),.imm ((ks.getD k Ty.zero).kids.map Ty.enc)]]) kq kq kq kq (clone_spec (ks.getD k Ty.zero) (hks _)) (by simp [Ty.v,frzL_app,Occ.v]) (by simp [Ty.v]) (by simp [Ty.v,ownsL_app]) ?_
 refine qY (o_mset (o:=3) (ek:=AVal.str) (ev:=Ty.v) (l:=(addK [] (fldT ns ks) k)) (k:=(ns.getD k [])) (x:=(ks.getD k Ty.zero)) keyS kq ty106 ty9 rfl kq kq) ?_ ?_ ?_
 refine qe ?_ ?_
 refine AIn_normal ?_
 refine AThen_normal ?_
 refine qZ [(0,.ptr 0 0),(2,.imm (ks.map Ty.enc)),(6,.ptr 2 0),(8,.map 3),(9,.bool false),(22,.imm (ns.map AVal.str)),(23,nI ns.length),(24,nI k),(33,.ptr 0 0),(34,.imm (ks.map Ty.enc)),(35,nI k),(36,.pimm [.int .i64 ((ks.getD k Ty.zero).kind),.str (ks.getD k Ty.zero).name,.int .i64 ((ks.getD k Ty.zero).n),.imm ((ks.getD k Ty.zero).names.map AVal.str),.imm ((ks.getD k Ty.zero).kids.map Ty.enc)] 0),(37,.agg [.int .i64 ((ks.getD k Ty.zero).kind),.str (ks.getD k Ty.zero).name,.int .i64 ((ks.getD k Ty.zero).n),.imm ((ks.getD k Ty.zero).names.map AVal.str),.imm ((ks.getD k Ty.zero).kids.map Ty.enc)]),(38,.bool (hasB m (ks.getD k Ty.zero))),(39,.bool (!(hasB m (ks.getD k Ty.zero)))),(50,.bool false)] [.box [.int .i64 ((lv)),.map 1],mS m,.box zC,.map (encM AVal.str Ty.v (mset (ns.getD k []) (ks.getD k Ty.zero) (addK [] (fldT ns ks) k))),.box zC] ?_ ?_
 refine qo ?_ ?_
 refine qy (o_add (a:=((k:Nat):Int)) (b:=1) kq oq oq) ?_ ?_ ?_
 refine qr 1 ?_ ?_
 refine qe ?_ ?_
 refine AThen_normal ⟨k+1,?_,?_,⟨⟨kq,kq,kq,kq,kq,kq,kq,kq,trivial⟩,by simp [BelL,AVal.bel],by simp,(Eq.trans (b:=[.box [.int .i64 ((lv)),.map 1],mS m,.box zC,.map (encM AVal.str Ty.v (mset (ns.getD k []) (ks.getD k Ty.zero) (addK [] (fldT ns ks) k)))]) kq (by rw [← addK_succ (l:=[]) (t:=fldT ns ks) (k:=k) (show k<ns.length by omega) hI.len];rfl)),by simp [AObj.belO]⟩⟩
 · omega
 · omega
 iterate 18 kernel_rfl
 · exact absurd ((hm5).symm.trans (addK_no hI.len hI.nd oq)) zq
 iterate 4 kernel_rfl
 · exfalso;exact hb4 (hI.has k oq)
 iterate 6 kernel_rfl
 · exfalso;exact hb3 (hI.low k oq)
 iterate 14 kernel_rfl
 refine qf (decide_eq_false hb2) ?_ ?_
 refine wExit 0 kq kq ?_
 refine AThen_exit ?_
 refine AThen_exit ?_
 refine AIn_exit ?_
 refine AThen_normal ?_
 refine qz [(0,.ptr 0 0),(6,.ptr 2 0),(8,.map 3),(9,.bool false)] ?_ ?_
 refine qSeq ?_ ?_
 refine qU 1 [(0,.ptr 0 0),(6,.ptr 2 0),(8,.map 3),(60,.bool false)] ?_ ?_
 refine wIfF kq kq ?_
 refine qK ?_ ?_
 refine qz [(0,.ptr 0 0),(6,.ptr 2 0),(8,.map 3)] ?_ ?_
 refine qV 1 ?_ ?_
 refine vcallH (args:=[.map 3,.int .i64 0]) (v:=Ty.v (recR ns ks 0)) (h':=[bS lv,mS m,.box zC,.map (encM AVal.str Ty.v (addK [] (fldT ns ks) k))]) [bS lv,mS m,.box zC,.map (encM AVal.str Ty.v (addK [] (fldT ns ks) k))] kq kq kq kq kq (CallsA_at [3] (record_min (addF [] (fldT ns ks)) 0 hfd) rfl dq zq (by simp [AObj.belO]) (by rw [← addK_end (l:=[]) (t:=fldT ns ks) (k:=k) (show ns.length≤k by omega)];simp [renH,AObj.ren,lendR,renE_fdm]) rfl (by simp [renL,AVal.ren,lendR]) (by simp [Ty.v,AVal.ren,renL,recR]) (by rw [← addK_end (l:=[]) (t:=fldT ns ks) (k:=k) (show ns.length≤k by omega)];simp [lendH,setAll,renH,AObj.ren,renL,AVal.ren,lendR,renE_fdm])) ?_
 refine qR 2 [(0,.ptr 0 0),(6,.ptr 2 0),(14,.ptr 4 0)] [bS lv,mS m,.box zC,.map (encM AVal.str Ty.v (addK [] (fldT ns ks) k)),(recR ns ks 0).bx] ?_ ?_
 refine qSeq ?_ ?_
 refine wDrw cxM kq extThen (dstart ?_)
 refine qu 7 ?_ ?_
 refine dcallP (args:=[.imm ((recR ns ks 0).names.map AVal.str)]) kq kq kq kq kq (cloneS_P ((recR ns ks 0).names) oq) (by intro _;simp [Ty.v,frzL_app,Occ.v]) (by simp [Ty.v]) (by simp [Ty.v,ownsL_app]) ?_
 refine qu 1 ?_ ?_
 refine dcallA (args:=[.ptr 0 0,.agg [.bool true,.int .i64 (lv),.bool false,.int .i64 0,.str [],.int .i64 0,.full [],.full [],.imm (((recR ns ks 0).names).map AVal.str)]]) (hs:=[bS lv,mS m]) (hs':=[.box [.int .i64 ((lv)),.map 1],mS (rowS (lv) m ((recR ns ks 0).names))]) (rest:=[.box zC,.map (encM AVal.str Ty.v (addK [] (fldT ns ks) k)),(recR ns ks 0).bx]) (L:=[0,1]) kq kq kq kq kq kq (make_row (lv) (lv) ((recR ns ks 0).names) m oq) (by simp [AObj.belO,Ty.v,hpS]) (by simp [AObj.belO,Ty.v,hpS]) rfl (by simp [AObj.belO,Ty.v,hpS]) (by simp [AObj.belO,Ty.v,hpS]) kq rfl rfl ?_
 refine qu 2 ?_ ?_
 refine dend kq ⟨kq,?_⟩
 refine AThen_normal ?_
 refine qZ [(6,.ptr 2 0),(14,.ptr 4 0)] [.box [.int .i64 ((lv)),.map 1],mS (rowS (lv) m ((recR ns ks 0).names)),.box zC,.map (encM AVal.str Ty.v (addK [] (fldT ns ks) k)),.box [.int .i64 ((recR ns ks 0).kind),.str (recR ns ks 0).name,nI (m.length+1),.imm ((recR ns ks 0).names.map AVal.str),.imm ((recR ns ks 0).kids.map Ty.enc)]] ?_ ?_
 refine qW 3 [(6,.ptr 2 0),(7,.int .i64 0)] [.box [.int .i64 ((lv)),.map 1],mS (rowS (lv) m ((recR ns ks 0).names)),.box [.int .i64 ((recR ns ks 0).kind),.str (recR ns ks 0).name,nI (m.length+1),.imm ((recR ns ks 0).names.map AVal.str),.imm ((recR ns ks 0).kids.map Ty.enc)],.map (encM AVal.str Ty.v (addK [] (fldT ns ks) k)),.box [.int .i64 ((recR ns ks 0).kind),.str (recR ns ks 0).name,nI (m.length+1),.imm ((recR ns ks 0).names.map AVal.str),.imm ((recR ns ks 0).kids.map Ty.enc)]] ?_ ?_
 refine wRet kq ?_
 refine leafA (l:=[.agg [.int .i64 ((recR ns ks 0).kind),.str (recR ns ks 0).name,.int .i64 (((m.length+1):Nat):Int),.imm ((recR ns ks 0).names.map AVal.str),.imm ((recR ns ks 0).kids.map Ty.enc)],.int .i64 0]) (.inr rfl) kq (by simp [awrap,Ty.v,AVal.frz,frzL,recR,recT]) (by simp [awrap]) (by simp [awrap]) ?_ ?_
 refine Eq.trans (b:=[.box [.int .i64 ((lv)),.map 1],mS (rowS (lv) m ((recR ns ks 0).names))]) kq ?_
 · rfl
 · simp [AObj.belO,Ty.v,hpS]
 iterate 28 kernel_rfl
 · exfalso;have:=hI.len;omega
 iterate 10 kernel_rfl
end Go.Proofs.YtdikgijfekfaoaaGreatDoor
namespace Go.Proofs.YtdikgijfekfaoaaGreatDoor
open Go.Proofs.YtdikgijfekfaoaaGreatDoor.Abs
set_option maxRecDepth 20000
set_option maxHeartbeats 4000000
structure recG (m:St) (ns:List (List UInt8)) (ks:List Ty):Prop where
  n:ns.length<100000000
  nl:∀ i,(ns.getD i []).length<100000000
  kz:∀ i,(ks.getD i Ty.zero).sz<100000000
  sm:stSm m
  ml:m.length<100000000
  ok:recI m ns ks
abbrev BF:=St→Ty→Nat→Option (Ty×St)
def blurK (B:BF) (l:List Int) (t:Ty) (p:Int) (q:Nat):Nat→St→Option (List (List UInt8)×List Ty×St)
  | 0,S=>some ([],[],S)
  | k+1,S=>match blurK B l t p q k S with
    | some (ns,ks,T)=>if p > 3∨pickI l (q+5+k) 2=0 then (match B T (t.kids.getD k Ty.zero) (q+2+2 * k) with
      | some (r,T')=>some (ns++[t.names.getD k []],ks++[r],T')
      | none=>none) else some (ns,ks,T)
    | none=>none
open Classical in
noncomputable def blurF (l:List Int) (lv:Int):Nat→BF
  | 0,_,_,_=>none
  | n+1,S,t,q =>
    if pickI l q 6=0 then (if S.length<100000000 then some (.mk 6 [] ((S.length+1:Nat):Int) [] [],varS lv S) else none)
    else if t.kind=4∧t.kids.length=1 then (match blurF l lv n S (t.kids.getD 0 Ty.zero) (q+1) with
      | some (r,S')=>some (lsT r,S')
      | none=>none)
    else if ¬ t.kind=5 then some (t,S)
    else if ¬ t.names.length=t.kids.length then none
    else match blurK (blurF l lv n) l t (pickI l q 6) q t.names.length S with
      | some (ns,ks,S')=>if pickI l q 6 > 4 then some (.mk 5 [] 0 ns ks,S') else if recG S' ns ks then some (recR ns ks ((S'.length+1:Nat):Int),rowS lv S' (recR ns ks 0).names) else none
      | none=>none
theorem blur_split {l:List Int} {lv:Int} {n q:Nat} {S S':St} {t r:Ty} (h:blurF l lv n S t q=some (r,S')):∃ k,n=k+1∧(pickI l q 6=0→S.length<100000000∧Ty.mk 6 [] ((S.length+1:Nat):Int) [] []=r∧varS lv S=S') ∧
    (¬ pickI l q 6=0→(t.kind=4∧t.kids.length=1→∃ r0,blurF l lv k S (t.kids.getD 0 Ty.zero) (q+1)=some (r0,S')∧lsT r0=r)∧(¬ (t.kind=4∧t.kids.length=1)→(¬ t.kind=5→t=r∧S=S') ∧
      (t.kind=5→t.names.length=t.kids.length∧∃ ns ks T,blurK (blurF l lv k) l t (pickI l q 6) q t.names.length S=some (ns,ks,T)∧(pickI l q 6 > 4→Ty.mk 5 [] 0 ns ks=r∧T=S')∧(¬ pickI l q 6 > 4→recG T ns ks∧recR ns ks ((T.length+1:Nat):Int)=r∧rowS lv T (recR ns ks 0).names=S')))):=by
  cases n with
  | zero=>simp [blurF] at h
  | succ k =>
    rw [blurF] at h
    refine ⟨k,rfl,fun h0=>?_,fun h0=>⟨fun h1=>?_,fun h1=>⟨fun h2=>?_,fun h2=>?_⟩⟩⟩
    · rw [if_pos h0] at h
      split at h <;> cases h
      rename_i hs;exact ⟨hs,rfl,rfl⟩
    · rw [if_neg h0,if_pos h1] at h
      split at h <;> cases h
      rename_i r0 S0 hb;exact ⟨_,hb,rfl⟩
    · rw [if_neg h0,if_neg h1,if_pos h2] at h;cases h;exact ⟨rfl,rfl⟩
    · rw [if_neg h0,if_neg h1,if_neg (fun hc=>hc h2)] at h
      by_cases hl:t.names.length=t.kids.length
      · rw [if_neg (fun hc=>hc hl)] at h
        split at h <;> try (cases h;done)
        rename_i ns ks T hk
        refine ⟨hl,ns,ks,T,hk,fun h4=>?_,fun h4=>?_⟩
        · rw [if_pos h4] at h;cases h;exact ⟨rfl,rfl⟩
        · rw [if_neg h4] at h
          split at h <;> cases h
          rename_i hg;exact ⟨hg,rfl,rfl⟩
      · rw [if_pos hl] at h;cases h
theorem blurK_le {B:BF} {l:List Int} {t:Ty} {p:Int} {q:Nat} {S:St}:∀ (j k:Nat),(blurK B l t p q (k+j) S).isSome=true→(blurK B l t p q k S).isSome=true
  | 0,k,h=>h
  | j+1,k,h=>by
    refine blurK_le j k ?_
    rw [← Nat.add_assoc,blurK] at h
    split at h
    · rename_i e;rw [e];rfl
    · cases h
theorem blurK_yes {B:BF} {l:List Int} {t:Ty} {p:Int} {q k:Nat} {S T:St} {ns:List (List UInt8)} {ks:List Ty} {R:List (List UInt8)×List Ty×St} (hR:blurK B l t p q t.names.length S=some R) (h:blurK B l t p q k S=some (ns,ks,T)) (hk:k<t.names.length) (hc:p > 3∨pickI l (q+5+k) 2=0) :
    ∃ r T',B T (t.kids.getD k Ty.zero) (q+2+2 * k)=some (r,T')∧blurK B l t p q (k+1) S=some (ns++[t.names.getD k []],ks++[r],T'):=by
  have hs:=blurK_le (B:=B) (l:=l) (t:=t) (p:=p) (q:=q) (S:=S) (t.names.length - (k+1)) (k+1) (by rw [show k+1+(t.names.length - (k+1))=t.names.length by omega,hR];rfl)
  rw [blurK,h] at hs ⊢
  simp only [if_pos hc] at hs ⊢
  split at hs
  · rename_i r T' hb;exact ⟨r,T',hb,rfl⟩
  · cases hs
theorem blurK_no {B:BF} {l:List Int} {t:Ty} {p:Int} {q k:Nat} {S T:St} {ns:List (List UInt8)} {ks:List Ty} (h:blurK B l t p q k S=some (ns,ks,T)) (hc:¬ (p > 3∨pickI l (q+5+k) 2=0)):blurK B l t p q (k+1) S=some (ns,ks,T):=by
  rw [blurK,h];simp only [if_neg hc]
theorem blurK_len {B:BF} {l:List Int} {t:Ty} {p:Int} {q:Nat} {S:St}:∀ {k:Nat} {ns:List (List UInt8)} {ks:List Ty} {T:St},blurK B l t p q k S=some (ns,ks,T)→ns.length≤k∧ks.length≤k
  | 0,ns,ks,T,h=>by cases h;simp
  | k+1,ns,ks,T,h=>by
    rw [blurK] at h
    split at h <;> try (cases h;done)
    rename_i hb
    have ih:=blurK_len hb
    split at h
    · split at h <;> cases h
      simp only [List.length_append,List.length_cons,List.length_nil];omega
    · cases h;omega
theorem sz_step {t:Ty} {k:Nat} (hk:k<t.names.length) (hkk:k<t.kids.length):(t.kids.getD k Ty.zero).sz+t.names.length+2≤t.sz:=by
  have e:=sz_eq t
  have h1:=szS_len t.names
  have h2:=szL_getD t.kids k hkk
  omega
noncomputable def c22:Code:=bodyOf Tryz.f22
theorem blur_S (l:List Int) (n q:Nat) (t r:Ty) (lv:Int) (m m':St) (hl:i64L l) (hs:t.sz<100000000) (hq:q+3 * t.sz<1000000000) (hb:blurF l lv n m t q=some (r,m')):CallsA cx 22 [.ptr 0 0,Ty.v t,.imm (l.map (AVal.int .i64)),.int .i64 ((q:Nat):Int)] (hpS lv m) (fun v h=>v=(Ty.v r)∧h=hpS lv m'):=by
 induction n generalizing m m' t q r with
 | zero=>simp [blurF] at hb
 | succ n ih =>
 have ihB:∀ (S T:St) (x:Ty) (z:Nat) (r:Ty),x.sz<100000000→z+3 * x.sz<1000000000→blurF l lv n S x z=some (r,T)→CallsA cx 22 [.ptr 0 0,Ty.v x,.imm (l.map (AVal.int .i64)),.int .i64 ((z:Nat):Int)] (hpS lv S) (fun v h=>v=r.v∧h=hpS lv T):=fun S T x z r h1 h2 h3=>ih z x r S T h1 h2 h3
 obtain ⟨n0,en,u1,u2⟩:=blur_split hb
 obtain rfl:n=n0:=by omega
 have hr00:∃ r0,¬ pickI l q 6=0→t.kind=4∧t.kids.length=1→blurF l lv n m (t.kids.getD 0 Ty.zero) (q+1)=some (r0,m')∧lsT r0=r:=by
   by_cases hc:¬ pickI l q 6=0∧t.kind=4∧t.kids.length=1
   · obtain ⟨r0,h0⟩:=(u2 hc.1).1 hc.2;exact ⟨r0,fun _ _=>h0⟩
   · exact ⟨Ty.zero,fun h1 h2=>absurd ⟨h1,h2⟩ hc⟩
 obtain ⟨r0,hr0⟩:=hr00
 have hz1:=sz_names t
 have hz2:=sz_kids t
 have hz3:∀ k,k<t.kids.length→(t.kids.getD k Ty.zero).sz<t.sz:=fun k hk=>sz_kid t k hk
 have hz4:=hz3 0
 have hpk:=pickI_bd l q 6 dq
 refine func_intro (cx:=cx) 100 2 [(ResultVar.cell 8 25)] Tryz.func22 rfl rfl rfl rfl rfl zq ?_
 show wpA cx 100 2 (at_ c22 []) _ _ _
 refine qZ [(0,.ptr 0 0),(1,Ty.v t),(2,.imm (l.map (AVal.int .i64))),(3,nI q)] [bS lv,mS m] ?_ ?_
 refine qW 2 [(0,.ptr 0 0),(2,.imm (l.map (AVal.int .i64))),(3,nI q),(5,.ptr 2 0),(8,.ptr 3 0)] [bS lv,mS m,t.bx,.box zC] ?_ ?_
 refine qV 2 ?_ ?_
 refine vcallP (args:=[.imm (l.map (AVal.int .i64)),.int .i64 ((q:Nat):Int),.int .i64 6]) kq kq kq kq (pick_spec l q 6 oq oq) (by simp [Ty.v,frzL_app,Occ.v]) (by simp [Ty.v]) (by simp [Ty.v,ownsL_app]) ?_
 have hv1:=pickI_bd l q 6 dq
 refine qR 1 [(0,.ptr 0 0),(2,.imm (l.map (AVal.int .i64))),(3,nI q),(5,.ptr 2 0),(8,.ptr 3 0),(9,.int .i64 (pickI l q 6))] [bS lv,mS m,t.bx,.box zC] ?_ ?_
 refine qSeq ?_ ?_
 refine qU 2 [(0,.ptr 0 0),(2,.imm (l.map (AVal.int .i64))),(3,nI q),(5,.ptr 2 0),(8,.ptr 3 0),(9,.int .i64 (pickI l q 6)),(19,.bool ((pickI l q 6)==0))] ?_ ?_
 by_cases hb2:(pickI l q 6)=0
 refine qt (beq_iff_eq.2 hb2) ?_ ?_
 refine qV 1 ?_ ?_
 refine vcallA (args:=[.ptr 0 0]) (hs:=[bS lv,mS m]) (hs':=[.box [.int .i64 ((lv)),.map 1],mS (mset ((((m.length+1):Nat):Int)) ⟨false,(lv),false,Ty.zero,[]⟩ m)]) (rest:=[t.bx,.box zC]) kq kq kq kq kq (var_spec (lv) m (u1 oq).1) (by simp [AObj.belO,hpS,Ty.v]) (by simp [AObj.belO,hpS,Ty.v]) rfl (by simp [AObj.belO,hpS,Ty.v]) (by simp [AObj.belO,hpS,Ty.v]) kq ?_
 refine qR 1 [(8,.ptr 3 0)] [.box [.int .i64 ((lv)),.map 1],mS (mset ((((m.length+1):Nat):Int)) ⟨false,(lv),false,Ty.zero,[]⟩ m),t.bx,.box [.int .i64 6,.str [],nI (m.length+1),.imm [],.imm []]] ?_ ?_
 refine wRet kq ?_
 apply aR
 refine leafA (l:=[.agg [.int .i64 6,.str [],.int .i64 (((m.length+1):Nat):Int),.imm [],.imm []]]) (.inr rfl) kq (by have e:=(u1 oq).2;rw [← e.1];simp [awrap,AVal.frz,frzL,Ty.v]) (by simp [awrap]) (by simp [awrap]) ?_ ?_
 refine Eq.trans (b:=[.box [.int .i64 ((lv)),.map 1],mS (mset ((((m.length+1):Nat):Int)) ⟨false,(lv),false,Ty.zero,[]⟩ m)]) kq ?_
 · have e:=(u1 oq).2
   rw [← e.2];rfl
 · simp [AObj.belO,hpS,Ty.v]
 iterate 3 kernel_rfl
 refine qf (beq_eq_false_iff_ne.2 hb2) ?_ ?_
 refine qK ?_ ?_
 refine qz [(0,.ptr 0 0),(2,.imm (l.map (AVal.int .i64))),(3,nI q),(5,.ptr 2 0),(8,.ptr 3 0),(9,.int .i64 (pickI l q 6))] ?_ ?_
 refine qSeq ?_ ?_
 refine qV 4 ?_ ?_
 by_cases hb3:(t.kind)=4
 refine qm [24,25] (beq_iff_eq.2 hb3) ?_ ?_
 refine qr 2 ?_ ?_
 refine qy (o_lenmap (l:=t.kids) (enc:=Ty.enc) kq ty23) ?_ ?_ ?_
 refine qR 2 [(0,.ptr 0 0),(2,.imm (l.map (AVal.int .i64))),(3,nI q),(5,.ptr 2 0),(8,.ptr 3 0),(9,.int .i64 (pickI l q 6)),(30,.bool (((t.kids.length:Nat):Int)==1))] [bS lv,mS m,t.bx,.box zC] ?_ ?_
 by_cases hb4:((t.kids.length:Nat):Int)=1
 refine qt (beq_iff_eq.2 hb4) ?_ ?_
 refine qV 3 ?_ ?_
 refine qy ((o_ixmap (k:=.i64) (l:=t.kids) (enc:=Ty.enc) (i:=0) Ty.zero kq ty23 ty25 ty_size oq oq).trans (congrArg (fun cs=>some (AVal.pimm cs 0,_)) (ty_cells (t.kids.getD 0 Ty.zero)))) ?_ ?_ ?_
 refine qr 3 ?_ ?_
 refine qy (o_add (a:=((q:Nat):Int)) (b:=1) kq oq oq) ?_ ?_ ?_
 refine vcallA (args:=[.ptr 0 0,.agg [.int .i64 ((t.kids.getD 0 Ty.zero).kind),.str (t.kids.getD 0 Ty.zero).name,.int .i64 ((t.kids.getD 0 Ty.zero).n),.imm ((t.kids.getD 0 Ty.zero).names.map AVal.str),.imm ((t.kids.getD 0 Ty.zero).kids.map Ty.enc)],.imm (l.map (AVal.int .i64)),.int .i64 (((q+1):Nat):Int)]) (hs:=[bS lv,mS m]) (hs':=[.box [.int .i64 ((lv)),.map 1],mS m']) (rest:=[t.bx,.box zC]) kq kq kq kq kq (ihB m m' (t.kids.getD 0 Ty.zero) (q+1) r0 oq oq (hr0 oq oq).1) (by simp [AObj.belO,hpS,Ty.v]) (by simp [AObj.belO,hpS,Ty.v]) rfl (by simp [AObj.belO,hpS,Ty.v]) (by simp [AObj.belO,hpS,Ty.v]) kq ?_
 refine vcallP (args:=[Ty.v r0]) kq kq kq kq (list_spec r0) (by simp [Ty.v,frzL_app,Occ.v]) (by simp [Ty.v]) (by simp [Ty.v,ownsL_app]) ?_
 refine qR 1 [(8,.ptr 3 0)] [.box [.int .i64 ((lv)),.map 1],mS m',t.bx,(lsT r0).bx] ?_ ?_
 refine wRet kq ?_
 apply aR
 refine leafA (l:=[.agg [.int .i64 ((lsT r0).kind),.str (lsT r0).name,.int .i64 ((lsT r0).n),.imm ((lsT r0).names.map AVal.str),.imm ((lsT r0).kids.map Ty.enc)]]) (.inr rfl) kq (by rw [← (hr0 oq oq).2];simp [awrap,AVal.frz,frzL,Ty.v]) (by simp [awrap]) (by simp [awrap]) ?_ ?_
 refine Eq.trans (b:=[.box [.int .i64 ((lv)),.map 1],mS m']) kq ?_
 · rfl
 · simp [AObj.belO,hpS,Ty.v]
 iterate 8 kernel_rfl
 refine qf (beq_eq_false_iff_ne.2 hb4) ?_ ?_
 refine qK ?_ ?_
 refine qz [(0,.ptr 0 0),(2,.imm (l.map (AVal.int .i64))),(3,nI q),(5,.ptr 2 0),(8,.ptr 3 0),(9,.int .i64 (pickI l q 6))] ?_ ?_
 refine qSeq ?_ ?_
 refine qU 3 [(0,.ptr 0 0),(2,.imm (l.map (AVal.int .i64))),(3,nI q),(5,.ptr 2 0),(8,.ptr 3 0),(9,.int .i64 (pickI l q 6)),(43,.bool ((t.kind) != 5))] ?_ ?_
 by_cases hb5:(t.kind)=5
 refine qf (x:=((t.kind) != 5)) (bne_eq_false_iff_eq.2 hb5) ?_ ?_
 refine qK ?_ ?_
 refine qz [(0,.ptr 0 0),(2,.imm (l.map (AVal.int .i64))),(3,nI q),(5,.ptr 2 0),(8,.ptr 3 0),(9,.int .i64 (pickI l q 6))] ?_ ?_
 refine qU 1 [(0,.ptr 0 0),(2,.imm (l.map (AVal.int .i64))),(3,nI q),(5,.ptr 2 0),(8,.ptr 3 0),(9,.int .i64 (pickI l q 6)),(10,.full [])] ?_ ?_
 refine qU 1 [(0,.ptr 0 0),(2,.imm (l.map (AVal.int .i64))),(3,nI q),(5,.ptr 2 0),(8,.ptr 3 0),(9,.int .i64 (pickI l q 6)),(10,.full []),(11,.full [])] ?_ ?_
 refine qSeq ?_ ?_
 refine qU 1 [(0,.ptr 0 0),(2,.imm (l.map (AVal.int .i64))),(3,nI q),(5,.ptr 2 0),(8,.ptr 3 0),(9,.int .i64 (pickI l q 6)),(10,.full []),(11,.full []),(12,.int .i64 0)] ?_ ?_
 obtain ⟨hlen,nsF,ksF,SF,hKF,hF1,hF2⟩:=((u2 oq).2 oq).2 oq
 refine qz [(0,.ptr 0 0),(2,.imm (l.map (AVal.int .i64))),(3,nI q),(5,.ptr 2 0),(8,.ptr 3 0),(9,.int .i64 (pickI l q 6)),(10,.full []),(11,.full []),(12,.int .i64 0)] ?_ ?_
 refine qB 0 ?_ ?_ ?_
 refine wOwn 10 1 dq kq ?_
 refine wOwn 11 5 dq kq ?_
 refine qZ [(0,.ptr 0 0),(2,.imm (l.map (AVal.int .i64))),(3,nI q),(5,.ptr 2 0),(8,.ptr 3 0),(9,.int .i64 (pickI l q 6)),(10,.own 4 0 0),(11,.own 5 0 0),(12,.int .i64 0)] [bS lv,mS m,t.bx,.box zC,.arr 1 (([]:List (List UInt8)).map AVal.str) 0,.arr 5 (([]:List (Ty)).map Ty.enc) 0] ?_ ?_
 refine wLoop (σ:=(Nat×List (List UInt8)×List Ty×St)) (fun ⟨k,ns,ks,S⟩=>[(0,.ptr 0 0),(2,.imm (l.map (AVal.int .i64))),(3,.int .i64 ((q:Nat):Int)),(5,.ptr 2 0),(8,.ptr 3 0),(9,.int .i64 (pickI l q 6)),(10,.own 4 0 ns.length),(11,.own 5 0 ks.length),(12,.int .i64 ((k:Nat):Int))]) (fun ⟨k,ns,ks,S⟩=>[bS lv,mS S,t.bx,.box zC,.arr 1 (ns.map AVal.str) 0,.arr 5 (ks.map Ty.enc) 0]) (fun ⟨k,ns,ks,S⟩=>k≤t.names.length∧blurK (blurF l lv n) l t (pickI l q 6) q k m=some (ns,ks,S)) (fun ⟨k,ns,ks,S⟩=>t.names.length - k) (0,([]:List (List UInt8)),([]:List Ty),m) kq (by exact ⟨Nat.zero_le _,rfl⟩) ⟨⟨kq,kq,kq,kq,kq,kq,kq,kq,kq,trivial⟩,by simp [BelL,AVal.bel],by simp,kq,by simp [AObj.belO,belL_app,Ty.enc_v]⟩ ?_
 rintro ⟨k,ns,ks,S⟩ ⟨hk,hK⟩
 have hbl:=blurK_len hK
 refine qZ [(0,.ptr 0 0),(2,.imm (l.map (AVal.int .i64))),(3,nI q),(5,.ptr 2 0),(8,.ptr 3 0),(9,.int .i64 (pickI l q 6)),(10,.own 4 0 ns.length),(11,.own 5 0 ks.length),(12,nI k)] [bS lv,mS S,t.bx,.box zC,.arr 1 (ns.map AVal.str) 0,.arr 5 (ks.map Ty.enc) 0] ?_ ?_
 refine qSeq ?_ ?_
 refine qV 3 ?_ ?_
 refine qy (o_lenmap (l:=t.names) (enc:=AVal.str) kq ty22) ?_ ?_ ?_
 refine qR 1 [(0,.ptr 0 0),(2,.imm (l.map (AVal.int .i64))),(3,nI q),(5,.ptr 2 0),(8,.ptr 3 0),(9,.int .i64 (pickI l q 6)),(10,.own 4 0 ns.length),(11,.own 5 0 ks.length),(12,nI k),(49,.bool (decide (((k:Nat):Int)<((t.names.length:Nat):Int))))] [bS lv,mS S,t.bx,.box zC,.arr 1 (ns.map AVal.str) 0,.arr 5 (ks.map Ty.enc) 0] ?_ ?_
 by_cases hb6:((k:Nat):Int)<((t.names.length:Nat):Int)
 refine qt (decide_eq_true hb6) ?_ ?_
 refine qK ?_ ?_
 refine qz [(0,.ptr 0 0),(2,.imm (l.map (AVal.int .i64))),(3,nI q),(5,.ptr 2 0),(8,.ptr 3 0),(9,.int .i64 (pickI l q 6)),(10,.own 4 0 ns.length),(11,.own 5 0 ks.length),(12,nI k)] ?_ ?_
 refine qSeq ?_ ?_
 refine qB 1 ?_ ?_ ?_
 refine qV 3 ?_ ?_
 by_cases hb7:(pickI l q 6) > 3
 refine qm [53,54] (decide_eq_true hb7) ?_ ?_
 refine qR 8 [(0,.ptr 0 0),(2,.imm (l.map (AVal.int .i64))),(3,nI q),(5,.ptr 2 0),(8,.ptr 3 0),(9,.int .i64 (pickI l q 6)),(10,.own 4 0 ns.length),(11,.own 5 0 ks.length),(12,nI k),(55,.tup []),(56,.tup []),(57,.tup []),(58,.tup []),(59,.tup []),(60,.tup []),(61,.tup []),(62,.bool true)] [bS lv,mS S,t.bx,.box zC,.arr 1 (ns.map AVal.str) 0,.arr 5 (ks.map Ty.enc) 0] ?_ ?_
 refine wIfT kq kq ?_
 refine qV 4 ?_ ?_
 refine qy (o_ixmap (k:=.i64) (l:=t.names) (enc:=AVal.str) (i:=((k:Nat):Int)) [] kq ty22 ty9 (fun _=>rfl) oq oq) ?_ ?_ ?_
 refine qr 2 ?_ ?_
 refine qY (o_appmap (o:=4) (len:=ns.length) (l:=ns) (xs:=[(t.names.getD k [])]) (enc:=AVal.str) (sz:=1) (fr:=0) (x:=(.full [.str (t.names.getD k [])])) kq ty22 ty9 ty22 rfl kq rfl rfl kq ⟨by decide,by kernel_rfl⟩ (fun _=>rfl) (by simp only [List.length_append,List.length_cons,List.length_nil];omega) (by simp only [List.length_append,List.length_cons,List.length_nil];omega)) ?_ ?_ ?_
 refine qR 1 [(0,.ptr 0 0),(2,.imm (l.map (AVal.int .i64))),(3,nI q),(5,.ptr 2 0),(8,.ptr 3 0),(9,.int .i64 (pickI l q 6)),(10,.own 4 0 (ns++[(t.names.getD k [])]).length),(11,.own 5 0 ks.length),(12,nI k),(55,.tup []),(56,.tup []),(57,.tup []),(58,.tup []),(59,.tup []),(60,.tup []),(61,.tup [])] [bS lv,mS S,t.bx,.box zC,.arr 1 ((ns++[(t.names.getD k [])]).map AVal.str) 0,.arr 5 (ks.map Ty.enc) 0] ?_ ?_
 obtain ⟨rB,SB,hB,hB2⟩:=blurK_yes hKF hK oq oq
 have hstp:=sz_step (t:=t) (k:=k) oq oq
 refine qz [(0,.ptr 0 0),(2,.imm (l.map (AVal.int .i64))),(3,nI q),(5,.ptr 2 0),(8,.ptr 3 0),(9,.int .i64 (pickI l q 6)),(10,.own 4 0 (ns++[(t.names.getD k [])]).length),(11,.own 5 0 ks.length),(12,nI k),(55,.tup []),(56,.tup []),(57,.tup []),(58,.tup []),(59,.tup []),(60,.tup []),(61,.tup [])] ?_ ?_
 refine qo ?_ ?_
 refine qr 5 ?_ ?_
 refine qy ((o_ixmap (k:=.i64) (l:=t.kids) (enc:=Ty.enc) (i:=((k:Nat):Int)) Ty.zero kq ty23 ty25 ty_size oq oq).trans (congrArg (fun cs=>some (AVal.pimm cs 0,_)) (ty_cells (t.kids.getD k Ty.zero)))) ?_ ?_ ?_
 refine qr 3 ?_ ?_
 refine qy (o_add (a:=((q:Nat):Int)) (b:=2) kq oq oq) ?_ ?_ ?_
 refine qr 1 ?_ ?_
 refine qy (o_mul (a:=2) (b:=((k:Nat):Int)) kq oq oq) ?_ ?_ ?_
 refine qy (o_add (a:=(((q+2):Nat):Int)) (b:=(((2 * k):Nat):Int)) kq oq oq) ?_ ?_ ?_
 refine vcallA (args:=[.ptr 0 0,.agg [.int .i64 ((t.kids.getD k Ty.zero).kind),.str (t.kids.getD k Ty.zero).name,.int .i64 ((t.kids.getD k Ty.zero).n),.imm ((t.kids.getD k Ty.zero).names.map AVal.str),.imm ((t.kids.getD k Ty.zero).kids.map Ty.enc)],.imm (l.map (AVal.int .i64)),.int .i64 ((((q+2)+(2 * k)):Nat):Int)]) (hs:=[bS lv,mS S]) (hs':=[.box [.int .i64 ((lv)),.map 1],mS SB]) (rest:=[t.bx,.box zC,.arr 1 ((ns++[(t.names.getD k [])]).map AVal.str) 0,.arr 5 (ks.map Ty.enc) 0]) kq kq kq kq kq (ihB S SB (t.kids.getD k Ty.zero) ((q+2)+(2 * k)) rB oq oq hB) (by simp [AObj.belO,hpS,Ty.v]) (by simp [AObj.belO,hpS,Ty.v]) rfl (by simp [AObj.belO,hpS,Ty.v]) (by simp [AObj.belO,hpS,Ty.v]) kq ?_
 refine qr 1 ?_ ?_
 refine qY (o_appmap (o:=5) (len:=ks.length) (l:=ks) (xs:=[rB]) (enc:=Ty.enc) (sz:=5) (fr:=0) (x:=(.full [Ty.v rB])) kq ty23 ty25 ty23 rfl kq rfl rfl (Eq.trans (b:=some [Ty.v rB]) kq (by simp [Ty.enc_v])) ⟨by decide,by kernel_rfl⟩ ty_ok (by simp only [List.length_append,List.length_cons,List.length_nil];omega) (by simp only [List.length_append,List.length_cons,List.length_nil];omega)) ?_ ?_ ?_
 refine qr 1 ?_ ?_
 refine qe ?_ ?_
 refine AIn_normal ?_
 refine AThen_normal ?_
 refine qZ [(0,.ptr 0 0),(2,.imm (l.map (AVal.int .i64))),(3,nI q),(5,.ptr 2 0),(8,.ptr 3 0),(9,.int .i64 (pickI l q 6)),(10,.own 4 0 (ns++[(t.names.getD k [])]).length),(11,.own 5 0 (ks++[rB]).length),(12,nI k),(55,.tup []),(56,.tup []),(57,.tup []),(58,.tup []),(59,.tup []),(60,.tup []),(61,.tup [])] [.box [.int .i64 ((lv)),.map 1],mS SB,t.bx,.box zC,.arr 1 ((ns++[(t.names.getD k [])]).map AVal.str) 0,.arr 5 ((ks++[rB]).map Ty.enc) 0] ?_ ?_
 refine qo ?_ ?_
 refine qr 1 ?_ ?_
 refine qy (o_add (a:=((k:Nat):Int)) (b:=1) kq oq oq) ?_ ?_ ?_
 refine qr 1 ?_ ?_
 refine qe ?_ ?_
 refine AThen_normal ⟨(k+1,(ns++[(t.names.getD k [])]),(ks++[rB]),SB),?_,?_,⟨⟨kq,kq,kq,kq,kq,kq,kq,kq,kq,trivial⟩,by simp [BelL,AVal.bel],by simp,kq,by simp [AObj.belO,belL_app,Ty.enc_v]⟩⟩
 · try dsimp only
   omega
 rotate_left
 iterate 34 kernel_rfl
 refine qm [53,54] (decide_eq_false hb7) ?_ ?_
 refine qr 2 ?_ ?_
 refine qy (o_add (a:=((q:Nat):Int)) (b:=5) kq oq oq) ?_ ?_ ?_
 refine qr 1 ?_ ?_
 refine qy (o_add (a:=(((q+5):Nat):Int)) (b:=((k:Nat):Int)) kq oq oq) ?_ ?_ ?_
 refine vcallP (args:=[.imm (l.map (AVal.int .i64)),.int .i64 ((((q+5)+k):Nat):Int),.int .i64 2]) kq kq kq kq (pick_spec l ((q+5)+k) 2 oq oq) (by simp [Ty.v,frzL_app,Occ.v]) (by simp [Ty.v]) (by simp [Ty.v,ownsL_app]) ?_
 have hv8:=pickI_bd l ((q+5)+k) 2 dq
 refine qR 2 [(0,.ptr 0 0),(2,.imm (l.map (AVal.int .i64))),(3,nI q),(5,.ptr 2 0),(8,.ptr 3 0),(9,.int .i64 (pickI l q 6)),(10,.own 4 0 ns.length),(11,.own 5 0 ks.length),(12,nI k),(55,.imm (l.map (AVal.int .i64))),(56,nI q),(57,nI (q+5)),(58,nI k),(59,nI (((q+5)+k))),(60,.int .i64 (pickI l ((q+5)+k) 2)),(61,.bool ((pickI l ((q+5)+k) 2)==0)),(62,.bool ((pickI l ((q+5)+k) 2)==0))] [bS lv,mS S,t.bx,.box zC,.arr 1 (ns.map AVal.str) 0,.arr 5 (ks.map Ty.enc) 0] ?_ ?_
 by_cases hb9:(pickI l ((q+5)+k) 2)=0
 refine qt (beq_iff_eq.2 hb9) ?_ ?_
 refine qV 4 ?_ ?_
 refine qy (o_ixmap (k:=.i64) (l:=t.names) (enc:=AVal.str) (i:=((k:Nat):Int)) [] kq ty22 ty9 (fun _=>rfl) oq oq) ?_ ?_ ?_
 refine qr 2 ?_ ?_
 refine qY (o_appmap (o:=4) (len:=ns.length) (l:=ns) (xs:=[(t.names.getD k [])]) (enc:=AVal.str) (sz:=1) (fr:=0) (x:=(.full [.str (t.names.getD k [])])) kq ty22 ty9 ty22 rfl kq rfl rfl kq ⟨by decide,by kernel_rfl⟩ (fun _=>rfl) (by simp only [List.length_append,List.length_cons,List.length_nil];omega) (by simp only [List.length_append,List.length_cons,List.length_nil];omega)) ?_ ?_ ?_
 refine qR 1 [(0,.ptr 0 0),(2,.imm (l.map (AVal.int .i64))),(3,nI q),(5,.ptr 2 0),(8,.ptr 3 0),(9,.int .i64 (pickI l q 6)),(10,.own 4 0 (ns++[(t.names.getD k [])]).length),(11,.own 5 0 ks.length),(12,nI k),(55,.imm (l.map (AVal.int .i64))),(56,nI q),(57,nI (q+5)),(58,nI k),(59,nI (((q+5)+k))),(60,.int .i64 (pickI l ((q+5)+k) 2)),(61,.bool ((pickI l ((q+5)+k) 2)==0))] [bS lv,mS S,t.bx,.box zC,.arr 1 ((ns++[(t.names.getD k [])]).map AVal.str) 0,.arr 5 (ks.map Ty.enc) 0] ?_ ?_
 obtain ⟨rB,SB,hB,hB2⟩:=blurK_yes hKF hK oq oq
 have hstp:=sz_step (t:=t) (k:=k) oq oq
 refine qz [(0,.ptr 0 0),(2,.imm (l.map (AVal.int .i64))),(3,nI q),(5,.ptr 2 0),(8,.ptr 3 0),(9,.int .i64 (pickI l q 6)),(10,.own 4 0 (ns++[(t.names.getD k [])]).length),(11,.own 5 0 ks.length),(12,nI k),(55,.imm (l.map (AVal.int .i64))),(56,nI q),(57,nI (q+5)),(58,nI k),(59,nI (((q+5)+k))),(60,.int .i64 (pickI l ((q+5)+k) 2)),(61,.bool ((pickI l ((q+5)+k) 2)==0))] ?_ ?_
 refine qo ?_ ?_
 refine qr 5 ?_ ?_
 refine qy ((o_ixmap (k:=.i64) (l:=t.kids) (enc:=Ty.enc) (i:=((k:Nat):Int)) Ty.zero kq ty23 ty25 ty_size oq oq).trans (congrArg (fun cs=>some (AVal.pimm cs 0,_)) (ty_cells (t.kids.getD k Ty.zero)))) ?_ ?_ ?_
 refine qr 3 ?_ ?_
 refine qy (o_add (a:=((q:Nat):Int)) (b:=2) kq oq oq) ?_ ?_ ?_
 refine qr 1 ?_ ?_
 refine qy (o_mul (a:=2) (b:=((k:Nat):Int)) kq oq oq) ?_ ?_ ?_
 refine qy (o_add (a:=(((q+2):Nat):Int)) (b:=(((2 * k):Nat):Int)) kq oq oq) ?_ ?_ ?_
 refine vcallA (args:=[.ptr 0 0,.agg [.int .i64 ((t.kids.getD k Ty.zero).kind),.str (t.kids.getD k Ty.zero).name,.int .i64 ((t.kids.getD k Ty.zero).n),.imm ((t.kids.getD k Ty.zero).names.map AVal.str),.imm ((t.kids.getD k Ty.zero).kids.map Ty.enc)],.imm (l.map (AVal.int .i64)),.int .i64 ((((q+2)+(2 * k)):Nat):Int)]) (hs:=[bS lv,mS S]) (hs':=[.box [.int .i64 ((lv)),.map 1],mS SB]) (rest:=[t.bx,.box zC,.arr 1 ((ns++[(t.names.getD k [])]).map AVal.str) 0,.arr 5 (ks.map Ty.enc) 0]) kq kq kq kq kq (ihB S SB (t.kids.getD k Ty.zero) ((q+2)+(2 * k)) rB oq oq hB) (by simp [AObj.belO,hpS,Ty.v]) (by simp [AObj.belO,hpS,Ty.v]) rfl (by simp [AObj.belO,hpS,Ty.v]) (by simp [AObj.belO,hpS,Ty.v]) kq ?_
 refine qr 1 ?_ ?_
 refine qY (o_appmap (o:=5) (len:=ks.length) (l:=ks) (xs:=[rB]) (enc:=Ty.enc) (sz:=5) (fr:=0) (x:=(.full [Ty.v rB])) kq ty23 ty25 ty23 rfl kq rfl rfl (Eq.trans (b:=some [Ty.v rB]) kq (by simp [Ty.enc_v])) ⟨by decide,by kernel_rfl⟩ ty_ok (by simp only [List.length_append,List.length_cons,List.length_nil];omega) (by simp only [List.length_append,List.length_cons,List.length_nil];omega)) ?_ ?_ ?_
 refine qr 1 ?_ ?_
 refine qe ?_ ?_
 refine AIn_normal ?_
 refine AThen_normal ?_
 refine qZ [(0,.ptr 0 0),(2,.imm (l.map (AVal.int .i64))),(3,nI q),(5,.ptr 2 0),(8,.ptr 3 0),(9,.int .i64 (pickI l q 6)),(10,.own 4 0 (ns++[(t.names.getD k [])]).length),(11,.own 5 0 (ks++[rB]).length),(12,nI k),(55,.imm (l.map (AVal.int .i64))),(56,nI q),(57,nI (q+5)),(58,nI k),(59,nI (((q+5)+k))),(60,.int .i64 (pickI l ((q+5)+k) 2)),(61,.bool ((pickI l ((q+5)+k) 2)==0))] [.box [.int .i64 ((lv)),.map 1],mS SB,t.bx,.box zC,.arr 1 ((ns++[(t.names.getD k [])]).map AVal.str) 0,.arr 5 ((ks++[rB]).map Ty.enc) 0] ?_ ?_
 refine qo ?_ ?_
 refine qr 1 ?_ ?_
 refine qy (o_add (a:=((k:Nat):Int)) (b:=1) kq oq oq) ?_ ?_ ?_
 refine qr 1 ?_ ?_
 refine qe ?_ ?_
 refine AThen_normal ⟨(k+1,(ns++[(t.names.getD k [])]),(ks++[rB]),SB),?_,?_,⟨⟨kq,kq,kq,kq,kq,kq,kq,kq,kq,trivial⟩,by simp [BelL,AVal.bel],by simp,kq,by simp [AObj.belO,belL_app,Ty.enc_v]⟩⟩
 · try dsimp only
   omega
 rotate_left
 iterate 33 kernel_rfl
 refine qf (beq_eq_false_iff_ne.2 hb9) ?_ ?_
 refine qk ?_ ?_
 refine AIn_normal ?_
 refine AThen_normal ?_
 refine qz [(0,.ptr 0 0),(2,.imm (l.map (AVal.int .i64))),(3,nI q),(5,.ptr 2 0),(8,.ptr 3 0),(9,.int .i64 (pickI l q 6)),(10,.own 4 0 ns.length),(11,.own 5 0 ks.length),(12,nI k),(55,.imm (l.map (AVal.int .i64))),(56,nI q),(57,nI (q+5)),(58,nI k),(59,nI (((q+5)+k))),(60,.int .i64 (pickI l ((q+5)+k) 2)),(61,.bool ((pickI l ((q+5)+k) 2)==0))] ?_ ?_
 refine qo ?_ ?_
 refine qr 1 ?_ ?_
 refine qy (o_add (a:=((k:Nat):Int)) (b:=1) kq oq oq) ?_ ?_ ?_
 refine qr 1 ?_ ?_
 refine qe ?_ ?_
 refine AThen_normal ⟨(k+1,ns,ks,S),?_,?_,⟨⟨kq,kq,kq,kq,kq,kq,kq,kq,kq,trivial⟩,by simp [BelL,AVal.bel],by simp,kq,by simp [AObj.belO,belL_app,Ty.enc_v]⟩⟩
 · try dsimp only
   omega
 rotate_left
 iterate 24 kernel_rfl
 refine qf (decide_eq_false hb6) ?_ ?_
 refine wExit 0 kq kq ?_
 refine AThen_exit ?_
 refine AThen_exit ?_
 refine AIn_exit ?_
 refine AThen_normal ?_
 refine qz [(0,.ptr 0 0),(8,.ptr 3 0),(9,.int .i64 (pickI l q 6)),(10,.own 4 0 ns.length),(11,.own 5 0 ks.length)] ?_ ?_
 refine wFrzS 10 4 (es:=(ns.map AVal.str)) (off:=0) (len:=ns.length) (sz:=1) (fr:=0) (ns.map AVal.str) kq kq zq kq ?_
 refine wFrzS 11 5 (es:=(ks.map Ty.enc)) (off:=0) (len:=ks.length) (sz:=5) (fr:=0) (ks.map Ty.enc) kq kq zq kq ?_
 refine qZ [(0,.ptr 0 0),(8,.ptr 3 0),(9,.int .i64 (pickI l q 6)),(10,.imm (ns.map AVal.str)),(11,.imm (ks.map Ty.enc))] [bS lv,mS S,t.bx,.box zC,.arr 1 (ns.map AVal.str) (ns.map AVal.str).length,.arr 5 (ks.map Ty.enc) (ks.map Ty.enc).length] ?_ ?_
 refine qSeq ?_ ?_
 refine qU 2 [(0,.ptr 0 0),(8,.ptr 3 0),(10,.imm (ns.map AVal.str)),(11,.imm (ks.map Ty.enc)),(88,.bool (decide ((pickI l q 6) > 4)))] ?_ ?_
 by_cases hb10:(pickI l q 6) > 4
 refine qt (decide_eq_true hb10) ?_ ?_
 refine qW 4 [(8,.ptr 3 0)] [bS lv,mS S,t.bx,.box [.int .i64 5,.str [],.int .i64 0,.imm (ns.map AVal.str),.imm (ks.map Ty.enc)],.arr 1 (ns.map AVal.str) (ns.map AVal.str).length,.arr 5 (ks.map Ty.enc) (ks.map Ty.enc).length] ?_ ?_
 refine wRet kq ?_
 apply aR
 refine leafA (l:=[.agg [.int .i64 5,.str [],.int .i64 0,.imm (ns.map AVal.str),.imm (ks.map Ty.enc)]]) (.inr rfl) kq (by obtain rfl:k=t.names.length:=oq;rw [hKF] at hK;cases hK;have e:=hF1 oq;rw [← e.1];simp [awrap,Ty.v,AVal.frz,frzL,Ty.enc_v,lsT,Ty.kind,Ty.name,Ty.n,Ty.names,Ty.kids]) (by simp [awrap]) (by simp [awrap]) ?_ ?_
 refine Eq.trans (b:=[bS lv,mS S]) kq ?_
 · obtain rfl:k=t.names.length:=oq
   rw [hKF] at hK
   cases hK
   have e:=hF1 oq
   rw [← e.2];rfl
 · simp [AObj.belO,hpS,Ty.v]
 iterate 2 kernel_rfl
 refine qf (decide_eq_false hb10) ?_ ?_
 refine qK ?_ ?_
 refine qz [(0,.ptr 0 0),(8,.ptr 3 0),(10,.imm (ns.map AVal.str)),(11,.imm (ks.map Ty.enc))] ?_ ?_
 have hg:recG S ns ks:=by obtain rfl:k=t.names.length:=oq;rw [hKF] at hK;cases hK;exact (hF2 oq).1
 refine qz [(0,.ptr 0 0),(8,.ptr 3 0),(10,.imm (ns.map AVal.str)),(11,.imm (ks.map Ty.enc))] ?_ ?_
 refine qV 3 ?_ ?_
 refine vcallA (args:=[.ptr 0 0,.imm (ns.map AVal.str),.imm (ks.map Ty.enc)]) (hs:=[bS lv,mS S]) (hs':=[.box [.int .i64 ((lv)),.map 1],mS (rowS (lv) S (recR ns ks 0).names)]) (rest:=[t.bx,.box zC,.arr 1 (ns.map AVal.str) (ns.map AVal.str).length,.arr 5 (ks.map Ty.enc) (ks.map Ty.enc).length]) kq kq kq kq kq (Record_ok ns ks (lv) S hg.n hg.nl hg.kz hg.sm hg.ml hg.ok) (by simp [AObj.belO,hpS,Ty.v]) (by simp [AObj.belO,hpS,Ty.v]) rfl (by simp [AObj.belO,hpS,Ty.v]) (by simp [AObj.belO,hpS,Ty.v]) kq ?_
 refine qR 6 [(8,.ptr 3 0),(13,.ptr 6 0)] [.box [.int .i64 ((lv)),.map 1],mS (rowS (lv) S (recR ns ks 0).names),t.bx,.box zC,.arr 1 (ns.map AVal.str) (ns.map AVal.str).length,.arr 5 (ks.map Ty.enc) (ks.map Ty.enc).length,(recR ns ks (((S.length+1:Nat)):Int)).bx] ?_ ?_
 refine qW 2 [(8,.ptr 3 0)] [.box [.int .i64 ((lv)),.map 1],mS (rowS (lv) S (recR ns ks 0).names),t.bx,(recR ns ks (((S.length+1:Nat)):Int)).bx,.arr 1 (ns.map AVal.str) (ns.map AVal.str).length,.arr 5 (ks.map Ty.enc) (ks.map Ty.enc).length,(recR ns ks (((S.length+1:Nat)):Int)).bx] ?_ ?_
 refine wRet kq ?_
 refine leafA (l:=[.agg [.int .i64 ((recR ns ks (((S.length+1:Nat)):Int)).kind),.str (recR ns ks (((S.length+1:Nat)):Int)).name,.int .i64 ((recR ns ks (((S.length+1:Nat)):Int)).n),.imm ((recR ns ks (((S.length+1:Nat)):Int)).names.map AVal.str),.imm ((recR ns ks (((S.length+1:Nat)):Int)).kids.map Ty.enc)]]) (.inr rfl) kq (by obtain rfl:k=t.names.length:=oq;rw [hKF] at hK;cases hK;have e:=hF2 oq;rw [← e.2.1];simp [awrap,AVal.frz,frzL,Ty.v]) (by simp [awrap]) (by simp [awrap]) ?_ ?_
 refine Eq.trans (b:=[.box [.int .i64 ((lv)),.map 1],mS (rowS (lv) S (recR ns ks 0).names)]) kq ?_
 · obtain rfl:k=t.names.length:=oq
   rw [hKF] at hK
   cases hK
   have e:=hF2 oq
   rw [← e.2.2];rfl
 · simp [AObj.belO,hpS,Ty.v]
 iterate 29 kernel_rfl
 refine qt (x:=((t.kind) != 5)) (bne_iff_ne.2 hb5) ?_ ?_
 refine qW 2 [(8,.ptr 3 0)] [bS lv,mS m,t.bx,t.bx] ?_ ?_
 refine wRet kq ?_
 apply aR
 refine leafA (l:=[.agg [.int .i64 (t.kind),.str t.name,.int .i64 (t.n),.imm (t.names.map AVal.str),.imm (t.kids.map Ty.enc)]]) (.inr rfl) kq (by have e:=((u2 oq).2 oq).1 aq;rw [← e.1];simp [awrap,AVal.frz,frzL,Ty.v]) (by simp [awrap]) (by simp [awrap]) ?_ ?_
 refine Eq.trans (b:=[bS lv,mS m]) kq ?_
 · have e:=((u2 oq).2 oq).1 aq
   rw [← e.2];rfl
 · simp [AObj.belO,hpS,Ty.v]
 iterate 12 kernel_rfl
 refine qm [24,25] (beq_eq_false_iff_ne.2 hb3) ?_ ?_
 refine qR 5 [(0,.ptr 0 0),(2,.imm (l.map (AVal.int .i64))),(3,nI q),(5,.ptr 2 0),(8,.ptr 3 0),(9,.int .i64 (pickI l q 6)),(30,.bool false)] [bS lv,mS m,t.bx,.box zC] ?_ ?_
 refine wIfF kq kq ?_
 refine qK ?_ ?_
 refine qz [(0,.ptr 0 0),(2,.imm (l.map (AVal.int .i64))),(3,nI q),(5,.ptr 2 0),(8,.ptr 3 0),(9,.int .i64 (pickI l q 6))] ?_ ?_
 refine qSeq ?_ ?_
 refine qU 3 [(0,.ptr 0 0),(2,.imm (l.map (AVal.int .i64))),(3,nI q),(5,.ptr 2 0),(8,.ptr 3 0),(9,.int .i64 (pickI l q 6)),(43,.bool ((t.kind) != 5))] ?_ ?_
 by_cases hb11:(t.kind)=5
 refine qf (x:=((t.kind) != 5)) (bne_eq_false_iff_eq.2 hb11) ?_ ?_
 refine qK ?_ ?_
 refine qz [(0,.ptr 0 0),(2,.imm (l.map (AVal.int .i64))),(3,nI q),(5,.ptr 2 0),(8,.ptr 3 0),(9,.int .i64 (pickI l q 6))] ?_ ?_
 refine qU 1 [(0,.ptr 0 0),(2,.imm (l.map (AVal.int .i64))),(3,nI q),(5,.ptr 2 0),(8,.ptr 3 0),(9,.int .i64 (pickI l q 6)),(10,.full [])] ?_ ?_
 refine qU 1 [(0,.ptr 0 0),(2,.imm (l.map (AVal.int .i64))),(3,nI q),(5,.ptr 2 0),(8,.ptr 3 0),(9,.int .i64 (pickI l q 6)),(10,.full []),(11,.full [])] ?_ ?_
 refine qSeq ?_ ?_
 refine qU 1 [(0,.ptr 0 0),(2,.imm (l.map (AVal.int .i64))),(3,nI q),(5,.ptr 2 0),(8,.ptr 3 0),(9,.int .i64 (pickI l q 6)),(10,.full []),(11,.full []),(12,.int .i64 0)] ?_ ?_
 obtain ⟨hlen,nsF,ksF,SF,hKF,hF1,hF2⟩:=((u2 oq).2 oq).2 oq
 refine qz [(0,.ptr 0 0),(2,.imm (l.map (AVal.int .i64))),(3,nI q),(5,.ptr 2 0),(8,.ptr 3 0),(9,.int .i64 (pickI l q 6)),(10,.full []),(11,.full []),(12,.int .i64 0)] ?_ ?_
 refine qB 0 ?_ ?_ ?_
 refine wOwn 10 1 dq kq ?_
 refine wOwn 11 5 dq kq ?_
 refine qZ [(0,.ptr 0 0),(2,.imm (l.map (AVal.int .i64))),(3,nI q),(5,.ptr 2 0),(8,.ptr 3 0),(9,.int .i64 (pickI l q 6)),(10,.own 4 0 0),(11,.own 5 0 0),(12,.int .i64 0)] [bS lv,mS m,t.bx,.box zC,.arr 1 (([]:List (List UInt8)).map AVal.str) 0,.arr 5 (([]:List (Ty)).map Ty.enc) 0] ?_ ?_
 refine wLoop (σ:=(Nat×List (List UInt8)×List Ty×St)) (fun ⟨k,ns,ks,S⟩=>[(0,.ptr 0 0),(2,.imm (l.map (AVal.int .i64))),(3,.int .i64 ((q:Nat):Int)),(5,.ptr 2 0),(8,.ptr 3 0),(9,.int .i64 (pickI l q 6)),(10,.own 4 0 ns.length),(11,.own 5 0 ks.length),(12,.int .i64 ((k:Nat):Int))]) (fun ⟨k,ns,ks,S⟩=>[bS lv,mS S,t.bx,.box zC,.arr 1 (ns.map AVal.str) 0,.arr 5 (ks.map Ty.enc) 0]) (fun ⟨k,ns,ks,S⟩=>k≤t.names.length∧blurK (blurF l lv n) l t (pickI l q 6) q k m=some (ns,ks,S)) (fun ⟨k,ns,ks,S⟩=>t.names.length - k) (0,([]:List (List UInt8)),([]:List Ty),m) kq (by exact ⟨Nat.zero_le _,rfl⟩) ⟨⟨kq,kq,kq,kq,kq,kq,kq,kq,kq,trivial⟩,by simp [BelL,AVal.bel],by simp,kq,by simp [AObj.belO,belL_app,Ty.enc_v]⟩ ?_
 rintro ⟨k,ns,ks,S⟩ ⟨hk,hK⟩
 have hbl:=blurK_len hK
 refine qZ [(0,.ptr 0 0),(2,.imm (l.map (AVal.int .i64))),(3,nI q),(5,.ptr 2 0),(8,.ptr 3 0),(9,.int .i64 (pickI l q 6)),(10,.own 4 0 ns.length),(11,.own 5 0 ks.length),(12,nI k)] [bS lv,mS S,t.bx,.box zC,.arr 1 (ns.map AVal.str) 0,.arr 5 (ks.map Ty.enc) 0] ?_ ?_
 refine qSeq ?_ ?_
 refine qV 3 ?_ ?_
 refine qy (o_lenmap (l:=t.names) (enc:=AVal.str) kq ty22) ?_ ?_ ?_
 refine qR 1 [(0,.ptr 0 0),(2,.imm (l.map (AVal.int .i64))),(3,nI q),(5,.ptr 2 0),(8,.ptr 3 0),(9,.int .i64 (pickI l q 6)),(10,.own 4 0 ns.length),(11,.own 5 0 ks.length),(12,nI k),(49,.bool (decide (((k:Nat):Int)<((t.names.length:Nat):Int))))] [bS lv,mS S,t.bx,.box zC,.arr 1 (ns.map AVal.str) 0,.arr 5 (ks.map Ty.enc) 0] ?_ ?_
 by_cases hb12:((k:Nat):Int)<((t.names.length:Nat):Int)
 refine qt (decide_eq_true hb12) ?_ ?_
 refine qK ?_ ?_
 refine qz [(0,.ptr 0 0),(2,.imm (l.map (AVal.int .i64))),(3,nI q),(5,.ptr 2 0),(8,.ptr 3 0),(9,.int .i64 (pickI l q 6)),(10,.own 4 0 ns.length),(11,.own 5 0 ks.length),(12,nI k)] ?_ ?_
 refine qSeq ?_ ?_
 refine qB 1 ?_ ?_ ?_
 refine qV 3 ?_ ?_
 by_cases hb13:(pickI l q 6) > 3
 refine qm [53,54] (decide_eq_true hb13) ?_ ?_
 refine qR 8 [(0,.ptr 0 0),(2,.imm (l.map (AVal.int .i64))),(3,nI q),(5,.ptr 2 0),(8,.ptr 3 0),(9,.int .i64 (pickI l q 6)),(10,.own 4 0 ns.length),(11,.own 5 0 ks.length),(12,nI k),(55,.tup []),(56,.tup []),(57,.tup []),(58,.tup []),(59,.tup []),(60,.tup []),(61,.tup []),(62,.bool true)] [bS lv,mS S,t.bx,.box zC,.arr 1 (ns.map AVal.str) 0,.arr 5 (ks.map Ty.enc) 0] ?_ ?_
 refine wIfT kq kq ?_
 refine qV 4 ?_ ?_
 refine qy (o_ixmap (k:=.i64) (l:=t.names) (enc:=AVal.str) (i:=((k:Nat):Int)) [] kq ty22 ty9 (fun _=>rfl) oq oq) ?_ ?_ ?_
 refine qr 2 ?_ ?_
 refine qY (o_appmap (o:=4) (len:=ns.length) (l:=ns) (xs:=[(t.names.getD k [])]) (enc:=AVal.str) (sz:=1) (fr:=0) (x:=(.full [.str (t.names.getD k [])])) kq ty22 ty9 ty22 rfl kq rfl rfl kq ⟨by decide,by kernel_rfl⟩ (fun _=>rfl) (by simp only [List.length_append,List.length_cons,List.length_nil];omega) (by simp only [List.length_append,List.length_cons,List.length_nil];omega)) ?_ ?_ ?_
 refine qR 1 [(0,.ptr 0 0),(2,.imm (l.map (AVal.int .i64))),(3,nI q),(5,.ptr 2 0),(8,.ptr 3 0),(9,.int .i64 (pickI l q 6)),(10,.own 4 0 (ns++[(t.names.getD k [])]).length),(11,.own 5 0 ks.length),(12,nI k),(55,.tup []),(56,.tup []),(57,.tup []),(58,.tup []),(59,.tup []),(60,.tup []),(61,.tup [])] [bS lv,mS S,t.bx,.box zC,.arr 1 ((ns++[(t.names.getD k [])]).map AVal.str) 0,.arr 5 (ks.map Ty.enc) 0] ?_ ?_
 obtain ⟨rB,SB,hB,hB2⟩:=blurK_yes hKF hK oq oq
 have hstp:=sz_step (t:=t) (k:=k) oq oq
 refine qz [(0,.ptr 0 0),(2,.imm (l.map (AVal.int .i64))),(3,nI q),(5,.ptr 2 0),(8,.ptr 3 0),(9,.int .i64 (pickI l q 6)),(10,.own 4 0 (ns++[(t.names.getD k [])]).length),(11,.own 5 0 ks.length),(12,nI k),(55,.tup []),(56,.tup []),(57,.tup []),(58,.tup []),(59,.tup []),(60,.tup []),(61,.tup [])] ?_ ?_
 refine qo ?_ ?_
 refine qr 5 ?_ ?_
 refine qy ((o_ixmap (k:=.i64) (l:=t.kids) (enc:=Ty.enc) (i:=((k:Nat):Int)) Ty.zero kq ty23 ty25 ty_size oq oq).trans (congrArg (fun cs=>some (AVal.pimm cs 0,_)) (ty_cells (t.kids.getD k Ty.zero)))) ?_ ?_ ?_
 refine qr 3 ?_ ?_
 refine qy (o_add (a:=((q:Nat):Int)) (b:=2) kq oq oq) ?_ ?_ ?_
 refine qr 1 ?_ ?_
 refine qy (o_mul (a:=2) (b:=((k:Nat):Int)) kq oq oq) ?_ ?_ ?_
 refine qy (o_add (a:=(((q+2):Nat):Int)) (b:=(((2 * k):Nat):Int)) kq oq oq) ?_ ?_ ?_
 refine vcallA (args:=[.ptr 0 0,.agg [.int .i64 ((t.kids.getD k Ty.zero).kind),.str (t.kids.getD k Ty.zero).name,.int .i64 ((t.kids.getD k Ty.zero).n),.imm ((t.kids.getD k Ty.zero).names.map AVal.str),.imm ((t.kids.getD k Ty.zero).kids.map Ty.enc)],.imm (l.map (AVal.int .i64)),.int .i64 ((((q+2)+(2 * k)):Nat):Int)]) (hs:=[bS lv,mS S]) (hs':=[.box [.int .i64 ((lv)),.map 1],mS SB]) (rest:=[t.bx,.box zC,.arr 1 ((ns++[(t.names.getD k [])]).map AVal.str) 0,.arr 5 (ks.map Ty.enc) 0]) kq kq kq kq kq (ihB S SB (t.kids.getD k Ty.zero) ((q+2)+(2 * k)) rB oq oq hB) (by simp [AObj.belO,hpS,Ty.v]) (by simp [AObj.belO,hpS,Ty.v]) rfl (by simp [AObj.belO,hpS,Ty.v]) (by simp [AObj.belO,hpS,Ty.v]) kq ?_
 refine qr 1 ?_ ?_
 refine qY (o_appmap (o:=5) (len:=ks.length) (l:=ks) (xs:=[rB]) (enc:=Ty.enc) (sz:=5) (fr:=0) (x:=(.full [Ty.v rB])) kq ty23 ty25 ty23 rfl kq rfl rfl (Eq.trans (b:=some [Ty.v rB]) kq (by simp [Ty.enc_v])) ⟨by decide,by kernel_rfl⟩ ty_ok (by simp only [List.length_append,List.length_cons,List.length_nil];omega) (by simp only [List.length_append,List.length_cons,List.length_nil];omega)) ?_ ?_ ?_
 refine qr 1 ?_ ?_
 refine qe ?_ ?_
 refine AIn_normal ?_
 refine AThen_normal ?_
 refine qZ [(0,.ptr 0 0),(2,.imm (l.map (AVal.int .i64))),(3,nI q),(5,.ptr 2 0),(8,.ptr 3 0),(9,.int .i64 (pickI l q 6)),(10,.own 4 0 (ns++[(t.names.getD k [])]).length),(11,.own 5 0 (ks++[rB]).length),(12,nI k),(55,.tup []),(56,.tup []),(57,.tup []),(58,.tup []),(59,.tup []),(60,.tup []),(61,.tup [])] [.box [.int .i64 ((lv)),.map 1],mS SB,t.bx,.box zC,.arr 1 ((ns++[(t.names.getD k [])]).map AVal.str) 0,.arr 5 ((ks++[rB]).map Ty.enc) 0] ?_ ?_
 refine qo ?_ ?_
 refine qr 1 ?_ ?_
 refine qy (o_add (a:=((k:Nat):Int)) (b:=1) kq oq oq) ?_ ?_ ?_
 refine qr 1 ?_ ?_
 refine qe ?_ ?_
 refine AThen_normal ⟨(k+1,(ns++[(t.names.getD k [])]),(ks++[rB]),SB),?_,?_,⟨⟨kq,kq,kq,kq,kq,kq,kq,kq,kq,trivial⟩,by simp [BelL,AVal.bel],by simp,kq,by simp [AObj.belO,belL_app,Ty.enc_v]⟩⟩
 · try dsimp only
   omega
 rotate_left
 iterate 34 kernel_rfl
 refine qm [53,54] (decide_eq_false hb13) ?_ ?_
 refine qr 2 ?_ ?_
 refine qy (o_add (a:=((q:Nat):Int)) (b:=5) kq oq oq) ?_ ?_ ?_
 refine qr 1 ?_ ?_
 refine qy (o_add (a:=(((q+5):Nat):Int)) (b:=((k:Nat):Int)) kq oq oq) ?_ ?_ ?_
 refine vcallP (args:=[.imm (l.map (AVal.int .i64)),.int .i64 ((((q+5)+k):Nat):Int),.int .i64 2]) kq kq kq kq (pick_spec l ((q+5)+k) 2 oq oq) (by simp [Ty.v,frzL_app,Occ.v]) (by simp [Ty.v]) (by simp [Ty.v,ownsL_app]) ?_
 have hv14:=pickI_bd l ((q+5)+k) 2 dq
 refine qR 2 [(0,.ptr 0 0),(2,.imm (l.map (AVal.int .i64))),(3,nI q),(5,.ptr 2 0),(8,.ptr 3 0),(9,.int .i64 (pickI l q 6)),(10,.own 4 0 ns.length),(11,.own 5 0 ks.length),(12,nI k),(55,.imm (l.map (AVal.int .i64))),(56,nI q),(57,nI (q+5)),(58,nI k),(59,nI (((q+5)+k))),(60,.int .i64 (pickI l ((q+5)+k) 2)),(61,.bool ((pickI l ((q+5)+k) 2)==0)),(62,.bool ((pickI l ((q+5)+k) 2)==0))] [bS lv,mS S,t.bx,.box zC,.arr 1 (ns.map AVal.str) 0,.arr 5 (ks.map Ty.enc) 0] ?_ ?_
 by_cases hb15:(pickI l ((q+5)+k) 2)=0
 refine qt (beq_iff_eq.2 hb15) ?_ ?_
 refine qV 4 ?_ ?_
 refine qy (o_ixmap (k:=.i64) (l:=t.names) (enc:=AVal.str) (i:=((k:Nat):Int)) [] kq ty22 ty9 (fun _=>rfl) oq oq) ?_ ?_ ?_
 refine qr 2 ?_ ?_
 refine qY (o_appmap (o:=4) (len:=ns.length) (l:=ns) (xs:=[(t.names.getD k [])]) (enc:=AVal.str) (sz:=1) (fr:=0) (x:=(.full [.str (t.names.getD k [])])) kq ty22 ty9 ty22 rfl kq rfl rfl kq ⟨by decide,by kernel_rfl⟩ (fun _=>rfl) (by simp only [List.length_append,List.length_cons,List.length_nil];omega) (by simp only [List.length_append,List.length_cons,List.length_nil];omega)) ?_ ?_ ?_
 refine qR 1 [(0,.ptr 0 0),(2,.imm (l.map (AVal.int .i64))),(3,nI q),(5,.ptr 2 0),(8,.ptr 3 0),(9,.int .i64 (pickI l q 6)),(10,.own 4 0 (ns++[(t.names.getD k [])]).length),(11,.own 5 0 ks.length),(12,nI k),(55,.imm (l.map (AVal.int .i64))),(56,nI q),(57,nI (q+5)),(58,nI k),(59,nI (((q+5)+k))),(60,.int .i64 (pickI l ((q+5)+k) 2)),(61,.bool ((pickI l ((q+5)+k) 2)==0))] [bS lv,mS S,t.bx,.box zC,.arr 1 ((ns++[(t.names.getD k [])]).map AVal.str) 0,.arr 5 (ks.map Ty.enc) 0] ?_ ?_
 obtain ⟨rB,SB,hB,hB2⟩:=blurK_yes hKF hK oq oq
 have hstp:=sz_step (t:=t) (k:=k) oq oq
 refine qz [(0,.ptr 0 0),(2,.imm (l.map (AVal.int .i64))),(3,nI q),(5,.ptr 2 0),(8,.ptr 3 0),(9,.int .i64 (pickI l q 6)),(10,.own 4 0 (ns++[(t.names.getD k [])]).length),(11,.own 5 0 ks.length),(12,nI k),(55,.imm (l.map (AVal.int .i64))),(56,nI q),(57,nI (q+5)),(58,nI k),(59,nI (((q+5)+k))),(60,.int .i64 (pickI l ((q+5)+k) 2)),(61,.bool ((pickI l ((q+5)+k) 2)==0))] ?_ ?_
 refine qo ?_ ?_
 refine qr 5 ?_ ?_
 refine qy ((o_ixmap (k:=.i64) (l:=t.kids) (enc:=Ty.enc) (i:=((k:Nat):Int)) Ty.zero kq ty23 ty25 ty_size oq oq).trans (congrArg (fun cs=>some (AVal.pimm cs 0,_)) (ty_cells (t.kids.getD k Ty.zero)))) ?_ ?_ ?_
 refine qr 3 ?_ ?_
 refine qy (o_add (a:=((q:Nat):Int)) (b:=2) kq oq oq) ?_ ?_ ?_
 refine qr 1 ?_ ?_
 refine qy (o_mul (a:=2) (b:=((k:Nat):Int)) kq oq oq) ?_ ?_ ?_
 refine qy (o_add (a:=(((q+2):Nat):Int)) (b:=(((2 * k):Nat):Int)) kq oq oq) ?_ ?_ ?_
 refine vcallA (args:=[.ptr 0 0,.agg [.int .i64 ((t.kids.getD k Ty.zero).kind),.str (t.kids.getD k Ty.zero).name,.int .i64 ((t.kids.getD k Ty.zero).n),.imm ((t.kids.getD k Ty.zero).names.map AVal.str),.imm ((t.kids.getD k Ty.zero).kids.map Ty.enc)],.imm (l.map (AVal.int .i64)),.int .i64 ((((q+2)+(2 * k)):Nat):Int)]) (hs:=[bS lv,mS S]) (hs':=[.box [.int .i64 ((lv)),.map 1],mS SB]) (rest:=[t.bx,.box zC,.arr 1 ((ns++[(t.names.getD k [])]).map AVal.str) 0,.arr 5 (ks.map Ty.enc) 0]) kq kq kq kq kq (ihB S SB (t.kids.getD k Ty.zero) ((q+2)+(2 * k)) rB oq oq hB) (by simp [AObj.belO,hpS,Ty.v]) (by simp [AObj.belO,hpS,Ty.v]) rfl (by simp [AObj.belO,hpS,Ty.v]) (by simp [AObj.belO,hpS,Ty.v]) kq ?_
 refine qr 1 ?_ ?_
 refine qY (o_appmap (o:=5) (len:=ks.length) (l:=ks) (xs:=[rB]) (enc:=Ty.enc) (sz:=5) (fr:=0) (x:=(.full [Ty.v rB])) kq ty23 ty25 ty23 rfl kq rfl rfl (Eq.trans (b:=some [Ty.v rB]) kq (by simp [Ty.enc_v])) ⟨by decide,by kernel_rfl⟩ ty_ok (by simp only [List.length_append,List.length_cons,List.length_nil];omega) (by simp only [List.length_append,List.length_cons,List.length_nil];omega)) ?_ ?_ ?_
 refine qr 1 ?_ ?_
 refine qe ?_ ?_
 refine AIn_normal ?_
 refine AThen_normal ?_
 refine qZ [(0,.ptr 0 0),(2,.imm (l.map (AVal.int .i64))),(3,nI q),(5,.ptr 2 0),(8,.ptr 3 0),(9,.int .i64 (pickI l q 6)),(10,.own 4 0 (ns++[(t.names.getD k [])]).length),(11,.own 5 0 (ks++[rB]).length),(12,nI k),(55,.imm (l.map (AVal.int .i64))),(56,nI q),(57,nI (q+5)),(58,nI k),(59,nI (((q+5)+k))),(60,.int .i64 (pickI l ((q+5)+k) 2)),(61,.bool ((pickI l ((q+5)+k) 2)==0))] [.box [.int .i64 ((lv)),.map 1],mS SB,t.bx,.box zC,.arr 1 ((ns++[(t.names.getD k [])]).map AVal.str) 0,.arr 5 ((ks++[rB]).map Ty.enc) 0] ?_ ?_
 refine qo ?_ ?_
 refine qr 1 ?_ ?_
 refine qy (o_add (a:=((k:Nat):Int)) (b:=1) kq oq oq) ?_ ?_ ?_
 refine qr 1 ?_ ?_
 refine qe ?_ ?_
 refine AThen_normal ⟨(k+1,(ns++[(t.names.getD k [])]),(ks++[rB]),SB),?_,?_,⟨⟨kq,kq,kq,kq,kq,kq,kq,kq,kq,trivial⟩,by simp [BelL,AVal.bel],by simp,kq,by simp [AObj.belO,belL_app,Ty.enc_v]⟩⟩
 · try dsimp only
   omega
 rotate_left
 iterate 33 kernel_rfl
 refine qf (beq_eq_false_iff_ne.2 hb15) ?_ ?_
 refine qk ?_ ?_
 refine AIn_normal ?_
 refine AThen_normal ?_
 refine qz [(0,.ptr 0 0),(2,.imm (l.map (AVal.int .i64))),(3,nI q),(5,.ptr 2 0),(8,.ptr 3 0),(9,.int .i64 (pickI l q 6)),(10,.own 4 0 ns.length),(11,.own 5 0 ks.length),(12,nI k),(55,.imm (l.map (AVal.int .i64))),(56,nI q),(57,nI (q+5)),(58,nI k),(59,nI (((q+5)+k))),(60,.int .i64 (pickI l ((q+5)+k) 2)),(61,.bool ((pickI l ((q+5)+k) 2)==0))] ?_ ?_
 refine qo ?_ ?_
 refine qr 1 ?_ ?_
 refine qy (o_add (a:=((k:Nat):Int)) (b:=1) kq oq oq) ?_ ?_ ?_
 refine qr 1 ?_ ?_
 refine qe ?_ ?_
 refine AThen_normal ⟨(k+1,ns,ks,S),?_,?_,⟨⟨kq,kq,kq,kq,kq,kq,kq,kq,kq,trivial⟩,by simp [BelL,AVal.bel],by simp,kq,by simp [AObj.belO,belL_app,Ty.enc_v]⟩⟩
 · try dsimp only
   omega
 rotate_left
 iterate 24 kernel_rfl
 refine qf (decide_eq_false hb12) ?_ ?_
 refine wExit 0 kq kq ?_
 refine AThen_exit ?_
 refine AThen_exit ?_
 refine AIn_exit ?_
 refine AThen_normal ?_
 refine qz [(0,.ptr 0 0),(8,.ptr 3 0),(9,.int .i64 (pickI l q 6)),(10,.own 4 0 ns.length),(11,.own 5 0 ks.length)] ?_ ?_
 refine wFrzS 10 4 (es:=(ns.map AVal.str)) (off:=0) (len:=ns.length) (sz:=1) (fr:=0) (ns.map AVal.str) kq kq zq kq ?_
 refine wFrzS 11 5 (es:=(ks.map Ty.enc)) (off:=0) (len:=ks.length) (sz:=5) (fr:=0) (ks.map Ty.enc) kq kq zq kq ?_
 refine qZ [(0,.ptr 0 0),(8,.ptr 3 0),(9,.int .i64 (pickI l q 6)),(10,.imm (ns.map AVal.str)),(11,.imm (ks.map Ty.enc))] [bS lv,mS S,t.bx,.box zC,.arr 1 (ns.map AVal.str) (ns.map AVal.str).length,.arr 5 (ks.map Ty.enc) (ks.map Ty.enc).length] ?_ ?_
 refine qSeq ?_ ?_
 refine qU 2 [(0,.ptr 0 0),(8,.ptr 3 0),(10,.imm (ns.map AVal.str)),(11,.imm (ks.map Ty.enc)),(88,.bool (decide ((pickI l q 6) > 4)))] ?_ ?_
 by_cases hb16:(pickI l q 6) > 4
 refine qt (decide_eq_true hb16) ?_ ?_
 refine qW 4 [(8,.ptr 3 0)] [bS lv,mS S,t.bx,.box [.int .i64 5,.str [],.int .i64 0,.imm (ns.map AVal.str),.imm (ks.map Ty.enc)],.arr 1 (ns.map AVal.str) (ns.map AVal.str).length,.arr 5 (ks.map Ty.enc) (ks.map Ty.enc).length] ?_ ?_
 refine wRet kq ?_
 apply aR
 refine leafA (l:=[.agg [.int .i64 5,.str [],.int .i64 0,.imm (ns.map AVal.str),.imm (ks.map Ty.enc)]]) (.inr rfl) kq (by obtain rfl:k=t.names.length:=oq;rw [hKF] at hK;cases hK;have e:=hF1 oq;rw [← e.1];simp [awrap,Ty.v,AVal.frz,frzL,Ty.enc_v,lsT,Ty.kind,Ty.name,Ty.n,Ty.names,Ty.kids]) (by simp [awrap]) (by simp [awrap]) ?_ ?_
 refine Eq.trans (b:=[bS lv,mS S]) kq ?_
 · obtain rfl:k=t.names.length:=oq
   rw [hKF] at hK
   cases hK
   have e:=hF1 oq
   rw [← e.2];rfl
 · simp [AObj.belO,hpS,Ty.v]
 iterate 2 kernel_rfl
 refine qf (decide_eq_false hb16) ?_ ?_
 refine qK ?_ ?_
 refine qz [(0,.ptr 0 0),(8,.ptr 3 0),(10,.imm (ns.map AVal.str)),(11,.imm (ks.map Ty.enc))] ?_ ?_
 have hg:recG S ns ks:=by obtain rfl:k=t.names.length:=oq;rw [hKF] at hK;cases hK;exact (hF2 oq).1
 refine qz [(0,.ptr 0 0),(8,.ptr 3 0),(10,.imm (ns.map AVal.str)),(11,.imm (ks.map Ty.enc))] ?_ ?_
 refine qV 3 ?_ ?_
 refine vcallA (args:=[.ptr 0 0,.imm (ns.map AVal.str),.imm (ks.map Ty.enc)]) (hs:=[bS lv,mS S]) (hs':=[.box [.int .i64 ((lv)),.map 1],mS (rowS (lv) S (recR ns ks 0).names)]) (rest:=[t.bx,.box zC,.arr 1 (ns.map AVal.str) (ns.map AVal.str).length,.arr 5 (ks.map Ty.enc) (ks.map Ty.enc).length]) kq kq kq kq kq (Record_ok ns ks (lv) S hg.n hg.nl hg.kz hg.sm hg.ml hg.ok) (by simp [AObj.belO,hpS,Ty.v]) (by simp [AObj.belO,hpS,Ty.v]) rfl (by simp [AObj.belO,hpS,Ty.v]) (by simp [AObj.belO,hpS,Ty.v]) kq ?_
 refine qR 6 [(8,.ptr 3 0),(13,.ptr 6 0)] [.box [.int .i64 ((lv)),.map 1],mS (rowS (lv) S (recR ns ks 0).names),t.bx,.box zC,.arr 1 (ns.map AVal.str) (ns.map AVal.str).length,.arr 5 (ks.map Ty.enc) (ks.map Ty.enc).length,(recR ns ks (((S.length+1:Nat)):Int)).bx] ?_ ?_
 refine qW 2 [(8,.ptr 3 0)] [.box [.int .i64 ((lv)),.map 1],mS (rowS (lv) S (recR ns ks 0).names),t.bx,(recR ns ks (((S.length+1:Nat)):Int)).bx,.arr 1 (ns.map AVal.str) (ns.map AVal.str).length,.arr 5 (ks.map Ty.enc) (ks.map Ty.enc).length,(recR ns ks (((S.length+1:Nat)):Int)).bx] ?_ ?_
 refine wRet kq ?_
 refine leafA (l:=[.agg [.int .i64 ((recR ns ks (((S.length+1:Nat)):Int)).kind),.str (recR ns ks (((S.length+1:Nat)):Int)).name,.int .i64 ((recR ns ks (((S.length+1:Nat)):Int)).n),.imm ((recR ns ks (((S.length+1:Nat)):Int)).names.map AVal.str),.imm ((recR ns ks (((S.length+1:Nat)):Int)).kids.map Ty.enc)]]) (.inr rfl) kq (by obtain rfl:k=t.names.length:=oq;rw [hKF] at hK;cases hK;have e:=hF2 oq;rw [← e.2.1];simp [awrap,AVal.frz,frzL,Ty.v]) (by simp [awrap]) (by simp [awrap]) ?_ ?_
 refine Eq.trans (b:=[.box [.int .i64 ((lv)),.map 1],mS (rowS (lv) S (recR ns ks 0).names)]) kq ?_
 · obtain rfl:k=t.names.length:=oq
   rw [hKF] at hK
   cases hK
   have e:=hF2 oq
   rw [← e.2.2];rfl
 · simp [AObj.belO,hpS,Ty.v]
 iterate 29 kernel_rfl
 refine qt (x:=((t.kind) != 5)) (bne_iff_ne.2 hb11) ?_ ?_
 refine qW 2 [(8,.ptr 3 0)] [bS lv,mS m,t.bx,t.bx] ?_ ?_
 refine wRet kq ?_
 apply aR
 refine leafA (l:=[.agg [.int .i64 (t.kind),.str t.name,.int .i64 (t.n),.imm (t.names.map AVal.str),.imm (t.kids.map Ty.enc)]]) (.inr rfl) kq (by have e:=((u2 oq).2 oq).1 aq;rw [← e.1];simp [awrap,AVal.frz,frzL,Ty.v]) (by simp [awrap]) (by simp [awrap]) ?_ ?_
 refine Eq.trans (b:=[bS lv,mS m]) kq ?_
 · have e:=((u2 oq).2 oq).1 aq
   rw [← e.2];rfl
 · simp [AObj.belO,hpS,Ty.v]
 iterate 19 kernel_rfl
 all_goals
  try dsimp only
  refine ⟨by omega,?_⟩
  first|exact hB2|exact blurK_no hK oq
end Go.Proofs.YtdikgijfekfaoaaGreatDoor
namespace Go.Proofs.YtdikgijfekfaoaaGreatDoor
open Go.Proofs.YtdikgijfekfaoaaGreatDoor.Abs
set_option maxRecDepth 20000
set_option maxHeartbeats 4000000
theorem teq_self (x:Ty) (hx:x.sz<100000000):CallsP cx 16 [x.v,x.v] (.bool true):=by
  have:=tEqual_spec x x hx
  rwa [beq_refl] at this
theorem mat_yes {x t:Ty} (hx:x.sz<100000000) (ht:t.sz<100000000) (h:matB x t=true):CallsP cx 19 [x.v,t.v] (.bool true):=by
  have:=matches_spec x t hx ht
  rwa [h] at this
noncomputable def c5:Code:=bodyOf Tryz.f5
theorem general_walk (l m n:List Int) (t a b x:Ty) (S1 S2 S3 S4:St) (k1 k2 f3 f4 f5 f7 f8:Nat) (hl:i64L l) (hm:i64L m) (hn:i64L n) (hT:CallsP cx 13 [.imm (l.map (.int .i64)),.int .i64 0,.int .i64 3] t.v) (ht:t.sz<100000000) (ha:a.sz<100000000) (hb:b.sz<100000000) (hx:x.sz<100000000) (h1:blurF m 0 k1 [] t 0=some (a,S1)) (h2:blurF n 0 k2 S1 t 0=some (b,S2)) (s2:stSm S2) (s3:stSm S3) (s4:stSm S4) (ga2:hasB S2 a=true) (gb2:hasB S2 b=true) (e3:unifyF f3 S2 a b=some (true,S3)) (ga3:hasB S3 a=true) (gb3:hasB S3 b=true) (gt3:hasB S3 t=true) (e4:resF f4 S3 a=some x) (e5:resF f5 S3 b=some x) (e6:matB x t=true) (e7:unifyF f7 S3 a t=some (true,S4)) (gb4:hasB S4 b=true) (e8:resF f8 S4 b=some t):CallsP cx 5 [.imm (l.map (AVal.int .i64)),.imm (m.map (AVal.int .i64)),.imm (n.map (AVal.int .i64))] (.bool true):=by
 refine func_intro (cx:=cx) 60 0 [(ResultVar.tmp 6)] Tryz.func5 rfl rfl rfl rfl rfl zq ?_
 show wpA cx 60 0 (at_ c5 []) _ _ _
 refine qZ [(0,.imm (l.map (AVal.int .i64))),(1,.imm (m.map (AVal.int .i64))),(2,.imm (n.map (AVal.int .i64)))] [] ?_ ?_
 refine qU 1 [(0,.imm (l.map (AVal.int .i64))),(1,.imm (m.map (AVal.int .i64))),(2,.imm (n.map (AVal.int .i64)))] ?_ ?_
 refine qO ?_ ?_
 refine vgrow1 (args:=[]) (args':=[]) (V':=.ptr 1 0) (F:=[]) (G':=[mS ([]:List (Int×Vr)),.box [.int .i64 0,.map 0]]) kq kq kq kq (new_raw) [] kq (by simp [AVal.frz,frzL,AVal.ren,renL,renH,AObj.ren,lendR,frzH,ownsL,AVal.owns,encM,renE]) (by simp [AVal.frz,frzL,AVal.ren,renL,renH,AObj.ren,lendR,frzH,ownsL,AVal.owns,encM,renE]) (by simp [AVal.frz,frzL,AVal.ren,renL,renH,AObj.ren,lendR,frzH,ownsL,AVal.owns,encM,renE]) (by simp [AVal.frz,frzL,AVal.ren,renL,renH,AObj.ren,lendR,frzH,ownsL,AVal.owns,encM,renE]) (by simp [AVal.frz,frzL,AVal.ren,renL,renH,AObj.ren,lendR,frzH,ownsL,AVal.owns,encM,renE]) ?_
 refine qR 1 [(0,.imm (l.map (AVal.int .i64))),(1,.imm (m.map (AVal.int .i64))),(2,.imm (n.map (AVal.int .i64))),(7,.ptr 1 0)] [mS ([]:List (Int×Vr)),.box [.int .i64 0,.map 0]] ?_ ?_
 refine qSeq ?_ ?_
 refine qU 2 [(0,.imm (l.map (AVal.int .i64))),(1,.imm (m.map (AVal.int .i64))),(2,.imm (n.map (AVal.int .i64))),(7,.ptr 1 0),(14,.bool false)] ?_ ?_
 refine wIfF kq kq ?_
 refine qK ?_ ?_
 refine qz [(0,.imm (l.map (AVal.int .i64))),(1,.imm (m.map (AVal.int .i64))),(2,.imm (n.map (AVal.int .i64))),(7,.ptr 1 0)] ?_ ?_
 refine wRen [1,0] [(0,.imm (l.map (AVal.int .i64))),(1,.imm (m.map (AVal.int .i64))),(2,.imm (n.map (AVal.int .i64))),(7,.ptr 0 0)] [bS 0,mS ([]:List (Int×Vr))] dq (by simp [-List.map_append,-List.map_take,-List.map_drop,-List.append_assoc,AVal.refs,refsL,AObj.refs,AObj.isIter,objOk,Abs.renT,keepH,renO,AObj.ren,AVal.ren,renL,List.idxOf_cons,refs_st,renE_st,Ty.enc_v,Ty.v]) (by simp [-List.map_append,-List.map_take,-List.map_drop,-List.append_assoc,AVal.refs,refsL,AObj.refs,AObj.isIter,objOk,Abs.renT,keepH,renO,AObj.ren,AVal.ren,renL,List.idxOf_cons,refs_st,renE_st,Ty.enc_v,Ty.v]) (by simp [-List.map_append,-List.map_take,-List.map_drop,-List.append_assoc,AVal.refs,refsL,AObj.refs,AObj.isIter,objOk,Abs.renT,keepH,renO,AObj.ren,AVal.ren,renL,List.idxOf_cons,refs_st,renE_st,Ty.enc_v,Ty.v]) (by simp [-List.map_append,-List.map_take,-List.map_drop,-List.append_assoc,AVal.refs,refsL,AObj.refs,AObj.isIter,objOk,Abs.renT,keepH,renO,AObj.ren,AVal.ren,renL,List.idxOf_cons,refs_st,renE_st,Ty.enc_v,Ty.v]) ?_
 refine qZ [(0,.imm (l.map (AVal.int .i64))),(1,.imm (m.map (AVal.int .i64))),(2,.imm (n.map (AVal.int .i64))),(7,.ptr 0 0)] [bS 0,mS ([]:List (Int×Vr))] ?_ ?_
 refine qV 1 ?_ ?_
 refine vcallP (args:=[.imm (l.map (AVal.int .i64)),.int .i64 0,.int .i64 3]) kq kq kq kq (hT) (by simp [Ty.v,frzL_app,Occ.v]) (by simp [Ty.v]) (by simp [Ty.v,ownsL_app]) ?_
 refine qR 2 [(1,.imm (m.map (AVal.int .i64))),(2,.imm (n.map (AVal.int .i64))),(7,.ptr 0 0),(8,.ptr 2 0)] [bS 0,mS ([]:List (Int×Vr)),t.bx] ?_ ?_
 refine qV 3 ?_ ?_
 refine vcallA (args:=[.ptr 0 0,.agg [.int .i64 (t.kind),.str t.name,.int .i64 (t.n),.imm (t.names.map AVal.str),.imm (t.kids.map Ty.enc)],.imm (m.map (AVal.int .i64)),.int .i64 0]) (hs:=[bS 0,mS ([]:List (Int×Vr))]) (hs':=[bS 0,mS S1]) (rest:=[t.bx]) kq kq kq kq kq (blur_S m k1 0 t a 0 [] S1 hm oq oq h1) (by simp [AObj.belO,hpV,Ty.v]) (by simp [AObj.belO,hpV,Ty.v]) rfl (by simp [AObj.belO,hpV,Ty.v]) (by simp [AObj.belO,hpV,Ty.v]) kq ?_
 refine qR 2 [(2,.imm (n.map (AVal.int .i64))),(7,.ptr 0 0),(8,.ptr 2 0),(9,.ptr 3 0)] [bS 0,mS S1,t.bx,a.bx] ?_ ?_
 refine qV 3 ?_ ?_
 refine vcallA (args:=[.ptr 0 0,.agg [.int .i64 (t.kind),.str t.name,.int .i64 (t.n),.imm (t.names.map AVal.str),.imm (t.kids.map Ty.enc)],.imm (n.map (AVal.int .i64)),.int .i64 0]) (hs:=[bS 0,mS S1]) (hs':=[bS 0,mS S2]) (rest:=[t.bx,a.bx]) kq kq kq kq kq (blur_S n k2 0 t b 0 S1 S2 hn oq oq h2) (by simp [AObj.belO,hpV,Ty.v]) (by simp [AObj.belO,hpV,Ty.v]) rfl (by simp [AObj.belO,hpV,Ty.v]) (by simp [AObj.belO,hpV,Ty.v]) kq ?_
 refine qR 2 [(7,.ptr 0 0),(8,.ptr 2 0),(9,.ptr 3 0),(10,.ptr 4 0)] [bS 0,mS S2,t.bx,a.bx,b.bx] ?_ ?_
 refine qSeq ?_ ?_
 refine qV 3 ?_ ?_
 refine vcallA (args:=[.ptr 0 0,.agg [.int .i64 (a.kind),.str a.name,.int .i64 (a.n),.imm (a.names.map AVal.str),.imm (a.kids.map Ty.enc)],.agg [.int .i64 (b.kind),.str b.name,.int .i64 (b.n),.imm (b.names.map AVal.str),.imm (b.kids.map Ty.enc)]]) (hs:=[bS 0,mS S2]) (hs':=[bS 0,mS S3]) (rest:=[t.bx,a.bx,b.bx]) kq kq kq kq kq (Unify_ok f3 a b 0 S2 S3 oq oq s2 ga2 gb2 e3) (by simp [AObj.belO,hpV,Ty.v]) (by simp [AObj.belO,hpV,Ty.v]) rfl (by simp [AObj.belO,hpV,Ty.v]) (by simp [AObj.belO,hpV,Ty.v]) kq ?_
 refine qR 1 [(7,.ptr 0 0),(8,.ptr 2 0),(9,.ptr 3 0),(10,.ptr 4 0),(29,.bool false)] [bS 0,mS S3,t.bx,a.bx,b.bx] ?_ ?_
 refine wIfF kq kq ?_
 refine qK ?_ ?_
 refine qz [(7,.ptr 0 0),(8,.ptr 2 0),(9,.ptr 3 0),(10,.ptr 4 0)] ?_ ?_
 refine qV 2 ?_ ?_
 refine vcallA (args:=[.ptr 0 0,.agg [.int .i64 (a.kind),.str a.name,.int .i64 (a.n),.imm (a.names.map AVal.str),.imm (a.kids.map Ty.enc)]]) (hs:=[bS 0,mS S3]) (hs':=[bS 0,mS S3]) (rest:=[t.bx,a.bx,b.bx]) kq kq kq kq kq (Resolve_ok f4 a x 0 S3 oq s3 ga3 e4) (by simp [AObj.belO,hpV,Ty.v]) (by simp [AObj.belO,hpV,Ty.v]) rfl (by simp [AObj.belO,hpV,Ty.v]) (by simp [AObj.belO,hpV,Ty.v]) kq ?_
 refine qR 2 [(7,.ptr 0 0),(8,.ptr 2 0),(9,.ptr 3 0),(10,.ptr 4 0),(11,.ptr 5 0)] [bS 0,mS S3,t.bx,a.bx,b.bx,x.bx] ?_ ?_
 refine qSeq ?_ ?_
 refine wDrw cxM kq extThen (dstart ?_)
 refine qu 3 ?_ ?_
 refine dcallA (args:=[.ptr 0 0,.agg [.int .i64 (b.kind),.str b.name,.int .i64 (b.n),.imm (b.names.map AVal.str),.imm (b.kids.map Ty.enc)]]) (hs:=[bS 0,mS S3]) (hs':=[bS 0,mS S3]) (rest:=[t.bx,a.bx,b.bx,x.bx]) (L:=[0,1]) kq kq kq kq kq kq (Resolve_ok f5 b x 0 S3 oq s3 gb3 e5) (by simp [AObj.belO,hpV,Ty.v]) (by simp [AObj.belO,hpV,Ty.v]) rfl (by simp [AObj.belO,hpV,Ty.v]) (by simp [AObj.belO,hpV,Ty.v]) kq rfl rfl ?_
 refine dcallP (args:=[.agg [.int .i64 (x.kind),.str x.name,.int .i64 (x.n),.imm (x.names.map AVal.str),.imm (x.kids.map Ty.enc)],Ty.v x]) kq kq kq kq kq (teq_self x oq) (by intro _;simp [Ty.v,frzL_app,Occ.v]) (by simp [Ty.v]) (by simp [Ty.v,ownsL_app]) ?_
 refine qu 3 ?_ ?_
 refine dcallP (args:=[.agg [.int .i64 (x.kind),.str x.name,.int .i64 (x.n),.imm (x.names.map AVal.str),.imm (x.kids.map Ty.enc)],.agg [.int .i64 (t.kind),.str t.name,.int .i64 (t.n),.imm (t.names.map AVal.str),.imm (t.kids.map Ty.enc)]]) kq kq kq kq kq (mat_yes oq oq e6) (by intro _;simp [Ty.v,frzL_app,Occ.v]) (by simp [Ty.v]) (by simp [Ty.v,ownsL_app]) ?_
 refine qu 5 ?_ ?_
 refine dcallA (args:=[.ptr 0 0,.agg [.int .i64 (a.kind),.str a.name,.int .i64 (a.n),.imm (a.names.map AVal.str),.imm (a.kids.map Ty.enc)],.agg [.int .i64 (t.kind),.str t.name,.int .i64 (t.n),.imm (t.names.map AVal.str),.imm (t.kids.map Ty.enc)]]) (hs:=[bS 0,mS S3]) (hs':=[bS 0,mS S4]) (rest:=[t.bx,a.bx,b.bx,x.bx]) (L:=[0,1]) kq kq kq kq kq kq (Unify_ok f7 a t 0 S3 S4 oq oq s3 ga3 gt3 e7) (by simp [AObj.belO,hpV,Ty.v]) (by simp [AObj.belO,hpV,Ty.v]) rfl (by simp [AObj.belO,hpV,Ty.v]) (by simp [AObj.belO,hpV,Ty.v]) kq rfl rfl ?_
 refine qu 5 ?_ ?_
 refine dcallA (args:=[.ptr 0 0,.agg [.int .i64 (b.kind),.str b.name,.int .i64 (b.n),.imm (b.names.map AVal.str),.imm (b.kids.map Ty.enc)]]) (hs:=[bS 0,mS S4]) (hs':=[bS 0,mS S4]) (rest:=[t.bx,a.bx,b.bx,x.bx]) (L:=[0,1]) kq kq kq kq kq kq (Resolve_ok f8 b t 0 S4 oq s4 gb4 e8) (by simp [AObj.belO,hpV,Ty.v]) (by simp [AObj.belO,hpV,Ty.v]) rfl (by simp [AObj.belO,hpV,Ty.v]) (by simp [AObj.belO,hpV,Ty.v]) kq rfl rfl ?_
 refine qu 1 ?_ ?_
 refine dcallP (args:=[Ty.v t,.agg [.int .i64 (t.kind),.str t.name,.int .i64 (t.n),.imm (t.names.map AVal.str),.imm (t.kids.map Ty.enc)]]) kq kq kq kq kq (teq_self t oq) (by intro _;simp [Ty.v,frzL_app,Occ.v]) (by simp [Ty.v]) (by simp [Ty.v,ownsL_app]) ?_
 refine qu 2 ?_ ?_
 refine dcallP (args:=[]) kq kq kq kq kq (lives_spec) (fun _=>kq) kq kq ?_
 refine qu 2 ?_ ?_
 refine dend kq ⟨kq,?_⟩
 refine AThen_normal ?_
 refine wRet kq ?_
 refine leafB (b:=true) (.inr rfl) kq ?_
 · rfl
 iterate 30 kernel_rfl
end Go.Proofs.YtdikgijfekfaoaaGreatDoor
namespace Go.Proofs.YtdikgijfekfaoaaGreatDoor
open Go.Proofs.YtdikgijfekfaoaaGreatDoor.Abs
set_option maxRecDepth 20000
inductive Cl:Nat→Ty→Prop
  | base (b:Nat) (k:Int) (x:List UInt8) (hf:fmd (.mk k x 0 [] [])=true) (h4:k≠4) (h5:k≠5) (h6:k≠6) (hx:x.length≤10):Cl b (.mk k x 0 [] [])
  | list (b:Nat) (t:Ty) (h:Cl b t):Cl (b+1) (.mk 4 [] 0 [] [t])
  | rcd (b:Nat) (ns:List (List UInt8)) (ks:List Ty) (hs:ns.Pairwise (fun a b=>a<b)) (hm:∀ s∈ns,s∈nm4) (hl:ns.length=ks.length) (hk:∀ k∈ks,Cl b k):Cl (b+1) (.mk 5 [] 0 ns ks)
theorem nm4_fits:∀ s∈nm4,fitsW 2 s=true:=by
  intro s hs
  simp only [nm4,List.mem_cons,List.not_mem_nil,or_false] at hs
  rcases hs with rfl|rfl|rfl|rfl <;> kernel_rfl
theorem nm4_short:∀ s∈nm4,s.length≤2:=by
  intro s hs
  simp only [nm4,List.mem_cons,List.not_mem_nil,or_false] at hs
  rcases hs with rfl|rfl|rfl|rfl <;> decide
theorem nmOk_of {ns:List (List UInt8)} (hs:ns.Pairwise (fun a b=>a<b)) (hm:∀ s∈ns,s∈nm4):nmOk ns=true:=by
  refine nmOk_true fun i hi=>?_
  unfold nmAt
  have e:ns.getD i []=ns[i]:=by rw [List.getD_eq_getElem?_getD,List.getElem?_eq_getElem hi];rfl
  rw [e,nm4_fits _ (hm _ (List.getElem_mem hi)),Bool.true_and,Bool.or_eq_true]
  by_cases h0:i=0
  · exact .inl (by simp [h0])
  · right
    have hi':i - 1<ns.length:=by omega
    rw [List.getD_eq_getElem?_getD,List.getElem?_eq_getElem hi',sLess_lt,decide_eq_true_eq]
    exact List.pairwise_iff_getElem.1 hs (i - 1) i hi' hi oq
theorem fmd_rec {n:Int} {ns:List (List UInt8)} {ks:List Ty} (h0:0≤n) (hs:ns.Pairwise (fun a b=>a<b)) (hm:∀ s∈ns,s∈nm4) (hl:ns.length=ks.length):fmd (.mk 5 [] n ns ks)=true:=by
  unfold fmd
  simp [nmOk_of hs hm,h0,hl]
theorem whlL_mem {l:List Ty} (h:∀ k∈l,whl k=true):whlL l=true:=by rw [whlL_all,List.all_eq_true];exact h
structure tyN (S:St) (t:Ty):Prop where
  gt:Gt t
  wh:whl t=true
  oc:∀ o∈occs t,∃ x,mget o.n S=some x∧x.row=o.row∧x.names=o.names
theorem tyN.s {S:St} {t:Ty} (h:tyN S t):tyS S t:=⟨h.gt,fun o ho=>by obtain ⟨x,h1,h2,h3⟩:=h.oc o ho;exact ⟨x,h1,h2,fun _=>h3⟩⟩
theorem tyN.up {S S':St} {t:Ty} (h:tyN S t) (hf:∀ m x,mget m S=some x→mget m S'=some x):tyN S' t:=⟨h.gt,h.wh,fun o ho=>by obtain ⟨x,h1,h2,h3⟩:=h.oc o ho;exact ⟨x,hf _ x h1,h2,h3⟩⟩
theorem tyN.ext {S S':St} {t:Ty} (h:tyN S t) (hf:Ext S S'):tyN S' t:=⟨h.gt,h.wh,fun o ho=>by obtain ⟨x,h1,h2,h3⟩:=h.oc o ho;obtain ⟨x',k1,k2,k3⟩:=hf _ x h1;exact ⟨x',k1,k2.trans h2,k3.trans h3⟩⟩
mutual
theorem vAll_of {S:St}:∀ (t:Ty),(∀ o∈occs t,∃ x,mget o.n S=some x∧x.row=o.row∧x.names=o.names)→vAll S t=true
  | .mk k x n l ks,h=>by
    have ih:=vAllL_of ks fun o ho=>h o (by rw [occs,List.mem_append,List.mem_append];exact .inl (.inr ho))
    rw [vAll,ih,Bool.and_true]
    by_cases hv:isV k n=true
    · have hv':=hv
      simp only [isV,Bool.or_eq_true,decide_eq_true_eq,Bool.and_eq_true] at hv
      rcases hv with rfl|⟨rfl,hn⟩
      · obtain ⟨y,h1,h2,h3⟩:=h ⟨n,false,[]⟩ occs_var
        rw [vOk_s (t:=.mk 6 x n l ks) hv' h1,h2];rfl
      · obtain ⟨y,h1,h2,h3⟩:=h ⟨n,true,l⟩ (occs_row hn)
        rw [vOk_s (t:=.mk 5 x n l ks) hv' h1,h2,h3]
        simp
    · exact vOk_0 (t:=.mk k x n l ks) hv
theorem vAllL_of {S:St}:∀ (l:List Ty),(∀ o∈occsL l,∃ x,mget o.n S=some x∧x.row=o.row∧x.names=o.names)→vAllL S l=true
  | [],_=>rfl
  | t::l,h=>by
    rw [vAllL,vAll_of t fun o ho=>h o (by rw [occsL,List.mem_append];exact .inl ho),vAllL_of l fun o ho=>h o (by rw [occsL,List.mem_append];exact .inr ho)];rfl
end
theorem occ_getD {l:List Occ} {i:Nat} (hi:i<l.length):l.getD i Occ.zero∈l:=by
  rw [List.getD_eq_getElem?_getD,List.getElem?_eq_getElem hi];exact List.getElem_mem hi
theorem tyN.has {S:St} {t:Ty} (h:tyN S t):hasB S t=true:=by
  rw [hasB,Bool.and_eq_true]
  refine ⟨?_,vAll_of t h.oc⟩
  rw [valid_same,rvalidB,h.wh,Bool.true_and]
  refine occOk_true fun i hi k hk=>?_
  obtain ⟨x,h1,h2,h3⟩:=h.oc _ (occ_getD hi)
  obtain ⟨y,k1,k2,k3⟩:=h.oc _ (occ_getD (show k<(occs t).length by omega))
  unfold occBad
  by_cases e:((occs t).getD i Occ.zero).n=((occs t).getD k Occ.zero).n
  · rw [e,k1] at h1
    cases h1
    rw [← h2,← k2,← h3,← k3];simp
  · rw [beq_eq_false_iff_ne.2 e];rfl
theorem Cl.gt {b:Nat} {t:Ty} (h:Cl b t):Gt t:=by
  induction h with
  | base b k x hf h4 h5 h6 hx=>exact .leaf k x h4 h5 h6
  | list b t h ih=>exact .list t ih
  | rcd b ns ks hs hm hl hk ih=>exact .rcd 0 ns ks dq hs hl ih
theorem Cl.oc {b:Nat} {t:Ty} (h:Cl b t):∀ o,o∉occs t:=by
  induction h with
  | base b k x hf h4 h5 h6 hx =>
    intro o ho
    rcases occs_cases ho with h|h|⟨t',ht,_⟩
    · exact h6 h.1
    · exact h5 h.1
    · simp at ht
  | list b t h ih=>intro o ho;exact ih o (Gt.occ_list ho)
  | rcd b ns ks hs hm hl hk ih =>
    intro o ho
    rcases rec_occ (t:=.mk 5 [] 0 ns ks) rfl ho with ⟨hn,_⟩|⟨k,hk',ho⟩
    · exact hn rfl
    · exact ih k hk' o ho
theorem Cl.wh {b:Nat} {t:Ty} (h:Cl b t):whl t=true:=by
  induction h with
  | base b k x hf h4 h5 h6 hx=>rw [whl_eq,hf];rfl
  | list b t h ih=>rw [whl_eq];simp [whlL,ih,fmd]
  | rcd b ns ks hs hm hl hk ih=>rw [whl_eq,fmd_rec dq hs hm hl];exact whlL_mem ih
theorem Cl.ft {h':Int→Nat} {b:Nat} {t:Ty} (h:Cl b t):Ft h' b t:=by
  induction h with
  | base b k x hf h4 h5 h6 hx=>exact .leaf b k x ⟨hx,hf⟩ h5 h6
  | list b t h ih=>exact .list b t ih
  | rcd b ns ks hs hm hl hk ih=>exact .rcd b 0 ns ks (fun h=>absurd rfl h) (lt_nodup hs) hm hl ih
theorem Cl.tyN {S:St} {b:Nat} {t:Ty} (h:Cl b t):tyN S t:=⟨h.gt,h.wh,fun o ho=>absurd ho (h.oc o)⟩
theorem Cl.sub {σ:Int→Ty} {b:Nat} {t:Ty} (h:Cl b t):sub σ t=t:=sub_id h.gt fun o ho=>absurd ho (h.oc o)
theorem Cl.up {b:Nat} {t:Ty} (h:Cl b t):Cl (b+1) t:=by
  induction h with
  | base b k x hf h4 h5 h6 hx=>exact .base _ k x hf h4 h5 h6 hx
  | list b t h ih=>exact .list _ t ih
  | rcd b ns ks hs hm hl hk ih=>exact .rcd _ ns ks hs hm hl ih
theorem baseT_cl {b:Nat} {k:Int} (h0:0≤k) (h5:k<5):Cl b (baseT k):=by
  have:k=0∨k=1∨k=2∨k=3∨k=4:=by omega
  rcases this with rfl|rfl|rfl|rfl|rfl
  · exact .base b 0 [] kq dq dq dq dq
  · exact .base b 1 [] kq dq dq dq dq
  · exact .base b 2 [] kq dq dq dq dq
  · exact .base b 3 [67,111,108,111,114] kq dq dq dq dq
  · exact .base b 3 [83,104,97,112,101] kq dq dq dq dq
theorem putAt_end {s:List UInt8}:∀ {l:List (List UInt8)},(∀ x∈l,x<s)→putAt l s=l.length
  | [],_=>rfl
  | x::l,h=>by
    have hx:sLess x s=true:=by rw [sLess_lt,decide_eq_true_eq];exact h x List.mem_cons_self
    have ih:=putAt_end (l:=l) fun y hy=>h y (List.mem_cons_of_mem _ hy)
    unfold putAt at ih ⊢
    rw [List.takeWhile_cons,if_pos hx,List.length_cons,List.length_cons,ih]
theorem putT_end {t x:Ty} {s:List UInt8} (hl:t.names.length=t.kids.length) (h:∀ y∈t.names,y<s):putT t s x=.mk 5 [] t.n (t.names++[s]) (t.kids++[x]):=by
  unfold putT putN putK
  rw [putAt_end h,hl]
  simp [List.take_of_length_le,← hl]
theorem nms_lt {i j:Nat} (h:i<j) (hj:j<4):nms.getD i []<nms.getD j []:=by
  have:(i=0∧j=1)∨(i=0∧j=2)∨(i=0∧j=3)∨(i=1∧j=2)∨(i=1∧j=3)∨(i=2∧j=3):=by omega
  rcases this with ⟨rfl,rfl⟩|⟨rfl,rfl⟩|⟨rfl,rfl⟩|⟨rfl,rfl⟩|⟨rfl,rfl⟩|⟨rfl,rfl⟩ <;> decide
structure rcI (b i:Nat) (o:Ty):Prop where
  cl:Cl (b+1) o
  k5:o.kind=5
  lt:∀ y∈o.names,∃ j,j<i∧y=nms.getD j []
theorem recF_cl {b:Nat} {kid:Nat→Ty} (hk:∀ i,Cl b (kid i)):∀ (f i:Nat) (w:Int) (o:Ty),i+f≤4→rcI b i o→Cl (b+1) (recF kid f i w o)
  | 0,i,w,o,_,h=>h.cl
  | f+1,i,w,o,hi,h=>by
    rw [recF]
    refine recF_cl hk f (i+1) _ _ oq ?_
    split
    · obtain ⟨hc,h5,hlt⟩:=h
      have key:∀ y∈o.names,y<nms.getD i []:=fun y hy=>by obtain ⟨j,hj,rfl⟩:=hlt y hy;exact nms_lt hj oq
      cases hc with
      | base _ k x hf h4 h5' h6 hx=>exact absurd h5 h5'
      | list b t h=>exact absurd h5 zq
      | rcd b ns ks hs hm hl hkk =>
        have e:=putT_end (t:=.mk 5 [] 0 ns ks) (x:=kid i) hl key
        simp only [Ty.n_mk,Ty.names_mk,Ty.kids_mk] at e key hlt
        rw [e]
        refine ⟨.rcd b _ _ ?_ ?_ (by simp [hl]) ?_,rfl,?_⟩
        · rw [List.pairwise_append]
          exact ⟨hs,by simp,fun a ha c hc=>by simp only [List.mem_singleton] at hc;subst hc;exact key a ha⟩
        · intro s hs'
          rcases List.mem_append.1 hs' with h|h
          · exact hm s h
          · rw [List.mem_singleton.1 h]
            have:i=0∨i=1∨i=2∨i=3:=by omega
            rcases this with rfl|rfl|rfl|rfl <;> decide
        · intro k hk'
          rcases List.mem_append.1 hk' with h|h
          · exact hkk k h
          · rw [List.mem_singleton.1 h];exact hk i
        · intro y hy
          simp only [Ty.names_mk] at hy
          rcases List.mem_append.1 hy with h|h
          · obtain ⟨j,hj,e⟩:=hlt y h;exact ⟨j,by omega,e⟩
          · exact ⟨i,by omega,List.mem_singleton.1 h⟩
    · exact ⟨h.cl,h.k5,fun y hy=>by obtain ⟨j,hj,e⟩:=h.lt y hy;exact ⟨j,by omega,e⟩⟩
theorem closedT_cl (l:List Int):∀ d q,Cl d (closedT l d q)
  | 0,q=>by
    have:=tmod_bd (pickI_bd l q 8 dq).1 (show (0:Int)<5 by decide)
    exact baseT_cl this.1 this.2
  | d+1,q=>by
    have ih:=closedT_cl l d
    have h0:=(pickI_bd l q 8 dq).1
    unfold closedT
    split
    · rename_i h;exact baseT_cl h0 h
    · split
      · exact .list d _ (ih _)
      · exact recF_cl (fun i=>ih _) 4 0 _ rec0 dq ⟨.rcd d [] [] .nil zq rfl zq,rfl,fun y hy=>by simp [rec0] at hy⟩
end Go.Proofs.YtdikgijfekfaoaaGreatDoor
namespace Go.Proofs.YtdikgijfekfaoaaGreatDoor
open Go.Proofs.YtdikgijfekfaoaaGreatDoor.Abs
structure Bl (lv:Int) (S S':St) (h h':Int→Nat) (d:Nat) (σ σ':Int→Ty) (r t:Ty):Prop where
  inv:Inv S'
  sol:Sol S' σ'
  agr:∀ n x,mget n S=some x→σ' n=σ n
  old:∀ n x,mget n S=some x→h' n=h n
  stf:StF S' h'
  ft:Ft h' d r
  eq:sub σ' r=t
  ty:tyN S' r
  sm:stSm S'
  len:S'.length≤S.length+t.sz
  fix:∀ m x,mget m S=some x→mget m S'=some x
  nw:∀ m x,mget m S'=some x→mget m S=some x∨(x.lv=lv∧x.bd=false∧(x.row=false→x.names=[]))
theorem set_new {S:St} (wf:Wf S) {v:Vr} (hb:v.bd=false) (hs:v.names.Pairwise (fun a b=>a<b)):New S (mset ((S.length+1:Nat):Int) v S) v :=
  ⟨mset_new' wf.fresh,by rw [mget_mset,if_pos rfl],fun m hm=>by rw [mget_mset,if_neg hm],hb,hs⟩
theorem new_fix {S S':St} {v:Vr} (wf:Wf S) (h:New S S' v):∀ m x,mget m S=some x→mget m S'=some x:=fun m x hx=>by rw [h.oth m (wf.ne hx)];exact hx
theorem new_nw {S S':St} {v:Vr} {lv:Int} (h:New S S' v) (hl:v.lv=lv) (hz:v.row=false→v.names=[]):∀ m x,mget m S'=some x→mget m S=some x∨(x.lv=lv∧x.bd=false∧(x.row=false→x.names=[])):=fun m x hx=>by
  by_cases e:m=((S.length+1:Nat):Int)
  · rw [e,h.at_] at hx;cases hx;exact .inr ⟨hl,h.bd,hz⟩
  · rw [h.oth m e] at hx;exact .inl hx
theorem new_stf {S S':St} {v:Vr} {h:Int→Nat} {b:Nat} (wf:Wf S) (hn:New S S' v) (hF:StF S h):StF S' (fun m=>if m=((S.length+1:Nat):Int) then b else h m):=fun m y hy hyb=>by
  by_cases e:m=((S.length+1:Nat):Int)
  · rw [e,hn.at_] at hy;cases hy;rw [hn.bd] at hyb;cases hyb
  · rw [hn.oth m e] at hy
    simp only
    rw [if_neg e]
    exact (hF m y hy hyb).in (fun n x hx=>if_neg (wf.ne hx)) (val_in wf hy hyb).2
theorem new_sm {S S':St} {v:Vr} (h:New S S' v) (hs:stSm S) (hv:v.names.length<100000000):stSm S':=fun m x hx=>by
  by_cases e:m=((S.length+1:Nat):Int)
  · rw [e,h.at_] at hx;cases hx;exact hv
  · rw [h.oth m e] at hx;exact hs m x hx
theorem recR_eq {ns:List (List UInt8)} {ks:List Ty} {n:Int} (hs:ns.Pairwise (fun a b=>a<b)) (hl:ns.length=ks.length) (h0:0≤n) (hk:∀ k∈ks,Gt k):recR ns ks n=.mk 5 [] n ns ks:=by
  have hg:Gt (recR ns ks n):=recT_G (addF_keys _ zq) h0 fun p hp=>by
    rcases addF_mem hp with h|h
    · exact hk _ h.2
    · simp at h
  refine rec_ext hg (.rcd n ns ks h0 hs hl hk) rfl rfl rfl fun s=>?_
  unfold recR
  rw [recT_fg (addF_keys _ zq),addF_get (t:=fldT ns ks) (lt_nodup hs) hl]
  show (fg s (fldT ns ks)).orElse _=fg s (.mk 5 [] n ns ks)
  have:fg s (fldT ns ks)=fg s (.mk 5 [] n ns ks):=rfl
  rw [this]
  cases fg s (.mk 5 [] n ns ks) <;> simp [mget]
structure BlK (lv:Int) (S T:St) (h h':Int→Nat) (d:Nat) (σ σ':Int→Ty) (t:Ty) (k:Nat) (ns:List (List UInt8)) (ks:List Ty):Prop where
  inv:Inv T
  sol:Sol T σ'
  agr:∀ n x,mget n S=some x→σ' n=σ n
  old:∀ n x,mget n S=some x→h' n=h n
  stf:StF T h'
  sm:stSm T
  len:T.length≤S.length+Ty.szL (t.kids.take k)
  fix:∀ m x,mget m S=some x→mget m T=some x
  nw:∀ m x,mget m T=some x→mget m S=some x∨(x.lv=lv∧x.bd=false∧(x.row=false→x.names=[]))
  sl:ns.Sublist (t.names.take k)
  ll:ns.length=ks.length
  ok:∀ p∈ns.zip ks,tyN T p.2∧Ft h' d p.2∧fg p.1 t=some (sub σ' p.2)
theorem zip_snoc {α β:Type} {a:List α} {b:List β} {x:α} {y:β} (h:a.length=b.length):(a++[x]).zip (b++[y])=a.zip b++[(x,y)]:=by
  rw [List.zip_append h];rfl
theorem kid_zip {α β:Type} {a:List α} {b:List β} (h:a.length=b.length) {y:β} (hy:y∈b):∃ x,(x,y)∈a.zip b:=by
  obtain ⟨i,hi,e⟩:=List.getElem_of_mem hy
  have hz:i<(a.zip b).length:=by rw [List.length_zip];omega
  have hm:=List.getElem_mem hz
  rw [List.getElem_zip,e] at hm
  exact ⟨_,hm⟩
theorem sub_agr {S:St} {σ τ:Int→Ty} {t:Ty} (h:tyN S t) (ha:∀ n x,mget n S=some x→τ n=σ n):sub τ t=sub σ t:=sub_congr t fun o ho=>by obtain ⟨x,h1,_⟩:=h.oc o ho;exact ha _ x h1
theorem tyN.in {S:St} {t:Ty} (h:tyN S t):∀ o∈occs t,∃ y,mget o.n S=some y∧y.row=o.row:=h.s.in
section
variable {l:List Int} {lv:Int} {n:Nat}
theorem blurK_tot {d q:Nat} {t:Ty} {p:Int} {S:St} {h σ} (ih:∀ (x:Ty) (S:St) (q:Nat) (h:Int→Nat) (σ:Int→Ty),Cl d x→x.sz≤n→Inv S→Sol S σ→StF S h→stSm S→S.length+x.sz<100000000→∃ r S' h' σ',blurF l lv n S x q=some (r,S')∧Bl lv S S' h h' d σ σ' r x)
    (hnd:t.names.Nodup) (hl:t.names.length=t.kids.length) (hkc:∀ k∈t.kids,Cl d k) (hkn:∀ k∈t.kids,k.sz≤n) (hi:Inv S) (hs:Sol S σ) (hF:StF S h) (hm:stSm S) (hlen:S.length+t.sz<100000000) :
    ∀ k,k≤t.names.length→∃ ns ks T h' σ',blurK (blurF l lv n) l t p q k S=some (ns,ks,T)∧BlK lv S T h h' d σ σ' t k ns ks∧(p > 3→ns=t.names.take k)
  | 0,_=>⟨[],[],S,h,σ,rfl,⟨hi,hs,fun _ _ _=>rfl,fun _ _ _=>rfl,hF,hm,by simp [Ty.szL],fun _ _ h=>h,fun _ _ h=>.inl h,by simp,rfl,by simp⟩,fun _=>by simp⟩
  | k+1,hk=>by
    obtain ⟨ns,ks,T,h1,σ1,e1,b1,g1⟩:=blurK_tot ih hnd hl hkc hkn hi hs hF hm hlen k oq
    have hkk:k<t.kids.length:=by omega
    have hkm:t.kids.getD k Ty.zero∈t.kids:=by rw [List.getD_eq_getElem?_getD,List.getElem?_eq_getElem hkk];exact List.getElem_mem hkk
    have hsz:=szL_at t.kids k hkk
    have hst:=sz_eq t
    have hzt:Ty.szL (t.kids.take k)+(t.kids.getD k Ty.zero).sz≤Ty.szL (t.kids.take (k+1)):=by
      rw [take_snocT t.kids k hkk,szL_app];simp only [Ty.szL];omega
    have hfk:fg (t.names.getD k []) t=some (t.kids.getD k Ty.zero):=(fg_idx hnd hl).2 ⟨k,by omega,rfl,rfl⟩
    have htk:t.names.take (k+1)=t.names.take k++[t.names.getD k []]:=take_at t.names k [] oq
    by_cases hc:p > 3∨pickI l (q+5+k) 2=0
    · obtain ⟨r,T2,h2,σ2,e2,b2⟩:=ih (t.kids.getD k Ty.zero) T (q+2+2 * k) h1 σ1 (hkc _ hkm) (hkn _ hkm) b1.inv b1.sol b1.stf b1.sm (by have:=b1.len;omega)
      refine ⟨ns++[t.names.getD k []],ks++[r],T2,h2,σ2,?_,⟨b2.inv,b2.sol,fun n x hx=>?_,fun n x hx=>?_,b2.stf,b2.sm,?_,fun m x hx=>b2.fix m x (b1.fix m x hx),fun m x hx=>?_,?_,by simp [b1.ll],fun p' hp=>?_⟩,fun hp=>?_⟩
      · rw [blurK,e1];simp only [if_pos hc,e2]
      · rw [b2.agr n x (b1.fix n x hx),b1.agr n x hx]
      · rw [b2.old n x (b1.fix n x hx),b1.old n x hx]
      · have:=b1.len;have:=b2.len;omega
      · rcases b2.nw m x hx with h|h
        · exact b1.nw m x h
        · exact .inr h
      · rw [htk];exact b1.sl.append (List.Sublist.refl _)
      · rw [zip_snoc b1.ll] at hp
        rcases List.mem_append.1 hp with h|h
        · obtain ⟨o1,o2,o3⟩:=b1.ok p' h
          exact ⟨o1.up b2.fix,o2.in b2.old o1.in,by rw [o3,sub_agr o1 b2.agr]⟩
        · rw [List.mem_singleton.1 h]
          exact ⟨b2.ty,b2.ft,by rw [b2.eq];exact hfk⟩
      · rw [g1 hp,htk]
    · refine ⟨ns,ks,T,h1,σ1,?_,⟨b1.inv,b1.sol,b1.agr,b1.old,b1.stf,b1.sm,by have:=b1.len;omega,b1.fix,b1.nw,?_,b1.ll,b1.ok⟩,fun hp=>absurd (.inl hp) hc⟩
      · rw [blurK,e1];simp only [if_neg hc]
      · rw [htk];exact b1.sl.trans (List.sublist_append_left _ _)
theorem blur_tot:∀ (n d:Nat) (t:Ty) (S:St) (q:Nat) (h:Int→Nat) (σ:Int→Ty),szB d<lim→Cl d t→t.sz≤n→Inv S→Sol S σ→StF S h→stSm S→S.length+t.sz<100000000→∃ r S' h' σ',blurF l lv n S t q=some (r,S')∧Bl lv S S' h h' d σ σ' r t
  | 0,d,t,S,q,h,σ,hb,hc,hz,hi,hs,hF,hm,hlen=>by have:=sz_eq t;omega
  | n+1,d,t,S,q,h,σ,hb,hc,hz,hi,hs,hF,hm,hlen=>by
    have wf:=hi.1
    have hst:=sz_eq t
    by_cases hp:pickI l q 6=0
    · have hnew:=set_new wf (v:=⟨false,lv,false,Ty.zero,[]⟩) rfl .nil
      refine ⟨.mk 6 [] ((S.length+1:Nat):Int) [] [],varS lv S,(fun m=>if m=((S.length+1:Nat):Int) then d else h m),upd σ ((S.length+1:Nat):Int) t,by rw [blurF,if_pos hp,if_pos (show S.length<100000000 by omega)],⟨hi.new hnew,hnew.sol wf hs hc.gt (fun h=>by cases h),fun n x hx=>upd_ne (wf.ne hx),fun n x hx=>if_neg (wf.ne hx),new_stf wf hnew hF,.var d _ zq,?_,⟨.var _ oq,?_,fun o ho=>?_⟩,new_sm hnew hm zq,?_,new_fix wf hnew,new_nw hnew rfl fun _=>rfl⟩⟩
      · rw [sub_var,upd_at]
      · rw [whl_eq];simp [whlL,fmd];omega
      · rcases occs_cases ho with h|h|⟨t',ht,_⟩
        · rw [h.2];exact ⟨_,hnew.at_,rfl,rfl⟩
        · exact absurd h.1 dq
        · simp at ht
      · have:=hnew.len
        have e:(varS lv S).length=S.length+1:=this
        rw [e];omega
    cases hc with
    | base d k x hf h4 h5 h6 hx =>
      refine ⟨_,_,h,σ,by rw [blurF,if_neg hp,if_neg (fun hk=>h4 hk.1),if_pos (show ¬ (Ty.mk k x 0 [] []).kind=5 from h5)],⟨hi,hs,fun _ _ _=>rfl,fun _ _ _=>rfl,hF,.leaf d k x ⟨hx,hf⟩ h5 h6,(Cl.base d k x hf h4 h5 h6 hx).sub,(Cl.base d k x hf h4 h5 h6 hx).tyN,hm,by omega,fun _ _ h=>h,fun _ _ h=>.inl h⟩⟩
    | list d x hx =>
      simp only [Ty.kids_mk,Ty.szL,Ty.name_mk,Ty.names_mk,szS,List.length_nil] at hst
      obtain ⟨r,S',h',σ',e,b⟩:=blur_tot n d x S (q+1) h σ (by simp only [szB] at hb;omega) hx oq hi hs hF hm oq
      refine ⟨lsT r,S',h',σ',?_,⟨b.inv,b.sol,b.agr,b.old,b.stf,.list d r b.ft,?_,⟨.list r b.ty.gt,?_,fun o ho=>b.ty.oc o (Gt.occ_list ho)⟩,b.sm,by have:=b.len;omega,b.fix,b.nw⟩⟩
      · rw [blurF,if_neg hp,if_pos ⟨rfl,rfl⟩]
        simp only [Ty.kids_mk,List.getD_cons_zero,e]
      · show sub σ' (.mk 4 [] 0 [] [r])=_
        rw [sub_no σ' _ _ _ dq dq]
        simp only [List.map_cons,List.map_nil,b.eq]
      · rw [whl_eq];simp [lsT,whlL,b.ty.wh,fmd]
    | rcd d ns0 ks0 hsrt hmem hl hk =>
      simp only [Ty.kids_mk,Ty.name_mk,Ty.names_mk,List.length_nil] at hst
      have hbd:szB d<lim:=by simp only [szB] at hb;omega
      have hkn:∀ k∈ks0,k.sz≤n:=fun k hk'=>by
        obtain ⟨i,hi',e⟩:=List.getElem_of_mem hk'
        have:=szL_getD ks0 i hi'
        rw [List.getD_eq_getElem?_getD,List.getElem?_eq_getElem hi'] at this
        have:ks0[i].sz<_:=this
        rw [e] at this;omega
      obtain ⟨ns,ks,T,h1,σ1,e1,b1,g1⟩:=blurK_tot (l:=l) (lv:=lv) (n:=n) (d:=d) (q:=q) (t:=.mk 5 [] 0 ns0 ks0) (p:=pickI l q 6) (S:=S) (h:=h) (σ:=σ)
        (fun x S q h σ c1 c2 c3 c4 c5 c6 c7=>blur_tot n d x S q h σ hbd c1 c2 c3 c4 c5 c6 c7) (lt_nodup hsrt) hl hk hkn hi hs hF hm hlen ns0.length (Nat.le_refl _)
      have hsl:ns.Sublist ns0:=by have:=b1.sl;simpa using this
      have hns:ns.Pairwise (fun a b=>a<b):=hsrt.sublist hsl
      have hnm:∀ s∈ns,s∈nm4:=fun s hs'=>hmem s (hsl.subset hs')
      have hkz:∀ k∈ks,tyN T k∧Ft h1 d k:=fun k hk'=>by
        obtain ⟨s,hz'⟩:=kid_zip b1.ll hk'
        obtain ⟨o1,o2,_⟩:=b1.ok _ hz'
        exact ⟨o1,o2⟩
      have hkg:∀ k∈ks,Gt k:=fun k hk'=>(hkz k hk').1.gt
      have wfT:=b1.inv.1
      have hszl:Ty.szL (ks0.take ns0.length)≤Ty.szL ks0:=szL_take _ _
      have hTl:=b1.len
      simp only [Ty.kids_mk] at hTl
      have hfR:∀ (m:Int) (s:List UInt8) x,fg s (.mk 5 [] m ns ks)=some x→fg s (.mk 5 [] 0 ns0 ks0)=some (sub σ1 x)∧tyN T x:=fun m s x hf=>by
        obtain ⟨o1,_,o3⟩:=b1.ok (s,x) (mg_mem hf)
        exact ⟨o3,o1⟩
      have hGt:Gt (Ty.mk 5 [] 0 ns0 ks0):=.rcd 0 ns0 ks0 dq hsrt hl fun k hk'=>(hk k hk').gt
      by_cases h4:pickI l q 6 > 4
      · have hnn:ns=ns0:=by have:=g1 oq;simpa using this
        refine ⟨.mk 5 [] 0 ns ks,T,h1,σ1,?_,⟨b1.inv,b1.sol,b1.agr,b1.old,b1.stf,.rcd d 0 ns ks (fun h=>absurd rfl h) (lt_nodup hns) hnm b1.ll fun k hk'=>(hkz k hk').2,?_,⟨.rcd 0 ns ks dq hns b1.ll hkg,?_,fun o ho=>?_⟩,b1.sm,by omega,b1.fix,b1.nw⟩⟩
        · rw [blurF,if_neg hp,if_neg (fun hk=>absurd hk.1 zq),if_neg (fun hk=>hk rfl),if_neg (fun hk=>hk hl)]
          simp only [Ty.names_mk,e1]
          rw [if_pos h4]
        · rw [sub_no σ1 _ _ _ dq (fun _=>rfl)]
          refine rec_ext (.rcd 0 ns _ dq hns (by simp [b1.ll]) fun k hk'=>?_) hGt rfl rfl rfl fun s=>?_
          · obtain ⟨x,hx,rfl⟩:=List.mem_map.1 hk'
            exact sub_G (hkg x hx) ((hkz x hx).1.s.okG b1.sol)
          · rw [fg_map σ1 s 5 5 [] [] 0 0 ns ks]
            cases hf:fg s (.mk 5 [] 0 ns ks) with
            | some x=>rw [(hfR 0 s x hf).1];rfl
            | none =>
              have h2:s∉ns0:=by rw [← hnn];exact (fg_none (t:=.mk 5 [] 0 ns ks) b1.ll).1 hf
              rw [(fg_none (t:=.mk 5 [] 0 ns0 ks0) hl).2 h2];rfl
        · rw [whl_eq,fmd_rec dq hns hnm b1.ll];exact whlL_mem fun k hk'=>(hkz k hk').1.wh
        · rcases rec_occ (t:=.mk 5 [] 0 ns ks) rfl ho with ⟨hn,_⟩|⟨k,hk',ho⟩
          · exact absurd rfl hn
          · exact (hkz k hk').1.oc o ho
      · have hl4:=sub4 (lt_nodup hns) hnm
        have hTlim:T.length<100000000:=by omega
        have hrg:recG T ns ks:=by
          refine ⟨by omega,fun i=>?_,fun i=>?_,b1.sm,hTlim,⟨b1.ll,fun i hi'=>?_,fun i hi'=>?_,lt_nodup hns⟩⟩
          · by_cases hi':i<ns.length
            · rw [List.getD_eq_getElem?_getD,List.getElem?_eq_getElem hi']
              exact Nat.lt_of_le_of_lt (nm4_short _ (hnm _ (List.getElem_mem hi'))) dq
            · rw [List.getD_eq_getElem?_getD,List.getElem?_eq_none oq];exact (by decide:0<100000000)
          · by_cases hi':i<ks.length
            · rw [List.getD_eq_getElem?_getD,List.getElem?_eq_getElem hi']
              exact Nat.lt_of_le_of_lt (hkz _ (List.getElem_mem hi')).2.sz hbd
            · rw [List.getD_eq_getElem?_getD,List.getElem?_eq_none oq];exact (by decide:1<100000000)
          · rw [List.getD_eq_getElem?_getD,List.getElem?_eq_getElem hi']
            exact nm4_fits _ (hnm _ (List.getElem_mem hi'))
          · have hi2:i<ks.length:=by rw [← b1.ll];exact hi'
            rw [List.getD_eq_getElem?_getD,List.getElem?_eq_getElem hi2]
            exact (hkz _ (List.getElem_mem hi2)).1.has
        have hre:∀ m:Int,0≤m→recR ns ks m=.mk 5 [] m ns ks:=fun m hm'=>recR_eq hns b1.ll hm' hkg
        have hnames:(recR ns ks 0).names=ns:=by rw [hre 0 dq];rfl
        have hnew:=set_new wfT (v:=⟨true,lv,false,Ty.zero,ns⟩) rfl hns
        have hwf:=fun s=>onT_fg (a:=.mk 5 [] 0 ns0 ks0) (b:=.mk 5 [] 0 ns ks) (n:=0) (lt_nodup hsrt) hl s
        have hwg:Gt (onT (.mk 5 [] 0 ns0 ks0) (.mk 5 [] 0 ns ks) 0):=onT_G (lt_nodup hsrt) hl dq fun k hk'=>(hk k hk').gt
        have hsol:=hnew.sol wfT b1.sol hwg (fun _=>⟨rfl,fun s hs'=>by rw [hwf,if_pos (show s∈(Ty.mk 5 [] 0 ns ks).names from hs')]⟩)
        have hfix:=new_fix wfT hnew
        have hty:tyN (mset ((T.length+1:Nat):Int) ⟨true,lv,false,Ty.zero,ns⟩ T) (.mk 5 [] ((T.length+1:Nat):Int) ns ks):=by
          refine ⟨.rcd _ ns ks oq hns b1.ll hkg,?_,fun o ho=>?_⟩
          · rw [whl_eq,fmd_rec oq hns hnm b1.ll];exact whlL_mem fun k hk'=>(hkz k hk').1.wh
          · rcases rec_occ (t:=.mk 5 [] ((T.length+1:Nat):Int) ns ks) rfl ho with ⟨_,rfl⟩|⟨k,hk',ho⟩
            · exact ⟨_,hnew.at_,rfl,rfl⟩
            · exact ((hkz k hk').1.up hfix).oc o ho
        refine ⟨.mk 5 [] ((T.length+1:Nat):Int) ns ks,mset ((T.length+1:Nat):Int) ⟨true,lv,false,Ty.zero,ns⟩ T,(fun m=>if m=((T.length+1:Nat):Int) then d+1 else h1 m),_,?_,⟨b1.inv.new hnew,hsol,fun n x hx=>?_,fun n x hx=>?_,new_stf wfT hnew b1.stf,?_,?_,hty,new_sm hnew b1.sm (show ns.length<_ by omega),?_,fun m x hx=>hfix m x (b1.fix m x hx),fun m x hx=>?_⟩⟩
        · rw [blurF,if_neg hp,if_neg (fun hk=>absurd hk.1 zq),if_neg (fun hk=>hk rfl),if_neg (fun hk=>hk hl)]
          simp only [Ty.names_mk,e1]
          rw [if_neg h4,if_pos hrg,hre _ oq,hnames]
          rfl
        · rw [upd_ne (wfT.ne (b1.fix n x hx))];exact b1.agr n x hx
        · exact (if_neg (wfT.ne (b1.fix n x hx))).trans (b1.old n x hx)
        · refine .rcd d _ ns ks (fun _=>by simp) (lt_nodup hns) hnm b1.ll fun k hk'=>(hkz k hk').2.in (fun n x hx=>if_neg (wfT.ne hx)) (hkz k hk').1.in
        · refine rec_ext (sub_G hty.gt (hty.s.okG hsol)) hGt (by rw [sub_kind zq];rfl) rfl ?_ fun s=>?_
          · rw [sub_n (by rfl),if_neg (show ¬ (Ty.mk 5 [] ((T.length+1:Nat):Int) ns ks).n=0 by rw [Ty.n_mk];omega)]
            show (upd σ1 _ _ ((T.length+1:Nat):Int)).n=0
            rw [upd_at];rfl
          · rw [sub_fg hty.gt rfl (hty.s.okG hsol),if_neg (show ¬ (Ty.mk 5 [] ((T.length+1:Nat):Int) ns ks).n=0 by rw [Ty.n_mk];omega)]
            show (fg s (upd σ1 _ _ ((T.length+1:Nat):Int))).orElse _=_
            rw [upd_at,hwf]
            by_cases hs':s∈ns
            · rw [if_pos (show s∈(Ty.mk 5 [] 0 ns ks).names from hs')]
              obtain ⟨x,hx⟩:=fg_some (t:=.mk 5 [] ((T.length+1:Nat):Int) ns ks) b1.ll hs'
              rw [hx,(hfR _ s x hx).1]
              simp only [Option.orElse_none,Option.map_some]
              rw [sub_agr (hfR _ s x hx).2 fun n y hy=>upd_ne (wfT.ne hy)]
            · rw [if_neg (show s∉(Ty.mk 5 [] 0 ns ks).names from hs'),(fg_none (t:=.mk 5 [] ((T.length+1:Nat):Int) ns ks) b1.ll).2 hs']
              cases fg s (.mk 5 [] 0 ns0 ks0) <;> simp
        · rw [hnew.len];omega
        · rcases new_nw hnew rfl (fun h=>by cases h) m x hx with h|h
          · exact b1.nw m x h
          · exact .inr h
end
end Go.Proofs.YtdikgijfekfaoaaGreatDoor
namespace Go.Proofs.YtdikgijfekfaoaaGreatDoor
open Go.Proofs.YtdikgijfekfaoaaGreatDoor.Abs
def Bc (σ:Int→Ty) (m:Bd):Prop:=∀ n u,mget n m=some u→u=σ n
theorem Bc.ok {σ:Int→Ty} {m:Bd} (h:Bc σ m) (n:Int):bdOk m n (σ n)=true:=by
  unfold bdOk
  cases hm:mget n m with
  | none=>rfl
  | some o=>rw [h n o hm];exact beq_refl _
theorem Bc.set {σ:Int→Ty} {m:Bd} (h:Bc σ m) (n:Int):Bc σ (mset n (σ n) m):=fun k u hk=>by
  rw [mget_mset] at hk
  split at hk
  · rename_i e;cases hk;rw [e]
  · exact h k u hk
theorem mTL_ok {σ:Int→Ty} {c:Ty} (hcn:c.names.Nodup) (hcl:c.names.length=c.kids.length):∀ (ns:List (List UInt8)) (ks:List Ty) (m:Bd),ns.length=ks.length→(∀ p∈ns.zip ks,fg p.1 c=some (sub σ p.2)) →
    (∀ k∈ks,∀ m,Bc σ m→(mT k (sub σ k) m).1=true∧Bc σ (mT k (sub σ k) m).2)→Bc σ m→(mTL ns ks c m).1=true∧Bc σ (mTL ns ks c m).2
  | [],ks,m,_,_,_,hm=>by unfold mTL;exact ⟨rfl,hm⟩
  | s::ns,[],m,hl,_,_,_=>by simp at hl
  | s::ns,k::ks,m,hl,hf,hk,hm=>by
    have h1:=hf (s,k) (by rw [List.zip_cons_cons];exact List.mem_cons_self)
    have hi:¬ idxS c.names s<0:=by
      intro h
      exact idx_no h (fg_name h1)
    have h2:=idx_fg hcn hcl hi
    rw [h1] at h2
    obtain ⟨q1,q2⟩:=hk k List.mem_cons_self m hm
    rw [mTL,if_neg hi,← Option.some.inj h2,if_pos q1]
    exact mTL_ok hcn hcl ns ks _ (by simpa using hl) (fun p hp=>hf p (by rw [List.zip_cons_cons];exact List.mem_cons_of_mem _ hp)) (fun k hk'=>hk k (List.mem_cons_of_mem _ hk')) q2
theorem match_ok {σ:Int→Ty} {t:Ty} (hg:Gt t):okG σ t→Dj σ t→∀ m,Bc σ m→(mT t (sub σ t) m).1=true∧Bc σ (mT t (sub σ t) m).2:=by
  induction hg with
  | leaf k x h4 h5 h6 =>
    intro _ _ m hm
    rw [sub_no σ x [] [] h6 (fun h=>absurd h h5)]
    simp only [List.map_nil]
    rw [mT_o (t:=.mk k x 0 [] []) (c:=.mk k x 0 [] []) h6 (fun h=>h.elim (fun h=>h rfl) (fun h=>h rfl)) h5 h4]
    exact ⟨rfl,hm⟩
  | list t h ih =>
    intro ho hd m hm
    obtain ⟨_,_,hk⟩:=hd
    rw [sub_no σ _ _ _ dq dq]
    simp only [List.map_cons,List.map_nil]
    rw [mT_4 (t:=.mk 4 [] 0 [] [t]) (c:=.mk 4 [] 0 [] [sub σ t]) rfl (fun h=>h.elim (fun h=>h rfl) (fun h=>h rfl)) zq]
    simp only [Ty.kids_mk,List.getD_cons_zero]
    exact ih (ho.kid List.mem_cons_self) (hk t zq) m hm
  | var n h =>
    intro _ _ m hm
    rw [sub_var,mT_6 (t:=.mk 6 [] n [] []) rfl]
    exact ⟨hm.ok n,hm.set n⟩
  | rcd n ns ks h0 hs hl hk ih =>
    intro ho hd m hm
    have hG:Gt (Ty.mk 5 [] n ns ks):=.rcd n ns ks h0 hs hl hk
    obtain ⟨_,hr,hdk⟩:=hd
    have hgc:=sub_G hG ho
    have hkc:(sub σ (Ty.mk 5 [] n ns ks)).kind=5:=by rw [sub_kind zq];rfl
    obtain ⟨c1,c2,c3,c4,c5⟩:=hgc.sorted hkc
    have hfg:=sub_fg hG rfl ho
    have hfk:∀ s x,fg s (.mk 5 [] n ns ks)=some x→fg s (sub σ (.mk 5 [] n ns ks))=some (sub σ x):=by
      intro s x hx
      rw [hfg s,hx]
      by_cases hn:(Ty.mk 5 [] n ns ks).n=0
      · rw [if_pos hn];rfl
      · rw [if_neg hn,hr rfl hn s (fg_name hx)];rfl
    have hL:=mTL_ok (σ:=σ) (lt_nodup c1) c2 ns ks m hl (fun p hp=>hfk p.1 p.2 (mg_of (l:=ns.zip ks) (by rw [zip_fst' hl];exact lt_nodup hs) hp)) (fun k hk' m hm=>ih k hk' (ho.kid hk') (hdk k hk') m hm) hm
    have hne:¬ (¬ (Ty.mk 5 [] n ns ks).kind=(sub σ (Ty.mk 5 [] n ns ks)).kind∨¬ (Ty.mk 5 [] n ns ks).name=(sub σ (Ty.mk 5 [] n ns ks)).name):=fun h=>h.elim (fun h=>h hkc.symm) (fun h=>h c3.symm)
    by_cases hn:n=0
    · rw [mT_5z (t:=.mk 5 [] n ns ks) rfl hne hL.1 hn]
      subst hn
      refine ⟨?_,hL.2⟩
      rw [sub_no σ _ _ _ dq (fun _=>rfl)]
      simp
    · rw [mT_5n (t:=.mk 5 [] n ns ks) rfl hne hL.1 hn]
      have hgr:=ho _ (occs_row hn)
      have e:recT (onL (sub σ (Ty.mk 5 [] n ns ks)) (.mk 5 [] n ns ks) (sub σ (Ty.mk 5 [] n ns ks)).names.length) (sub σ (Ty.mk 5 [] n ns ks)).n=σ n:=by
        show onT (sub σ (Ty.mk 5 [] n ns ks)) (.mk 5 [] n ns ks) (sub σ (Ty.mk 5 [] n ns ks)).n=σ n
        refine rec_ext (onT_G (lt_nodup c1) c2 c4 c5) hgr.1 rfl (hgr.2 rfl) ?_ fun s=>?_
        · show (sub σ (Ty.mk 5 [] n ns ks)).n=_
          have:=sub_n (σ:=σ) (t:=Ty.mk 5 [] n ns ks) rfl
          rw [Ty.n_mk,if_neg hn] at this
          exact this
        · rw [onT_fg (lt_nodup c1) c2]
          by_cases hm':s∈ns
          · rw [if_pos (show s∈(Ty.mk 5 [] n ns ks).names from hm')]
            exact (hr rfl hn s hm').symm
          · rw [if_neg (show s∉(Ty.mk 5 [] n ns ks).names from hm'),hfg s,if_neg (show ¬ (Ty.mk 5 [] n ns ks).n=0 from hn),(fg_none (t:=.mk 5 [] n ns ks) hl).2 hm']
            show (fg s (σ n)).orElse _=fg s (σ n)
            cases fg s (σ n) <;> rfl
      rw [e]
      exact ⟨hL.2.ok n,hL.2.set n⟩
end Go.Proofs.YtdikgijfekfaoaaGreatDoor
namespace Go.Proofs.YtdikgijfekfaoaaGreatDoor
open Go.Proofs.YtdikgijfekfaoaaGreatDoor.Abs
section
variable {P:St→St→Prop} (hr:∀ S,P S S) (ht:∀ S T U,P S T→P T U→P S U) (hb:∀ f S n t ok S',bindF f S n t=some (ok,S')→P S S')
  (hn:∀ S a b,rok a→rok b→(mget a.n S).isSome=true→(mget b.n S).isSome=true→P S (newV S a b))
include hr ht hb hn
theorem pass_pres {U:UF} (hU:∀ S a b ok S',U S a b=some (ok,S')→P S S') (b:Ty):∀ (ns:List (List UInt8)) (ks:List Ty) (S:St) (D:Dn) (ag:Bool) (ok:Bool) (S':St) (D':Dn) (ag':Bool),passF U b ns ks S D ag=some (ok,S',D',ag')→P S S'
  | [],ks,S,D,ag,ok,S',D',ag',h=>by cases ks <;> (simp only [passF,Option.some.injEq,Prod.mk.injEq] at h;obtain ⟨_,rfl,_⟩:=h;exact hr S)
  | s::ns,[],S,D,ag,ok,S',D',ag',h=>by simp only [passF,Option.some.injEq,Prod.mk.injEq] at h;obtain ⟨_,rfl,_⟩:=h;exact hr S
  | s::ns,k::ks,S,D,ag,ok,S',D',ag',h=>by
    rw [passF] at h
    split at h
    · exact pass_pres hU b ns ks S D ag ok S' D' ag' h
    · split at h
      · rename_i S1 h1
        exact ht _ _ _ (hU _ _ _ _ _ h1) (pass_pres hU b ns ks S1 _ _ ok S' D' ag' h)
      · rename_i S1 h1
        simp only [Option.some.injEq,Prod.mk.injEq] at h
        obtain ⟨_,rfl,_⟩:=h
        exact hU _ _ _ _ _ h1
      · cases h
theorem loop_pres {U:UF} (hU:∀ S a b ok S',U S a b=some (ok,S')→P S S') {f:Nat}:∀ (g:Nat) (S:St) (a b:Ty) (D:Dn) (ok:Bool) (S':St) (a' b':Ty),loopF f U g S a b D=some (ok,S',a',b')→P S S'∧rok a'∧rok b'
  | 0,S,a,b,D,ok,S',a',b',h=>by simp [loopF] at h
  | g+1,S,a,b,D,ok,S',a',b',h=>by
    rw [loopF] at h
    split at h <;> try (cases h;done)
    split at h <;> try (cases h;done)
    split at h <;> try (cases h;done)
    rename_i hro
    split at h <;> try (cases h;done)
    · rename_i S1 D1 h1
      obtain ⟨q1,q2⟩:=loop_pres hU g S1 _ _ _ ok S' a' b' h
      exact ⟨ht _ _ _ (pass_pres hr ht hb hn hU _ _ _ _ _ _ _ _ _ _ h1) q1,q2⟩
    · rename_i S1 D1 h1
      simp only [Option.some.injEq,Prod.mk.injEq] at h
      obtain ⟨_,rfl,rfl,rfl⟩:=h
      exact ⟨pass_pres hr ht hb hn hU _ _ _ _ _ _ _ _ _ _ h1,hro⟩
    · rename_i S1 D1 D2 h1
      simp only [Option.some.injEq,Prod.mk.injEq] at h
      obtain ⟨_,rfl,rfl,rfl⟩:=h
      exact ⟨pass_pres hr ht hb hn hU _ _ _ _ _ _ _ _ _ _ h1,hro⟩
theorem fin_pres {f:Nat} {S S':St} {a b:Ty} {ok:Bool} (h:finF f S a b=some (ok,S')) (ha:rok a) (hb':rok b):P S S':=by
  unfold finF at h
  split at h <;> try (cases h;done)
  split at h
  · simp only [Option.some.injEq,Prod.mk.injEq] at h;obtain ⟨_,rfl⟩:=h;exact hr S
  split at h
  · simp only [Option.some.injEq,Prod.mk.injEq] at h;obtain ⟨_,rfl⟩:=h;exact hr S
  split at h
  · exact hb _ _ _ _ _ _ h
  split at h
  · exact hb _ _ _ _ _ _ h
  split at h <;> try (cases h;done)
  rename_i hg
  have h0:=hn S a b ha hb' hg.2.1 hg.2.2
  split at h <;> try (cases h;done)
  · rename_i S2 h2
    exact ht _ _ _ h0 (ht _ _ _ (hb _ _ _ _ _ _ h2) (hb _ _ _ _ _ _ h))
  · rename_i S2 h2
    simp only [Option.some.injEq,Prod.mk.injEq] at h
    obtain ⟨_,rfl⟩:=h
    exact ht _ _ _ h0 (hb _ _ _ _ _ _ h2)
theorem uni_pres:∀ f S a b ok S',unifyF f S a b=some (ok,S')→P S S'
  | 0,S,a,b,ok,S',h=>by simp [unifyF] at h
  | f+1,S,a,b,ok,S',h=>by
    rw [unifyF] at h
    split at h <;> try (cases h;done)
    split at h <;> try (cases h;done)
    split at h <;> try (cases h;done)
    split at h
    · simp only [Option.some.injEq,Prod.mk.injEq] at h;obtain ⟨_,rfl⟩:=h;exact hr S
    split at h
    · exact hb _ _ _ _ _ _ h
    split at h
    · exact hb _ _ _ _ _ _ h
    split at h
    · simp only [Option.some.injEq,Prod.mk.injEq] at h;obtain ⟨_,rfl⟩:=h;exact hr S
    split at h
    · unfold rowsF at h
      split at h <;> try (cases h;done)
      · rename_i S1 a1 b1 h1
        obtain ⟨q1,q2,q3⟩:=loop_pres hr ht hb hn (fun S a b ok S'=>uni_pres f S a b ok S') _ _ _ _ _ _ _ _ _ h1
        exact ht _ _ _ q1 (fin_pres hr ht hb hn h q2 q3)
      · rename_i S1 a1 b1 h1
        simp only [Option.some.injEq,Prod.mk.injEq] at h
        obtain ⟨_,rfl⟩:=h
        exact (loop_pres hr ht hb hn (fun S a b ok S'=>uni_pres f S a b ok S') _ _ _ _ _ _ _ _ _ h1).1
    split at h
    · split at h <;> try (cases h;done)
      exact uni_pres f _ _ _ _ _ h
    · simp only [Option.some.injEq,Prod.mk.injEq] at h;obtain ⟨_,rfl⟩:=h;exact hr S
end
theorem sm_set {S:St} {n:Int} {x:Vr} (h:stSm S) (hx:x.names.length<100000000):stSm (mset n x S):=fun k y hy=>by
  rw [mget_mset] at hy
  split at hy
  · cases hy;exact hx
  · exact h k y hy
theorem sm_low {lv:Int}:∀ (ks:List Int) (S:St),stSm S→stSm (lowL lv ks S)
  | [],S,h=>h
  | k::ks,S,h=>by
    rw [lowL]
    split
    · rename_i w hw
      exact sm_low ks _ (sm_set h (h k w hw))
    · exact sm_low ks _ h
theorem sm_bind {f:Nat} {S S':St} {n:Int} {t:Ty} {ok:Bool} (h:bindF f S n t=some (ok,S')) (hs:stSm S):stSm S':=by
  unfold bindF at h
  split at h <;> try (cases h;done)
  rename_i v hv
  split at h <;> try (cases h;done)
  split at h <;> try (cases h;done)
  split at h
  · simp only [Option.some.injEq,Prod.mk.injEq] at h;obtain ⟨_,rfl⟩:=h;exact hs
  · simp only [Option.some.injEq,Prod.mk.injEq] at h;obtain ⟨_,rfl⟩:=h
    exact sm_set (sm_low _ _ hs) (hs n v hv)
theorem names_sz {t:Ty} (h:rok t):3 * t.names.length<100000000:=by
  obtain ⟨h1,h2⟩:=h
  obtain ⟨k,x,n,l,ks⟩:=t
  simp only [Ty.names_mk,Ty.kids_mk] at h2 ⊢
  have a1:l.length≤szS l:=by
    clear h1 h2
    induction l with
    | nil=>simp
    | cons s l ih=>simp only [szS,List.length_cons];omega
  have a2:2 * ks.length≤Ty.szL ks:=by
    clear h1 h2
    induction ks with
    | nil=>simp
    | cons s l ih =>
      have:1≤s.sz:=by cases s;rw [Ty.sz];omega
      simp only [Ty.szL,List.length_cons];omega
  rw [Ty.sz] at h1
  show 3 * l.length<_
  have:lim=100000000:=rfl
  omega
theorem sm_new {S:St} {a b:Ty} (ha:rok a) (hb:rok b) (hs:stSm S):stSm (newV S a b):=by
  refine sm_set hs ?_
  show (uniN a b).length<_
  have h1:=names_sz ha
  have h2:=names_sz hb
  have h3:(uniN a b).Nodup:=lt_nodup (uniN_lt a b)
  have h4:(uniN a b).length≤(a.names++b.names).length:=nd_len h3 fun s hs=>by rw [List.mem_append];exact (uniN_mem a b s).1 hs
  rw [List.length_append] at h4
  omega
theorem uni_sm {f:Nat} {S S':St} {a b:Ty} {ok:Bool} (h:unifyF f S a b=some (ok,S')) (hs:stSm S):stSm S' :=
  uni_pres (P:=fun S S'=>stSm S→stSm S') (fun _ h=>h) (fun _ _ _ h1 h2 h=>h2 (h1 h)) (fun _ _ _ _ _ _ h hs=>sm_bind h hs) (fun S a b ha hb _ _ hs=>sm_new ha hb hs) f S a b ok S' h hs
end Go.Proofs.YtdikgijfekfaoaaGreatDoor
namespace Go.Proofs.YtdikgijfekfaoaaGreatDoor
open Go.Proofs.YtdikgijfekfaoaaGreatDoor.Abs
set_option maxRecDepth 20000
def noN (S:St):Prop:=∀ n x,mget n S=some x→x.row=false→x.names=[]
theorem noN_set {S:St} {n:Int} {x:Vr} (h:noN S) (hx:x.row=false→x.names=[]):noN (mset n x S):=fun k y hy=>by
  rw [mget_mset] at hy
  split at hy
  · cases hy;exact hx
  · exact h k y hy
theorem noN_low {lv:Int}:∀ (ks:List Int) (S:St),noN S→noN (lowL lv ks S)
  | [],S,h=>h
  | k::ks,S,h=>by
    rw [lowL]
    split
    · rename_i w hw
      exact noN_low ks _ (noN_set h (h k w hw))
    · exact noN_low ks _ h
theorem noN_bind {f:Nat} {S S':St} {n:Int} {t:Ty} {ok:Bool} (h:bindF f S n t=some (ok,S')) (hs:noN S):noN S':=by
  unfold bindF at h
  split at h <;> try (cases h;done)
  rename_i v hv
  split at h <;> try (cases h;done)
  split at h <;> try (cases h;done)
  split at h
  · simp only [Option.some.injEq,Prod.mk.injEq] at h;obtain ⟨_,rfl⟩:=h;exact hs
  · simp only [Option.some.injEq,Prod.mk.injEq] at h;obtain ⟨_,rfl⟩:=h
    exact noN_set (noN_low _ _ hs) (hs n v hv)
theorem uni_noN {f:Nat} {S S':St} {a b:Ty} {ok:Bool} (h:unifyF f S a b=some (ok,S')) (hs:noN S):noN S' :=
  uni_pres (P:=fun S S'=>noN S→noN S') (fun _ h=>h) (fun _ _ _ h1 h2 h=>h2 (h1 h)) (fun _ _ _ _ _ _ h hs=>noN_bind h hs) (fun S a b ha hb _ _ hs=>noN_set hs fun h=>by cases h) f S a b ok S' h hs
theorem Bl.noN {lv:Int} {S S':St} {h h':Int→Nat} {d:Nat} {σ σ':Int→Ty} {r t:Ty} (b:Bl lv S S' h h' d σ σ' r t) (hn:noN S):noN S':=fun n x hx hr=>by
  rcases b.nw n x hx with h|h
  · exact hn n x h hr
  · exact h.2.2 hr
theorem whl_of {h:Int→Nat} {t:Ty} (hg:Gt t):∀ b,Ft h b t→whl t=true:=by
  induction hg with
  | leaf k x h4 h5 h6 =>
    intro b hf
    cases hf with
    | leaf _ _ _ hx _ _=>rw [whl_eq,hx.2];rfl
    | var _ _ _=>exact absurd rfl h6
    | rcd _ _ _ _ _ _ _ _ _=>exact absurd rfl h5
  | list t h ih =>
    intro b hf
    cases hf with
    | list c _ ht=>rw [whl_eq];simp [whlL,ih _ ht,fmd]
  | var n hn=>intro b hf;rw [whl_eq];simp [whlL,fmd];omega
  | rcd n ns ks h0 hs hl hk ih =>
    intro b hf
    cases hf with
    | leaf _ _ _ _ h5 _=>exact absurd rfl h5
    | rcd c _ _ _ _ _ hm _ hk'=>rw [whl_eq,fmd_rec h0 hs hm hl];exact whlL_mem fun k hk2=>ih k hk2 c (hk' k hk2)
theorem occ_nm {t:Ty} (hg:Gt t):∀ o∈occs t,o.row=false→o.names=[]:=by
  induction hg with
  | leaf k x h4 h5 h6 =>
    intro o ho
    rcases occs_cases ho with h|h|⟨t',ht,_⟩
    · exact absurd h.1 h6
    · exact absurd h.1 h5
    · simp at ht
  | list t h ih=>intro o ho;exact ih o (Gt.occ_list ho)
  | var n hn =>
    intro o ho _
    rcases occs_cases ho with h|h|⟨t',ht,_⟩
    · rw [h.2]
    · exact absurd h.1 dq
    · simp at ht
  | rcd n ns ks h0 hs hl hk ih =>
    intro o ho hr
    rcases rec_occ (t:=.mk 5 [] n ns ks) rfl ho with ⟨hn,e⟩|⟨k,hk',ho⟩
    · rw [e] at hr;cases hr
    · exact ih k hk' o ho hr
theorem tyN_of {S:St} {h:Int→Nat} {b:Nat} {t:Ty} (hs:tyS S t) (hf:Ft h b t) (hz:noN S):tyN S t:=⟨hs.1,whl_of hs.1 b hf,fun o ho=>by
  obtain ⟨x,h1,h2,h3⟩:=hs.2 o ho
  refine ⟨x,h1,h2,?_⟩
  cases hr:o.row with
  | true=>exact h3 hr
  | false=>rw [occ_nm hs.1 o ho hr];exact hz _ x h1 (h2.trans hr)⟩
theorem unb_le (S:St):unbN S≤S.length:=List.length_filter_le _ _
theorem phi_le (S:St):phi S≤2 * S.length:=by unfold phi;have:=unb_le S;omega
theorem Inv.nil:Inv []:=by
  refine ⟨⟨fun n=>?_,fun _ _ h=>by simp [mget] at h,fun _ _ h=>by simp [mget] at h,fun _ _ h=>by simp [mget] at h⟩,fun n=>idv false n,fun _=>0,⟨⟨fun _ _ h=>by simp [mget] at h,fun _ _ h=>by simp [mget] at h,fun _ _ h=>by simp [mget] at h⟩,fun _ _ h=>by simp [mget] at h,fun _ _ _ _ h=>by simp [mget] at h,fun _ _ h=>by simp [mget] at h,fun _ _ h=>by simp [mget] at h⟩,fun _ _ h=>by simp [mget] at h⟩
  simp [mget];omega
theorem Sol.nil (σ:Int→Ty):Sol [] σ:=⟨fun _ _ h=>by simp [mget] at h,fun _ _ h=>by simp [mget] at h,fun _ _ h=>by simp [mget] at h⟩
theorem StF.nil (h:Int→Nat):StF [] h:=fun _ _ h=>by simp [mget] at h
theorem stSm.nil:stSm []:=fun _ _ h=>by simp [mget] at h
theorem noN.nil:noN []:=fun _ _ h=>by simp [mget] at h
theorem sz3:szB 3<3000:=by decide
theorem general_spec (l m n:List Int) (hl:i64L l) (hm:i64L m) (hn:i64L n):CallsP cx 5 [.imm (l.map (.int .i64)),.imm (m.map (.int .i64)),.imm (n.map (.int .i64))] (.bool true):=by
  have hc:Cl 3 (closedT l 3 0):=closedT_cl l 3 0
  have hT:CallsP cx 13 [.imm (l.map (.int .i64)),.int .i64 0,.int .i64 3] (closedT l 3 0).v:=closed_P (closed_raw3 l 0 3 hl dq dq)
  generalize closedT l 3 0=t at hc hT
  have hlim:szB 3<lim:=by decide
  have ht:t.sz≤szB 3:=(hc.ft (h':=fun _=>0)).sz
  have h3:=sz3
  obtain ⟨a,S1,h1,σ1,e1,B1⟩:=blur_tot (l:=m) (lv:=0) t.sz 3 t [] 0 (fun _=>0) (fun n=>idv false n) hlim hc (Nat.le_refl _) Inv.nil (Sol.nil _) (StF.nil _) stSm.nil (by simp;omega)
  have l1:=B1.len
  simp only [List.length_nil] at l1
  obtain ⟨b,S2,h2,σ2,e2,B2⟩:=blur_tot (l:=n) (lv:=0) t.sz 3 t S1 0 h1 σ1 hlim hc (Nat.le_refl _) B1.inv B1.sol B1.stf B1.sm oq
  have l2:=B2.len
  have na2:tyN S2 a:=B1.ty.up B2.fix
  have fa2:Ft h2 3 a:=B1.ft.in B2.old B1.ty.in
  have ea2:sub σ2 a=t:=by rw [sub_agr B1.ty B2.agr];exact B1.eq
  have p2:phi S2<lim:=by have:=phi_le S2;have:lim=100000000:=rfl;omega
  obtain ⟨ok,S3,h3',R3⟩:=unify_tot 3 hlim S2 h2 a b p2 B2.inv B2.stf na2.s B2.ty.s fa2 B2.ft
  obtain ⟨f3,e3⟩:=R3.ev.some
  have T3:=unify_ok f3 S2 a b ok S3 e3 B2.inv na2.s B2.ty.s
  obtain ⟨hok,σ3,s3,g3⟩:=T3.compl σ2 B2.sol (show sub σ2 a=sub σ2 b by rw [ea2,B2.eq])
  subst hok
  have na3:tyN S3 a:=na2.ext T3.ext
  have nb3:tyN S3 b:=B2.ty.ext T3.ext
  have fa3:Ft h3' 3 a:=fa2.in R3.old na2.in
  have fb3:Ft h3' 3 b:=B2.ft.in R3.old B2.ty.in
  have ea3:sub σ3 a=t:=by rw [sub_agr na2 g3];exact ea2
  obtain ⟨wf3,ρ,rk,rv,hrk⟩:=T3.inv
  obtain ⟨x,x4,fx⟩:=res_tot wf3 R3.stf hrk 3 hlim a fa3 na3.s
  obtain ⟨y,y5,fy⟩:=res_tot wf3 R3.stf hrk 3 hlim b fb3 nb3.s
  obtain ⟨f4,e4⟩:=x4.some
  obtain ⟨f5,e5⟩:=y5.some
  have ex:=res_rv wf3 rv e4 na3.s
  have ey:=res_rv wf3 rv e5 nb3.s
  have exy:x=y:=by rw [ex,ey];exact T3.sound rfl ρ rv.sol
  subst exy
  have noN2:noN S2:=B2.noN (B1.noN noN.nil)
  have noN3:noN S3:=uni_noN e3 noN2
  obtain ⟨tx,_,hx3,_⟩:=res_ok wf3 f4 a x e4 na3.s
  have ext:sub σ3 x=t:=by rw [hx3 σ3 s3];exact ea3
  have nx:tyN S3 x:=tyN_of tx fx noN3
  have hmx:=(match_ok tx.1 (tx.okG s3) (tyS.dj s3 tx.1 tx.2) [] (fun _ _ h=>by simp [mget] at h)).1
  rw [ext] at hmx
  have vx:validB x=true:=by have:=nx.has;unfold hasB at this;rw [Bool.and_eq_true] at this;exact this.1
  have nt:tyN S3 t:=hc.tyN
  have vt:validB t=true:=by have:=nt.has;unfold hasB at this;rw [Bool.and_eq_true] at this;exact this.1
  have e6:matB x t=true:=by unfold matB;rw [vx,vt,hmx];rfl
  obtain ⟨ok7,S4,h4,R4⟩:=unify_tot 3 hlim S3 h3' a t (Nat.lt_of_le_of_lt (R3.ph rfl) p2) T3.inv R3.stf na3.s nt.s fa3 hc.ft
  obtain ⟨f7,e7⟩:=R4.ev.some
  have T4:=unify_ok f7 S3 a t ok7 S4 e7 T3.inv na3.s nt.s
  obtain ⟨hok,σ4,s4,g4⟩:=T4.compl σ3 s3 (show sub σ3 a=sub σ3 t by rw [ea3,hc.sub])
  subst hok
  have nb4:tyN S4 b:=nb3.ext T4.ext
  have fb4:Ft h4 3 b:=fb3.in R4.old nb3.in
  obtain ⟨wf4,ρ4,rk4,rv4,hrk4⟩:=T4.inv
  obtain ⟨z,z8,fz⟩:=res_tot wf4 R4.stf hrk4 3 hlim b fb4 nb4.s
  obtain ⟨f8,e8⟩:=z8.some
  have ez:z=t:=by
    rw [res_rv wf4 rv4 e8 nb4.s,← T3.sound rfl ρ4 (T4.back ρ4 rv4.sol),T4.sound rfl ρ4 rv4.sol,hc.sub]
  subst ez
  have sa:=fa3.sz
  have sb:=fb3.sz
  have sx:=fx.sz
  have sm3:=uni_sm e3 B2.sm
  exact general_walk l m n z a b x S1 S2 S3 S4 _ _ f3 f4 f5 f7 f8 hl hm hn hT oq oq oq oq e1 e2 B2.sm sm3 (uni_sm e7 sm3) na2.has B2.ty.has e3 na3.has nb3.has nt.has e4 e5 e6 e7 nb4.has e8
end Go.Proofs.YtdikgijfekfaoaaGreatDoor
